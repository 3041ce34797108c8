import PyProof.Rows.All
import Wide.All
import OpenK.AllK
import Wide.FinOn
import HandS.ForMost
import HandS.Steps
import HandS.Exc
import HandS.TryOnly
import HandS.ExcOwn
import HandS.WordsExc
import HandS.IsInst
import HandS.More
import HandS.Flow
import HandS.Strs
import HandS.SetFor
import HandS.ExcIs
import HandS.Rev
import HandS.Deep
import HandS.Conv
import HandS.HotCalls
import PySem.Challenge.RW_fareweb_k05_stops_that_are_not_there
set_option Elab.async false
set_option linter.all false
set_option maxRecDepth 100000
set_option maxHeartbeats 4000000

/-! The base of these proofs: names for the operators' readings, small steps for readings, heaps. -/
namespace FW
open PySem PySem.Spec PyProof.Rows L2

/-! ### the operators' readings by short names -/
def rNeg : V → Hp → VK → Prop := rU fun i => .int (-i)
def rAddI : R2 := rI0 fun i j => .int (i + j)
def rSubI : R2 := rI0 fun i j => .int (i - j)
def rMulI : R2 := rI CMul fun i j => .int (i * j)
def rModI : R2 := rI (fun _ j => 0 < j) fun i j => .int (i % j)
def rDivI : R2 := rI CDiv fun i j => .int (i / j)
def rPowI : R2 := rI CPow fun i j => .int (i ^ j.toNat)
def rLtI : R2 := rI0 fun i j => .bl (decide (i < j))
def rLeI : R2 := rI0 fun i j => .bl (decide (i ≤ j))
def rGtI : R2 := rI0 fun i j => .bl (decide (j < i))
def rGeI : R2 := rI0 fun i j => .bl (decide (j ≤ i))
def rLenS (K : PySem.W.Frag) : List V → Hp → VK → Prop := fun xs H Q => ∃ p ys, xs = [.ref p] ∧ (SqL K H p ys ∨ SqT K H p ys) ∧ Q (.int ys.length) H
def rLenT : List V → Hp → VK → Prop := fun xs H Q => ∃ z, xs = [.str z] ∧ z.length ≤ sizeLine ∧ Q (.int z.length) H
def rListS (K : PySem.W.Frag) : List V → Hp → VK → Prop := fun xs H Q => ∃ p ys, xs = [.ref p] ∧ (SqL K H p ys ∨ SqT K H p ys) ∧ ∀ l, H l = none → Q (.ref l) (upd H l (.lst ys))
def rMin2 : List V → Hp → VK → Prop := fun xs H Q => ∃ i j, xs = [.int i, .int j] ∧ Q (.int (if j < i then j else i)) H
def rMax2 : List V → Hp → VK → Prop := fun xs H Q => ∃ i j, xs = [.int i, .int j] ∧ Q (.int (if j > i then j else i)) H
def rAbs : List V → Hp → VK → Prop := fun xs H Q => ∃ i, xs = [.int i] ∧ Q (.int (if i < 0 then -i else i)) H
def rInt1 : List V → Hp → VK → Prop := fun xs H Q => (∃ i, xs = [.int i] ∧ Q (.int i) H) ∨ ∃ k, xs = [.bl k] ∧ Q (.int (if k then 1 else 0)) H
def tTryOnly (K : PySem.W.Frag) (c : Value) (tb : WX → TS) (ts : Addr → Value → Option Addr → TS) : TS := fun D σ H => tb (wOnly K c ts (fun _ _ _ _ => False) D) D σ H


/-- a loop's word, closed: rd stops at it -/
structure Hold (P : Prop) : Prop where
  h : P
def rIsH (K : PySem.W.Frag) : List V → Hp → VK → Prop := fun xs H Q => Hold (rIsi K xs H Q)
theorem call_isH {X : Cx} : CallR X (.builtin "isinstance") (rIsH X.K) := fun pins s σ H xs us Q I r h => call_isi pins s σ H xs us Q I r h.h
def tIsi (K : PySem.W.Frag) (ta : TE) (c : V) : TE := fun σ H Q => ta σ H fun x H1 => rIsH K [x, c] H1 Q

/-! ### heaps -/
theorem _root_.L2.Same.new {H : Hp} {p : Addr} {o : HO} (h : H p = none) : Same H (upd H p o) := fun b x e => by
  rw [upd_ne (ne_of_none e h)]
  exact e
theorem _root_.L2.Same.mut {H H' : Hp} {p : Addr} {o : HO} (s : Same H H') (h : H p = none) : Same H (upd H' p o) := fun b x e => by
  rw [upd_ne (ne_of_none e h)]
  exact s b x e
theorem _root_.L2.Same.tup {K : PySem.W.Frag} {H H' : Hp} {a : Addr} {xs : List V} (e : Same H H') (h : SqT K H a xs) : SqT K H' a xs := by
  rcases h with (h | ⟨o, h⟩) | h
  · exact .inl (.inl (e _ _ h))
  · exact .inl (.inr ⟨o, e _ _ h⟩)
  · exact .inr h
theorem putF_le (f : Str) (v : V) : ∀ fs : List (Str × V), (putF f v fs).length ≤ fs.length + 1
  | [] => Nat.le_refl _
  | (g, w) :: r => by
    unfold putF
    split
    · simp
    · have := putF_le f v r
      simp only [List.length_cons]
      omega
theorem putF_1 {f : Str} {v : V} : (putF f v []).length < 1000 := by have := putF_le f v []; simp only [List.length_nil] at this; omega
theorem putF_2 {f g : Str} {v u : V} : (putF f v (putF g u [])).length < 1000 := by
  have h1 := putF_le f v (putF g u [])
  have h2 := putF_le g u []
  simp only [List.length_nil] at h2
  omega
theorem sq_ne {K : PySem.W.Frag} {H : Hp} {a b : Addr} {o : HO} {xs : List V} (n : b ≠ a) (h : SqL K H b xs) : SqL K (upd H a o) b xs := by
  rcases h with (h | ⟨u, h⟩) | h
  · exact .inl (.inl (by rw [upd_ne n]; exact h))
  · exact .inl (.inr ⟨u, by rw [upd_ne n]; exact h⟩)
  · exact .inr h
theorem st_ne {K : PySem.W.Frag} {H : Hp} {a b : Addr} {o : HO} {xs : List V} (n : b ≠ a) (h : SqT K H b xs) : SqT K (upd H a o) b xs := by
  rcases h with (h | ⟨u, h⟩) | h
  · exact .inl (.inl (by rw [upd_ne n]; exact h))
  · exact .inl (.inr ⟨u, by rw [upd_ne n]; exact h⟩)
  · exact .inr h
theorem sq_ins {K : PySem.W.Frag} {H : Hp} {a b C dx : Addr} {o : HO} {fs : List (Str × V)} {xs : List V} (e : H a = some (.ins C dx fs)) (h : SqL K H b xs) : SqL K (upd H a o) b xs := by
  rcases h with (h | ⟨u, h⟩) | h
  · exact .inl (.inl (by rw [upd_ne (ne_of h e (by intro z; cases z))]; exact h))
  · exact .inl (.inr ⟨u, by rw [upd_ne (ne_of h e (by intro z; cases z))]; exact h⟩)
  · exact .inr h
theorem st_ins {K : PySem.W.Frag} {H : Hp} {a b C dx : Addr} {o : HO} {fs : List (Str × V)} {xs : List V} (e : H a = some (.ins C dx fs)) (h : SqT K H b xs) : SqT K (upd H a o) b xs := by
  rcases h with (h | ⟨u, h⟩) | h
  · exact .inl (.inl (by rw [upd_ne (ne_of h e (by intro z; cases z))]; exact h))
  · exact .inl (.inr ⟨u, by rw [upd_ne (ne_of h e (by intro z; cases z))]; exact h⟩)
  · exact .inr h
theorem st_lst {K : PySem.W.Frag} {H : Hp} {a b : Addr} {o : HO} {ys xs : List V} (e : H a = some (.lst ys)) (h : SqT K H b xs) : SqT K (upd H a o) b xs := by
  rcases h with (h | ⟨u, h⟩) | h
  · exact .inl (.inl (by rw [upd_ne (ne_of h e (by intro z; cases z))]; exact h))
  · exact .inl (.inr ⟨u, by rw [upd_ne (ne_of h e (by intro z; cases z))]; exact h⟩)
  · exact .inr h
theorem sq_new {K : PySem.W.Frag} {H : Hp} {a b : Addr} {o : HO} {xs : List V} (e : H a = none) (h : SqL K H b xs) : SqL K (upd H a o) b xs := L2.Same.seq (Same.new e) h
theorem st_new {K : PySem.W.Frag} {H : Hp} {a b : Addr} {o : HO} {xs : List V} (e : H a = none) (h : SqT K H b xs) : SqT K (upd H a o) b xs := Same.tup (Same.new e) h
theorem ne_sym {a b : Addr} (h : a ≠ b) : b ≠ a := fun e => h e.symm
theorem upd_other {H : Hp} {a b : Addr} {o : HO} {u : Option HO} (h : b ≠ a) (e : H b = u) : upd H a o b = u := by rw [upd_ne h]; exact e
theorem ite_dT {p : Prop} [Decidable p] {A B : Prop} (h : p) (k : A) : if decide p = true then A else B := by
  rw [decide_eq_true h]
  exact iteT k
theorem ite_dF {p : Prop} [Decidable p] {A B : Prop} (h : ¬ p) (k : B) : if decide p = true then A else B := by
  rw [decide_eq_false h]
  exact iteF k
theorem ite_d {p : Prop} [Decidable p] {A B : Prop} (h1 : p → A) (h2 : ¬ p → B) : if decide p = true then A else B := by
  by_cases h : p
  · exact ite_dT h (h1 h)
  · exact ite_dF h (h2 h)
theorem ite_nT {p : Prop} [Decidable p] {A B : Prop} (h : ¬ p) (k : A) : if (!decide p) = true then A else B := by
  rw [decide_eq_false h]
  exact iteT k
theorem ite_nF {p : Prop} [Decidable p] {A B : Prop} (h : p) (k : B) : if (!decide p) = true then A else B := by
  rw [decide_eq_true h]
  exact iteF k
theorem ite_n {p : Prop} [Decidable p] {A B : Prop} (h1 : ¬ p → A) (h2 : p → B) : if (!decide p) = true then A else B := by
  by_cases h : p
  · exact ite_nF h (h2 h)
  · exact ite_nT h (h1 h)
theorem ite_b {b : Bool} {A B : Prop} (h1 : b = true → A) (h2 : b = false → B) : if b = true then A else B := by
  cases b with
  | true => exact iteT (h1 rfl)
  | false => exact iteF (h2 rfl)
theorem small {n m : Nat} (h : n ≤ 100000) : n ≤ sizeLine := Nat.le_trans h (by decide)
theorem small_lt {n : Nat} (h : n < 100000) : n < sizeLine := Nat.lt_of_lt_of_le h (by decide)
theorem small_le {n : Nat} (h : n ≤ 100000) : n ≤ sizeLine := Nat.le_trans h (by decide)
theorem atI_lt {α : Type} {xs : List α} {i : Int} {v : α} (h0 : 0 ≤ i) (h : xs[i.toNat]? = some v) : atI xs i = some v := by
  have e : i = ((i.toNat : Nat) : Int) := (Int.toNat_of_nonneg h0).symm
  rw [e]
  exact atI_nat h
theorem atI_map {ns : List Int} {i : Int} (h0 : 0 ≤ i) (h1 : i < ns.length) : atI (ns.map V.int) i = some (V.int (ns.getD i.toNat 0)) := by
  have h : i.toNat < ns.length := by omega
  refine atI_lt h0 ?_
  rw [List.getElem?_map, List.getElem?_eq_getElem h, List.getD_eq_getElem?_getD, List.getElem?_eq_getElem h]
  rfl


/-! ### a heap without one object: what is said of it stays when that object is changed -/
def del (H : Hp) (a : Addr) : Hp := fun b => if b = a then none else H b
theorem del_at {H : Hp} {a : Addr} : del H a a = none := by unfold del; rw [if_pos rfl]
theorem del_ne {H : Hp} {a b : Addr} (h : b ≠ a) : del H a b = H b := by unfold del; rw [if_neg h]
theorem del_get {H : Hp} {a b : Addr} {o : HO} (h : del H a b = some o) : H b = some o ∧ b ≠ a := by
  by_cases e : b = a
  · rw [e, del_at] at h
    cases h
  · exact ⟨by rw [del_ne e] at h; exact h, e⟩
theorem del_upd {H : Hp} {a : Addr} {o : HO} : del (upd H a o) a = del H a := by
  funext b
  by_cases e : b = a
  · rw [e, del_at, del_at]
  · rw [del_ne e, del_ne e, upd_ne e]
theorem upd_del {H : Hp} {a : Addr} {o : HO} : upd (del H a) a o = upd H a o := by
  funext b
  by_cases e : b = a
  · rw [e, upd_same, upd_same]
  · rw [upd_ne e, upd_ne e, del_ne e]
theorem upd_del_self {H : Hp} {a : Addr} {o : HO} (h : H a = some o) : upd (del H a) a o = H := by
  funext b
  by_cases e : b = a
  · rw [e, upd_same, h]
  · rw [upd_ne e, del_ne e]
theorem del_upd_ne {H : Hp} {a b : Addr} {o : HO} (n : b ≠ a) : del (upd H b o) a = upd (del H a) b o := by
  funext c
  by_cases e : c = a
  · rw [e, del_at, upd_ne (ne_sym n), del_at]
  · by_cases f : c = b
    · rw [f, del_ne n, upd_same, upd_same]
    · rw [del_ne e, upd_ne f, upd_ne f, del_ne e]
theorem del_sub (H : Hp) (a : Addr) : Same (del H a) H := fun b o e => (del_get e).1
theorem _root_.L2.Same.del2 {H H' : Hp} (a : Addr) (s : Same H H') : Same (del H a) (del H' a) := fun b o e => by
  obtain ⟨e1, n⟩ := del_get e
  rw [del_ne n]
  exact s _ _ e1
/-- what stood ahead of a's making stands still -/
theorem _root_.L2.Same.delN {H H' : Hp} {a : Addr} (s : Same H H') (h : H a = none) : Same H (del H' a) := fun b o e => by
  rw [del_ne (ne_of_none e h)]
  exact s _ _ e
theorem del_new {H : Hp} {a : Addr} {o : HO} (h : H a = none) : del (upd H a o) a = H := by
  rw [del_upd]
  funext b
  by_cases e : b = a
  · rw [e, del_at, h]
  · rw [del_ne e]

/-- a heap without the objects at hs -/
def dels (H : Hp) (hs : List Addr) : Hp := fun b => if b ∈ hs then none else H b
theorem dels_in {H : Hp} {hs : List Addr} {a : Addr} (h : a ∈ hs) : dels H hs a = none := by unfold dels; rw [if_pos h]
theorem dels_out {H : Hp} {hs : List Addr} {a : Addr} (h : a ∉ hs) : dels H hs a = H a := by unfold dels; rw [if_neg h]
theorem dels_get {H : Hp} {hs : List Addr} {a : Addr} {o : HO} (h : dels H hs a = some o) : H a = some o ∧ a ∉ hs := by
  by_cases c : a ∈ hs
  · rw [dels_in c] at h
    cases h
  · exact ⟨by rw [dels_out c] at h; exact h, c⟩
theorem dels_sub (H : Hp) (hs : List Addr) : Same (dels H hs) H := fun b o e => (dels_get e).1
theorem _root_.L2.Same.dels2 {H H' : Hp} (hs : List Addr) (s : Same H H') : Same (dels H hs) (dels H' hs) := fun b o e => by
  obtain ⟨e1, n⟩ := dels_get e
  rw [dels_out n]
  exact s _ _ e1
theorem _root_.L2.Same.delsN {H H' : Hp} {hs : List Addr} (s : Same H H') (h : ∀ a ∈ hs, H a = none) : Same H (dels H' hs) := fun b o e => by
  rw [dels_out fun m => ne_of_none e (h b m) rfl]
  exact s _ _ e

/-! ### comprehensions -/
/-- what turn i gives: a value, or nothing; the heap may grow -/
theorem lc_rangeF {lo : Int} {n : Nat} {g : TG} {tt : TT} {te : TE} {vs : List Nat} {σ : L2.St} {H1 : Hp} {D : Addr} {Qd : Hp → Prop} (hD : H1 D = none) (hn : n ≤ 50000) (F : Nat → Option V)
    (hs : ∀ (i : Nat) (H' : Hp), i < n → Same H1 H' → ∀ (G : V → Hp → Prop) (N : Hp → Prop), (∀ y H'', F i = some y → Same H' H'' → G y H'') → (∀ H'', F i = none → Same H' H'' → N H'') →
      g (.int (lo + i)) (wipe σ vs) H' fun σ2 H2 => wipe σ2 vs = wipe σ vs ∧ tt σ2 H2 fun b H3 => if b = true then te σ2 H3 G else N H3)
    (hd : ∀ H'', Same H1 (del H'' D) → H'' D = some (.lst ((List.range n).filterMap F)) → Qd H'') :
    ∃ W : Nat → Nat → Hp → Prop, (∃ m, W 0 m (upd H1 D (.lst []))) ∧ ∀ i m H, W i m H →
      ((Itr lo n).stop i H ∧ Qd H) ∨ ((Itr lo n).go i H ∧ ∃ Nx : Hp → Prop, (∀ H', Nx H' → ∃ m', m' < m ∧ W (i + 1) m' H') ∧ ∀ x H', (Itr lo n).yld i H x H' → g x (wipe σ vs) H' fun σ2 H2 => wipe σ2 vs = wipe σ vs ∧ tt σ2 H2 fun b H3 =>
        if b = true then te σ2 H3 fun y H4 => ∃ acc, H4 D = some (.lst acc) ∧ acc.length < sizeLine ∧ Nx (upd H4 D (.lst (acc ++ [y]))) else Nx H3) := by
  refine lc_range (fun i H' => Same H1 (del H' D) ∧ H' D = some (.lst ((List.range i).filterMap F))) ⟨by rw [del_new hD]; exact Same.refl _, upd_same⟩ (fun i H' hi ⟨p1, p2⟩ => ?_) (fun H' ⟨p1, p2⟩ => hd H' p1 p2)
  refine hs i H' hi (p1.trans (del_sub _ _)) _ _ (fun y H'' e s => ⟨_, s _ _ p2, ?_, p1.trans (by rw [del_upd]; exact s.del2 D), ?_⟩) (fun H'' e s => ⟨p1.trans (s.del2 D), ?_⟩)
  · refine small_lt ?_
    have h1 := List.length_filterMap_le F (List.range i)
    rw [List.length_range] at h1
    omega
  · rw [upd_same, List.range_succ, List.filterMap_append, List.filterMap_cons, e]
    rfl
  · rw [s _ _ p2, List.range_succ, List.filterMap_append, List.filterMap_cons, e, List.filterMap_nil, List.append_nil]
theorem filterMap_take {α β : Type} (f : α → Option β) {l : List α} {i : Nat} {x : α} (h : l[i]? = some x) : (l.take (i + 1)).filterMap f = (l.take i).filterMap f ++ (f x).toList := by
  rw [List.take_add_one, h, List.filterMap_append, Option.toList_some, List.filterMap_cons]
  cases f x <;> rfl
theorem lc_listF {K : PySem.W.Frag} {a : Addr} {xs : List V} {g : TG} {tt : TT} {te : TE} {vs : List Nat} {σ : L2.St} {H1 : Hp} {D : Addr} {Qd : Hp → Prop} (hD : H1 D = none) (hS : SqL K H1 a xs) (hn : xs.length ≤ 50000) (F : V → Option V)
    (hs : ∀ (i : Nat) (x : V) (H' : Hp), xs[i]? = some x → Same H1 H' → ∀ (G : V → Hp → Prop) (N : Hp → Prop), (∀ y H'', F x = some y → Same H' H'' → G y H'') → (∀ H'', F x = none → Same H' H'' → N H'') →
      g x (wipe σ vs) H' fun σ2 H2 => wipe σ2 vs = wipe σ vs ∧ tt σ2 H2 fun b H3 => if b = true then te σ2 H3 G else N H3)
    (hd : ∀ H'', Same H1 (del H'' D) → H'' D = some (.lst (xs.filterMap F)) → Qd H'') :
    ∃ W : Nat → Nat → Hp → Prop, (∃ m, W 0 m (upd H1 D (.lst []))) ∧ ∀ i m H, W i m H →
      ((Itl K a).stop i H ∧ Qd H) ∨ ((Itl K a).go i H ∧ ∃ Nx : Hp → Prop, (∀ H', Nx H' → ∃ m', m' < m ∧ W (i + 1) m' H') ∧ ∀ x H', (Itl K a).yld i H x H' → g x (wipe σ vs) H' fun σ2 H2 => wipe σ2 vs = wipe σ vs ∧ tt σ2 H2 fun b H3 =>
        if b = true then te σ2 H3 fun y H4 => ∃ acc, H4 D = some (.lst acc) ∧ acc.length < sizeLine ∧ Nx (upd H4 D (.lst (acc ++ [y]))) else Nx H3) := by
  refine lc_list (xs := xs) (fun i H' => Same H1 (del H' D) ∧ H' D = some (.lst ((xs.take i).filterMap F))) ⟨by rw [del_new hD]; exact Same.refl _, upd_same⟩ (fun i H' _ ⟨p1, p2⟩ => (p1.trans (del_sub _ _)).seq hS) (fun i x H' hx ⟨p1, p2⟩ => ?_) (fun H' ⟨p1, p2⟩ => hd H' p1 (by rw [List.take_length] at p2; exact p2))
  have hi : i < xs.length := (List.getElem?_eq_some_iff.mp hx).1
  refine hs i x H' hx (p1.trans (del_sub _ _)) _ _ (fun y H'' e s => ⟨_, s _ _ p2, ?_, p1.trans (by rw [del_upd]; exact s.del2 D), ?_⟩) (fun H'' e s => ⟨p1.trans (s.del2 D), ?_⟩)
  · refine small_lt ?_
    have h1 := List.length_filterMap_le F (xs.take i)
    rw [List.length_take] at h1
    omega
  · rw [upd_same, filterMap_take F hx, e]
    rfl
  · rw [s _ _ p2, filterMap_take F hx, e]
    simp
theorem lc_tupF {K : PySem.W.Frag} {a : Addr} {xs : List V} {g : TG} {tt : TT} {te : TE} {vs : List Nat} {σ : L2.St} {H1 : Hp} {D : Addr} {Qd : Hp → Prop} (hD : H1 D = none) (hS : SqT K H1 a xs) (hn : xs.length ≤ 50000) (F : V → Option V)
    (hs : ∀ (i : Nat) (x : V) (H' : Hp), xs[i]? = some x → Same H1 H' → ∀ (G : V → Hp → Prop) (N : Hp → Prop), (∀ y H'', F x = some y → Same H' H'' → G y H'') → (∀ H'', F x = none → Same H' H'' → N H'') →
      g x (wipe σ vs) H' fun σ2 H2 => wipe σ2 vs = wipe σ vs ∧ tt σ2 H2 fun b H3 => if b = true then te σ2 H3 G else N H3)
    (hd : ∀ H'', Same H1 (del H'' D) → H'' D = some (.lst (xs.filterMap F)) → Qd H'') :
    ∃ W : Nat → Nat → Hp → Prop, (∃ m, W 0 m (upd H1 D (.lst []))) ∧ ∀ i m H, W i m H →
      ((Itt K a).stop i H ∧ Qd H) ∨ ((Itt K a).go i H ∧ ∃ Nx : Hp → Prop, (∀ H', Nx H' → ∃ m', m' < m ∧ W (i + 1) m' H') ∧ ∀ x H', (Itt K a).yld i H x H' → g x (wipe σ vs) H' fun σ2 H2 => wipe σ2 vs = wipe σ vs ∧ tt σ2 H2 fun b H3 =>
        if b = true then te σ2 H3 fun y H4 => ∃ acc, H4 D = some (.lst acc) ∧ acc.length < sizeLine ∧ Nx (upd H4 D (.lst (acc ++ [y]))) else Nx H3) := by
  refine lc_tup (xs := xs) (fun i H' => Same H1 (del H' D) ∧ H' D = some (.lst ((xs.take i).filterMap F))) ⟨by rw [del_new hD]; exact Same.refl _, upd_same⟩ (fun i H' _ ⟨p1, p2⟩ => Same.tup (p1.trans (del_sub _ _)) hS) (fun i x H' hx ⟨p1, p2⟩ => ?_) (fun H' ⟨p1, p2⟩ => hd H' p1 (by rw [List.take_length] at p2; exact p2))
  have hi : i < xs.length := (List.getElem?_eq_some_iff.mp hx).1
  refine hs i x H' hx (p1.trans (del_sub _ _)) _ _ (fun y H'' e s => ⟨_, s _ _ p2, ?_, p1.trans (by rw [del_upd]; exact s.del2 D), ?_⟩) (fun H'' e s => ⟨p1.trans (s.del2 D), ?_⟩)
  · refine small_lt ?_
    have h1 := List.length_filterMap_le F (xs.take i)
    rw [List.length_take] at h1
    omega
  · rw [upd_same, filterMap_take F hx, e]
    rfl
  · rw [s _ _ p2, filterMap_take F hx, e]
    simp
/-- each turn gives a value of which P holds (P stays while the heap grows) -/
theorem lc_rangeP {lo : Int} {n : Nat} {g : TG} {tt : TT} {te : TE} {vs : List Nat} {σ : L2.St} {H1 : Hp} {D : Addr} {Qd : Hp → Prop} (hD : H1 D = none) (hn : n ≤ 50000) (P : Nat → V → Hp → Prop) (hP : ∀ i y H H', P i y H → Same H H' → P i y H')
    (hs : ∀ (i : Nat) (H' : Hp), i < n → Same H1 H' → ∀ (G : V → Hp → Prop) (N : Hp → Prop), (∀ y H'', P i y (del H'' D) → Same H' H'' → G y H'') →
      g (.int (lo + i)) (wipe σ vs) H' fun σ2 H2 => wipe σ2 vs = wipe σ vs ∧ tt σ2 H2 fun b H3 => if b = true then te σ2 H3 G else N H3)
    (hd : ∀ H'' ys, Same H1 (del H'' D) → H'' D = some (.lst ys) → ys.length = n → (∀ (i : Nat) y, ys[i]? = some y → P i y (del H'' D)) → Qd H'') :
    ∃ W : Nat → Nat → Hp → Prop, (∃ m, W 0 m (upd H1 D (.lst []))) ∧ ∀ i m H, W i m H →
      ((Itr lo n).stop i H ∧ Qd H) ∨ ((Itr lo n).go i H ∧ ∃ Nx : Hp → Prop, (∀ H', Nx H' → ∃ m', m' < m ∧ W (i + 1) m' H') ∧ ∀ x H', (Itr lo n).yld i H x H' → g x (wipe σ vs) H' fun σ2 H2 => wipe σ2 vs = wipe σ vs ∧ tt σ2 H2 fun b H3 =>
        if b = true then te σ2 H3 fun y H4 => ∃ acc, H4 D = some (.lst acc) ∧ acc.length < sizeLine ∧ Nx (upd H4 D (.lst (acc ++ [y]))) else Nx H3) := by
  refine lc_range (fun i H' => Same H1 (del H' D) ∧ ∃ ys, H' D = some (.lst ys) ∧ ys.length = i ∧ ∀ (j : Nat) y, ys[j]? = some y → P j y (del H' D)) ⟨by rw [del_new hD]; exact Same.refl _, [], upd_same, rfl, fun j y h => by simp at h⟩ (fun i H' hi ⟨p1, ys, p2, p3, p4⟩ => ?_) (fun H' ⟨p1, ys, p2, p3, p4⟩ => hd H' ys p1 p2 p3 p4)
  refine hs i H' hi (p1.trans (del_sub _ _)) _ _ (fun y H'' hy s => ⟨_, s _ _ p2, small_lt (by omega), p1.trans (by rw [del_upd]; exact s.del2 D), ys ++ [y], upd_same, by simp [p3], fun j z hz => ?_⟩)
  rw [del_upd]
  by_cases e : j < ys.length
  · rw [List.getElem?_append_left e] at hz
    exact hP _ _ _ _ (p4 j z hz) (s.del2 D)
  · rw [List.getElem?_append_right (by omega)] at hz
    have e0 : j - ys.length = 0 := by
      cases q : j - ys.length with
      | zero => rfl
      | succ m => rw [q] at hz; simp at hz
    rw [e0] at hz
    have ez : y = z := Option.some.inj hz
    have ej : j = i := by omega
    rw [← ez, ej]
    exact hy
theorem lc_listP {K : PySem.W.Frag} {a : Addr} {xs : List V} {g : TG} {tt : TT} {te : TE} {vs : List Nat} {σ : L2.St} {H1 : Hp} {D : Addr} {Qd : Hp → Prop} (hD : H1 D = none) (hS : SqL K H1 a xs) (hn : xs.length ≤ 50000) (P : Nat → V → Hp → Prop) (hP : ∀ i y H H', P i y H → Same H H' → P i y H')
    (hs : ∀ (i : Nat) (x : V) (H' : Hp), xs[i]? = some x → Same H1 H' → H' D ≠ none → ∀ (G : V → Hp → Prop) (N : Hp → Prop), (∀ y H'', P i y (del H'' D) → Same H' H'' → G y H'') →
      g x (wipe σ vs) H' fun σ2 H2 => wipe σ2 vs = wipe σ vs ∧ tt σ2 H2 fun b H3 => if b = true then te σ2 H3 G else N H3)
    (hd : ∀ H'' ys, Same H1 (del H'' D) → H'' D = some (.lst ys) → ys.length = xs.length → (∀ (i : Nat) y, ys[i]? = some y → P i y (del H'' D)) → Qd H'') :
    ∃ W : Nat → Nat → Hp → Prop, (∃ m, W 0 m (upd H1 D (.lst []))) ∧ ∀ i m H, W i m H →
      ((Itl K a).stop i H ∧ Qd H) ∨ ((Itl K a).go i H ∧ ∃ Nx : Hp → Prop, (∀ H', Nx H' → ∃ m', m' < m ∧ W (i + 1) m' H') ∧ ∀ x H', (Itl K a).yld i H x H' → g x (wipe σ vs) H' fun σ2 H2 => wipe σ2 vs = wipe σ vs ∧ tt σ2 H2 fun b H3 =>
        if b = true then te σ2 H3 fun y H4 => ∃ acc, H4 D = some (.lst acc) ∧ acc.length < sizeLine ∧ Nx (upd H4 D (.lst (acc ++ [y]))) else Nx H3) := by
  refine lc_list (xs := xs) (fun i H' => Same H1 (del H' D) ∧ ∃ ys, H' D = some (.lst ys) ∧ ys.length = i ∧ ∀ (j : Nat) y, ys[j]? = some y → P j y (del H' D)) ⟨by rw [del_new hD]; exact Same.refl _, [], upd_same, rfl, fun j y h => by simp at h⟩ (fun i H' _ ⟨p1, p2⟩ => (p1.trans (del_sub _ _)).seq hS) (fun i x H' hx ⟨p1, ys, p2, p3, p4⟩ => ?_) (fun H' ⟨p1, ys, p2, p3, p4⟩ => hd H' ys p1 p2 p3 p4)
  have hi : i < xs.length := (List.getElem?_eq_some_iff.mp hx).1
  refine hs i x H' hx (p1.trans (del_sub _ _)) (by rw [p2]; intro z; cases z) _ _ (fun y H'' hy s => ⟨_, s _ _ p2, small_lt (by omega), p1.trans (by rw [del_upd]; exact s.del2 D), ys ++ [y], upd_same, by simp [p3], fun j z hz => ?_⟩)
  rw [del_upd]
  by_cases e : j < ys.length
  · rw [List.getElem?_append_left e] at hz
    exact hP _ _ _ _ (p4 j z hz) (s.del2 D)
  · rw [List.getElem?_append_right (by omega)] at hz
    have e0 : j - ys.length = 0 := by
      cases q : j - ys.length with
      | zero => rfl
      | succ m => rw [q] at hz; simp at hz
    rw [e0] at hz
    have ez : y = z := Option.some.inj hz
    have ej : j = i := by omega
    rw [← ez, ej]
    exact hy

theorem fm_some {α β : Type} {f : α → β} {l : List α} : l.filterMap (fun k => some (f k)) = l.map f := by
  induction l with
  | nil => rfl
  | cons a r ih => rw [List.filterMap_cons, ih]; rfl
/-- the new objects that a comprehension has made so far, at addrs -/
structure News (H1 : Hp) (D : Addr) (obj : Nat → HO) (addrs : List Addr) (H' : Hp) : Prop where
  same : Same H1 (del H' D)
  lst : H' D = some (.lst (addrs.map V.ref))
  nd : addrs.Nodup
  old : ∀ p ∈ addrs, H1 p = none
  at_ : ∀ (j : Nat) (p : Addr), addrs[j]? = some p → del H' D p = some (obj j)
theorem News.snoc {H1 H' H'' : Hp} {D l : Addr} {obj : Nat → HO} {addrs : List Addr} (N : News H1 D obj addrs H') (hl : H' l = none) (s : Same H' H'') (e : H'' l = some (obj addrs.length)) :
    News H1 D obj (addrs ++ [l]) (upd H'' D (.lst (addrs.map V.ref ++ [.ref l]))) where
  same := by rw [del_upd]; exact N.same.trans (s.del2 D)
  lst := by rw [upd_same, List.map_append]; rfl
  nd := by
    refine List.nodup_append.mpr ⟨N.nd, by simp, fun a ha b hb => ?_⟩
    have eb : b = l := by simpa using hb
    rw [eb]
    intro e2
    obtain ⟨j, hj⟩ := List.mem_iff_getElem?.mp ha
    have := (del_get (N.at_ j a hj)).1
    rw [e2, hl] at this
    cases this
  old := fun p hp => by
    rcases List.mem_append.mp hp with h | h
    · exact N.old p h
    · have ep : p = l := by simpa using h
      rw [ep]
      cases q : H1 l with
      | none => rfl
      | some o =>
        have := (del_get (N.same l o q)).1
        rw [hl] at this
        cases this
  at_ := fun j p hj => by
    rw [del_upd]
    by_cases c : j < addrs.length
    · rw [List.getElem?_append_left c] at hj
      exact s.del2 D _ _ (N.at_ j p hj)
    · have hjl : j < (addrs ++ [l]).length := (List.getElem?_eq_some_iff.mp hj).1
      rw [List.length_append, List.length_singleton] at hjl
      have ej : j = addrs.length := by omega
      rw [ej, List.getElem?_append_right (Nat.le_refl _), Nat.sub_self] at hj
      have ep : l = p := Option.some.inj hj
      have nlD : l ≠ D := fun z => by rw [z, N.lst] at hl; cases hl
      rw [← ep, del_ne nlD, e, ej]
theorem News.nil {H1 : Hp} {D : Addr} {obj : Nat → HO} (hD : H1 D = none) : News H1 D obj [] (upd H1 D (.lst [])) where
  same := by rw [del_new hD]; exact Same.refl _
  lst := upd_same
  nd := List.nodup_nil
  old := fun p hp => by simp at hp
  at_ := fun j p h => by simp at h
/-- each turn makes one new object -/
theorem lc_rangeN {lo : Int} {n : Nat} {g : TG} {tt : TT} {te : TE} {vs : List Nat} {σ : L2.St} {H1 : Hp} {D : Addr} {Qd : Hp → Prop} (hD : H1 D = none) (hn : n ≤ 50000) (obj : Nat → HO)
    (hs : ∀ (i : Nat) (H' : Hp), i < n → Same H1 H' → ∀ (G : V → Hp → Prop) (N : Hp → Prop), (∀ l H'', H' l = none → Same H' H'' → H'' l = some (obj i) → G (.ref l) H'') →
      g (.int (lo + i)) (wipe σ vs) H' fun σ2 H2 => wipe σ2 vs = wipe σ vs ∧ tt σ2 H2 fun b H3 => if b = true then te σ2 H3 G else N H3)
    (hd : ∀ H'' addrs, addrs.length = n → News H1 D obj addrs H'' → Qd H'') :
    ∃ W : Nat → Nat → Hp → Prop, (∃ m, W 0 m (upd H1 D (.lst []))) ∧ ∀ i m H, W i m H →
      ((Itr lo n).stop i H ∧ Qd H) ∨ ((Itr lo n).go i H ∧ ∃ Nx : Hp → Prop, (∀ H', Nx H' → ∃ m', m' < m ∧ W (i + 1) m' H') ∧ ∀ x H', (Itr lo n).yld i H x H' → g x (wipe σ vs) H' fun σ2 H2 => wipe σ2 vs = wipe σ vs ∧ tt σ2 H2 fun b H3 =>
        if b = true then te σ2 H3 fun y H4 => ∃ acc, H4 D = some (.lst acc) ∧ acc.length < sizeLine ∧ Nx (upd H4 D (.lst (acc ++ [y]))) else Nx H3) := by
  refine lc_range (fun i H' => ∃ addrs : List Addr, addrs.length = i ∧ News H1 D obj addrs H') ⟨[], rfl, News.nil hD⟩ (fun i H' hi ⟨addrs, hl, N⟩ => ?_) (fun H' ⟨addrs, hl, N⟩ => hd H' addrs hl N)
  refine hs i H' hi (N.same.trans (del_sub _ _)) _ _ (fun l H'' h1 s e => ⟨_, s _ _ N.lst, small_lt (by rw [List.length_map]; omega), addrs ++ [l], by simp [hl], N.snoc h1 s (by rw [hl]; exact e)⟩)
theorem lc_listN {K : PySem.W.Frag} {a : Addr} {xs : List V} {g : TG} {tt : TT} {te : TE} {vs : List Nat} {σ : L2.St} {H1 : Hp} {D : Addr} {Qd : Hp → Prop} (hD : H1 D = none) (hS : SqL K H1 a xs) (hn : xs.length ≤ 50000) (obj : Nat → HO)
    (hs : ∀ (i : Nat) (x : V) (H' : Hp), xs[i]? = some x → Same H1 H' → ∀ (G : V → Hp → Prop) (N : Hp → Prop), (∀ l H'', H' l = none → Same H' H'' → H'' l = some (obj i) → G (.ref l) H'') →
      g x (wipe σ vs) H' fun σ2 H2 => wipe σ2 vs = wipe σ vs ∧ tt σ2 H2 fun b H3 => if b = true then te σ2 H3 G else N H3)
    (hd : ∀ H'' addrs, addrs.length = xs.length → News H1 D obj addrs H'' → Qd H'') :
    ∃ W : Nat → Nat → Hp → Prop, (∃ m, W 0 m (upd H1 D (.lst []))) ∧ ∀ i m H, W i m H →
      ((Itl K a).stop i H ∧ Qd H) ∨ ((Itl K a).go i H ∧ ∃ Nx : Hp → Prop, (∀ H', Nx H' → ∃ m', m' < m ∧ W (i + 1) m' H') ∧ ∀ x H', (Itl K a).yld i H x H' → g x (wipe σ vs) H' fun σ2 H2 => wipe σ2 vs = wipe σ vs ∧ tt σ2 H2 fun b H3 =>
        if b = true then te σ2 H3 fun y H4 => ∃ acc, H4 D = some (.lst acc) ∧ acc.length < sizeLine ∧ Nx (upd H4 D (.lst (acc ++ [y]))) else Nx H3) := by
  refine lc_list (xs := xs) (fun i H' => ∃ addrs : List Addr, addrs.length = i ∧ News H1 D obj addrs H') ⟨[], rfl, News.nil hD⟩ (fun i H' _ ⟨addrs, hl, N⟩ => (N.same.trans (del_sub _ _)).seq hS) (fun i x H' hx ⟨addrs, hl, N⟩ => ?_) (fun H' ⟨addrs, hl, N⟩ => hd H' addrs hl N)
  have hi : i < xs.length := (List.getElem?_eq_some_iff.mp hx).1
  refine hs i x H' hx (N.same.trans (del_sub _ _)) _ _ (fun l H'' h1 s e => ⟨_, s _ _ N.lst, small_lt (by rw [List.length_map]; omega), addrs ++ [l], by simp [hl], N.snoc h1 s (by rw [hl]; exact e)⟩)

/-! ### data to be compared -/
mutual
theorem Dp.same {K : PySem.W.Frag} {H H' : Hp} (s : Same H H') : ∀ (d : PyData) (v : V), Dp K H v d → Dp K H' v d
  | .none, _, h => by cases h; exact .non
  | .bool b, _, h => by cases h; exact .bl b
  | .int i, _, h => by cases h; exact .int i
  | .str x, _, h => by cases h; exact .str x
  | .list ds, _, h => by
    cases h with
    | lst hs ha => exact .lst (s.seq hs) (DpAll.same s ds _ ha)
  | .tuple ds, _, h => by
    cases h with
    | tup hs ha => exact .tup (Same.tup s hs) (DpAll.same s ds _ ha)
  | .dict _, _, h => by cases h
theorem DpAll.same {K : PySem.W.Frag} {H H' : Hp} (s : Same H H') : ∀ (ds : List PyData) (vs : List V), DpAll K H vs ds → DpAll K H' vs ds
  | [], _, h => by cases h; exact .nil
  | d :: ds, _, h => by
    cases h with
    | cons h1 h2 => exact .cons (Dp.same s d _ h1) (DpAll.same s ds _ h2)
end
/-- shaped, and no deeper than n -/
def Shp (n : Nat) (d : PyData) : Prop := d.canLay0 = true ∧ d.depth ≤ n
theorem Shp.all {n : Nat} : ∀ {ds : List PyData}, (∀ d ∈ ds, Shp n d) → PyData.canLayAll0 ds = true ∧ PyData.depthAll ds ≤ n
  | [], _ => ⟨rfl, Nat.zero_le _⟩
  | d :: ds, h => by
    obtain ⟨h1, h2⟩ := h d List.mem_cons_self
    obtain ⟨h3, h4⟩ := Shp.all (ds := ds) fun x hx => h x (List.mem_cons_of_mem _ hx)
    refine ⟨?_, ?_⟩
    · show (d.canLay0 && PyData.canLayAll0 ds) = true
      rw [h1, h3]
      rfl
    · show max d.depth (PyData.depthAll ds) ≤ n
      omega
theorem Shp.list {n : Nat} {ds : List PyData} (h : ∀ d ∈ ds, Shp n d) : Shp (n + 1) (.list ds) := by
  obtain ⟨h1, h2⟩ := Shp.all h
  exact ⟨h1, Nat.succ_le_succ h2⟩
theorem Shp.tuple {n : Nat} {ds : List PyData} (h : ∀ d ∈ ds, Shp n d) : Shp (n + 1) (.tuple ds) := by
  obtain ⟨h1, h2⟩ := Shp.all h
  exact ⟨h1, Nat.succ_le_succ h2⟩
theorem Shp.int (n : Nat) (i : Int) : Shp n (.int i) := ⟨rfl, Nat.zero_le _⟩
theorem Shp.non (n : Nat) : Shp n .none := ⟨rfl, Nat.zero_le _⟩
theorem Shp.ok {n : Nat} {d : PyData} (h : Shp n d) (hn : n ≤ 64) : SeqAt.shaped d = true := by
  unfold SeqAt.shaped
  rw [h.1, decide_eq_true (Nat.le_trans h.2 hn)]
  rfl
theorem Shp.refl {n : Nat} {d : PyData} (h : Shp n d) : PyData.eqv d d = true := SeqAt.eqv_refl d h.1
theorem dpAll_ints {K : PySem.W.Frag} {H : Hp} : ∀ ns : List Int, DpAll K H (ns.map V.int) (ns.map PyData.int)
  | [] => .nil
  | n :: r => .cons (.int n) (dpAll_ints r)
theorem dp_ints {K : PySem.W.Frag} {H : Hp} {a : Addr} {ns : List Int} (h : SqL K H a (ns.map V.int)) : Dp K H (.ref a) (.list (ns.map PyData.int)) := .lst h (dpAll_ints ns)
theorem shp_ints (ns : List Int) : Shp 1 (.list (ns.map PyData.int)) := Shp.list fun d hd => by
  obtain ⟨i, _, rfl⟩ := List.mem_map.mp hd
  exact Shp.int 0 i
/-- == of equal data, as the reading of op_eqD, op_neD wants it -/
def rEqH (K : PySem.W.Frag) : R2 := fun x y H Q => Hold (rEqD K x y H Q)
def rNeH (K : PySem.W.Frag) : R2 := fun x y H Q => Hold (rNeD K x y H Q)
theorem op_eqH {X : Cx} (hu : X.A.units + 64 < cLine) : OpR X (compareOp .Eq) (rEqH X.K) := fun pins s σ H x y v u Q I rx ry h => op_eqD hu pins s σ H x y v u Q I rx ry h.h
theorem op_neH {X : Cx} (hu : X.A.units + 64 < cLine) : OpR X (compareOp .NotEq) (rNeH X.K) := fun pins s σ H x y v u Q I rx ry h => op_neD hu pins s σ H x y v u Q I rx ry h.h
theorem eqD_yes {K : PySem.W.Frag} {H : Hp} {x y : V} {d : PyData} {n : Nat} {Q : VK} (h1 : Dp K H x d) (h2 : Dp K H y d) (hs : Shp n d) (hn : n ≤ 64) (q : Q (.bl true) H) : rEqH K x y H Q :=
  .mk ⟨d, d, h1, h2, hs.ok hn, hs.ok hn, by rw [hs.refl]; exact q⟩
theorem neD_no {K : PySem.W.Frag} {H : Hp} {x y : V} {d : PyData} {n : Nat} {Q : VK} (h1 : Dp K H x d) (h2 : Dp K H y d) (hs : Shp n d) (hn : n ≤ 64) (q : Q (.bl false) H) : rNeH K x y H Q :=
  .mk ⟨d, d, h1, h2, hs.ok hn, hs.ok hn, by rw [hs.refl]; exact q⟩
/-! ### isinstance -/
theorem isi_yes {K : PySem.W.Frag} {H : Hp} {x : V} {T : String} {Q : VK} (h : TyOf K H x (.type T)) (hk : kitB T T = some true) (q : Q (.bl true) H) : rIsH K [x, .ty T] H Q :=
  .mk ⟨x, .ty T, .type T, .type T, true, rfl, .ty T, .base h, kit_ty hk, q⟩
theorem isi_no {K : PySem.W.Frag} {H : Hp} {x : V} {T U : String} {Q : VK} (h : TyOf K H x (.type T)) (hk : kitB T U = some false) (q : Q (.bl false) H) : rIsH K [x, .ty U] H Q :=
  .mk ⟨x, .ty U, .type T, .type U, false, rfl, .ty U, .base h, kit_ty hk, q⟩
theorem kb_int : kitB "int" "int" = some true := by decide +kernel
theorem kb_intbool : kitB "int" "bool" = some false := by decide +kernel
theorem kb_list : kitB "list" "list" = some true := by decide +kernel
theorem kb_tuple : kitB "tuple" "tuple" = some true := by decide +kernel
/-- a loop over enumerate(a list) -/
theorem for_enumL {K : PySem.W.Frag} {a : Addr} {xs : List V} {g : TG} {tb : TS} {D : Ends} {σ : L2.St} {H : Hp} (Pv : Nat → L2.St → Hp → Prop) (h0 : Pv 0 σ H) (hl : ∀ i σ H, i ≤ xs.length → Pv i σ H → SqL K H a xs)
    (hs : ∀ (i : Nat) (x : V) (σ : L2.St) (H : Hp) (T : Addr), xs[i]? = some x → Pv i σ H → H T = none → g (.ref T) σ (upd H T (.tup [.int (i : Nat), x])) fun σ2 H2 => tb { D with nx := Pv (i + 1), ct := Pv (i + 1), bk := D.nx } σ2 H2) (hd : ∀ σ H, Pv xs.length σ H → D.nx σ H) :
    ∃ W : Nat → Nat → L2.St → Hp → Prop, (∃ m, W 0 m σ H) ∧ ∀ i m σ H, W i m σ H →
      ((Ite K a).stop i H ∧ D.nx σ H) ∨ ((Ite K a).go i H ∧ ∃ N : L2.St → Hp → Prop, (∀ σ' H', N σ' H' → ∃ m', m' < m ∧ W (i + 1) m' σ' H') ∧ ∀ v H', (Ite K a).yld i H v H' → g v σ H' fun σ2 H2 => tb { D with nx := N, ct := N, bk := D.nx } σ2 H2) := by
  refine ⟨fun i m σ H => m = xs.length - i ∧ i ≤ xs.length ∧ Pv i σ H, ⟨xs.length, rfl, Nat.zero_le _, h0⟩, ?_⟩
  rintro i m σ H ⟨rfl, hi, p⟩
  have q := hl i σ H hi p
  by_cases c : i < xs.length
  · refine .inr ⟨⟨xs, xs[i], q, List.getElem?_eq_getElem c⟩, Pv (i + 1), fun σ' H' p' => ⟨xs.length - (i + 1), by omega, rfl, c, p'⟩, ?_⟩
    rintro v H' ⟨T, x, rfl, nT, rfl, hx⟩
    exact hs i x σ H T (hx xs q) p nT
  · have e : i = xs.length := by omega
    subst e
    exact .inl ⟨⟨xs, q, Nat.le_refl _⟩, hd σ H p⟩
theorem pe_gc {X : Cx} {x : Str} {pos : Pos} {v : V} (hg : Gl X x) (h : ∃ u, X.mg x = some u ∧ RelV v u) (hd : (x == ("__debug__" : Str)) = false := by decide) : PE X (.Name x pos) (tC v) := by
  obtain ⟨u, hm, r⟩ := h
  exact pe_glob hg hm r hd
theorem glob_int {mg : Str → Option Value} {x : Str} {i : Int} (h : ∃ t, mg x = some (.int i t)) : ∃ u, mg x = some u ∧ RelV (.int i) u := let ⟨t, e⟩ := h; ⟨_, e, t, rfl⟩
theorem cx_none {P : Program} {w : World} {H : Hp} {s s' : Shared} {e : Value} (z : L2.CX P w [] H s (fun _ _ _ => False) e s') : False := by
  obtain ⟨_, _, _, _, _, _, _, _, _, _, _, _, z⟩ := z
  exact z
/-! ### list.insert -/
def rInsert : V → List V → Hp → VK → Prop := fun x vs H Q => ∃ (l : Addr) (xs : List V) (i : Int) (y : V), x = .ref l ∧ vs = [.int i, y] ∧ H l = some (.lst xs) ∧ xs.length < sizeLine ∧ 0 ≤ i ∧ i < 2 ^ 63 ∧ Q .non (upd H l (.lst (xs.take i.toNat ++ [y] ++ xs.drop i.toNat)))
theorem mt_ins {X : Cx} : MtR X "list.insert" rInsert := mt_insert

/-! ### a caught exception's suite, isinstance of it -/
/-- the suite's word, where the exception is of an own class without attributes of its own -/
def tExc (K : PySem.W.Frag) (cls : Value) (d : Option Addr) (t : Addr → TS) : TS := fun D σ H => Hold (∃ C, cls = .ref C ∧ d = none ∧ ExcC K C ∧ t C D σ H)
theorem pss_exc {X : Cx} {cls : Value} {d : Option Addr} {ss : List Stmt} {t : Addr → TS} (h : ∀ C, cls = .ref C → d = none → ExcC X.K C → PSs X ss (t C)) : PSs X ss (tExc X.K cls d t) :=
  ⟨fun pins s σ H D I q => let ⟨C, e1, e2, c, q⟩ := q.h; (h C e1 e2 c).run pins s σ H D I q⟩
def rIsEH (K : PySem.W.Frag) (C a : Addr) : List V → Hp → VK → Prop := fun xs H Q => Hold (rIsE K C a xs H Q)
theorem call_isEH {X : Cx} {a : Addr} {C : Addr} {cls : Value} {d : Option Addr} {oe : Obj} {pn : List (Addr × Obj)} (hC : ExcC X.K C) (e1 : cls = .ref C) (e2 : d = none) (hz : Zc cls d oe) (hf : ∃ vs, oe.data = .fields vs) : CallR (X.suite a ((a, oe) :: pn)) (.builtin "isinstance") (rIsEH X.K C a) :=
  fun pins s σ H xs us Q I r h => call_isE hC (by rw [← e1, ← e2]; exact hz) hf pins s σ H xs us Q I r h.h
theorem isE_own {K : PySem.W.Frag} {C a c : Addr} {b : Bool} {H : Hp} {Q : VK} (h : PySem.W.kitOne K (.ref C) (.ref c) = some b) (q : Q (.bl b) H) : rIsEH K C a [.ref a, .ref c] H Q := .mk ⟨_, .ref c, b, rfl, fun _ r => r, h, q⟩
theorem isE_ty {K : PySem.W.Frag} {C a : Addr} {c : String} {b : Bool} {H : Hp} {Q : VK} (h : PySem.W.kitOne K (.ref C) (.type c) = some b) (q : Q (.bl b) H) : rIsEH K C a [.ref a, .ty c] H Q := .mk ⟨_, .type c, b, rfl, fun _ r => r, h, q⟩
def tTryAs (K : PySem.W.Frag) (c : Value) (i : Nat) (tb : WX → TS) (ts : Addr → Addr → TS) : TS := fun D σ H => tb (wAs K c i (fun a cls d => tExc K cls d (fun C => ts a C)) (fun _ _ _ _ => False) D) D σ H
/-- what is known of a class by its written part -/
structure ClsE (K : PySem.W.Frag) (C : Addr) : Prop where
  bx : PySem.W.subIn K (.ref C) (.type "BaseException") = some true
  hd : PySem.W.hasDictIn K C = true
  ty : PySem.W.typeIn K (.ref C) = some (.type "type")
theorem kit_own {K : PySem.W.Frag} {C D : Addr} {b : Bool} (c : ClsE K C) (h : PySem.W.subIn K (.ref D) (.ref C) = some b) (hs : PySem.W.subIn K (.ref D) (.ref D) = some true) : PySem.W.kitOne K (.ref D) (.ref C) = some b := by
  obtain ⟨cd, hc, _⟩ := PySem.W.any_some c.hd
  unfold PySem.W.kitOne
  by_cases e : D = C
  · subst e
    rw [hs] at h
    rw [if_pos (beq_iff_eq.mpr rfl)]
    exact h
  · rw [if_neg (fun z => e (Value.ref.inj (beq_iff_eq.mp z)))]
    show (if ((PySem.W.clsIn K C).isSome && PySem.W.typeIn K (.ref C) == some (.type "type")) = true then PySem.W.subIn K (.ref D) (.ref C) else none) = some b
    have e3 : ((PySem.W.clsIn K C).isSome && PySem.W.typeIn K (.ref C) == some (.type "type")) = true := by
      rw [hc, c.ty]
      exact beq_self_eq_true (some (Value.type "type"))
    rw [if_pos e3]
    exact h
theorem kit_type {K : PySem.W.Frag} {D : Addr} {T : String} {b : Bool} (hm : PySem.W.kitMeta T = true) (h : PySem.W.subIn K (.ref D) (.type T) = some b) : PySem.W.kitOne K (.ref D) (.type T) = some b := by
  unfold PySem.W.kitOne
  rw [if_neg (fun z => by have := beq_iff_eq.mp z; cases this)]
  show (if PySem.W.kitMeta T = true then PySem.W.subIn K (.ref D) (.type T) else none) = some b
  rw [if_pos hm]
  exact h
theorem meta_ve : PySem.W.kitMeta "ValueError" = true := by decide +kernel
/-- an except clause that meets an exception -/
theorem was {K : PySem.W.Frag} {C c : Addr} {i : Nat} {t : Addr → Addr → TS} {Wout : WX} {D : Ends} {σ : L2.St} {H : Hp} (hx : PySem.W.exmOne K (.ref C) (.ref c) = some true) (hC : ExcC K C)
    (q : ∀ a, H a = none → t a C { nx := fun σ' H' => D.nx (σ'.set i none) H', rt := D.rt, bk := fun σ' H' => D.bk (σ'.set i none) H', ct := fun σ' H' => D.ct (σ'.set i none) H' } (σ.set i (some (.ref a))) H) :
    wAs K (.ref c) i (fun a cls d => tExc K cls d (t a)) Wout D (.ref C) none σ H := ⟨true, hx, fun _ a ha => .mk ⟨C, rfl, rfl, hC, q a ha⟩, fun z => nomatch z⟩
/-! ### x not in a list of data -/
def rNotInH (K : PySem.W.Frag) : R2 := fun x y H Q => Hold (rNotInD K x y H Q)
theorem op_notInH {X : Cx} (hu : X.A.units + 65 < cLine) : OpR X (compareOp .NotIn) (rNotInH X.K) := fun pins s σ H x y v u Q I rx ry h => op_notInD hu pins s σ H x y v u Q I rx ry h.h
theorem notIn_no {K : PySem.W.Frag} {H : Hp} {x y : V} {d : PyData} {ds : List PyData} {n m : Nat} {Q : VK} (h1 : Dp K H x d) (h2 : Dp K H y (.list ds)) (s1 : Shp n d) (s2 : Shp m (.list ds)) (hn : n ≤ 64) (hm : m ≤ 64) (mem : d ∈ ds) (q : Q (.bl false) H) : rNotInH K x y H Q := .mk ⟨d, ds, h1, h2, s1.ok hn, s2.ok hm, by
  have e : (ds.any fun z => PyData.eqv z d) = true := List.any_eq_true.mpr ⟨d, mem, s1.refl⟩
  rw [e]
  exact q⟩
theorem notIn_any {K : PySem.W.Frag} {H : Hp} {x y : V} {d : PyData} {ds : List PyData} {n m : Nat} {Q : VK} (h1 : Dp K H x d) (h2 : Dp K H y (.list ds)) (s1 : Shp n d) (s2 : Shp m (.list ds)) (hn : n ≤ 64) (hm : m ≤ 64) (q : ∀ b, Q (.bl b) H) : rNotInH K x y H Q := .mk ⟨d, ds, h1, h2, s1.ok hn, s2.ok hm, q _⟩

/-! ### o.m(..) in a try's body -/
def tMethS (C : Addr) (m : Str) (sp : Sp) (E : L2.St → XK) (to : TE) (t : TA) : TE := fun σ H Q => to σ H fun x H1 => ∃ (a dx : Addr) (fs : List (Str × V)), x = .ref a ∧ H1 a = some (.ins C dx fs) ∧ fs.lookup m = none ∧ t σ H1 fun vs H2 => sp (.ref a :: vs) H2 Q (E σ)
theorem pe_methS {X : Cx} {CX : CXT} {k : Nat} {f C : Addr} {fd : FuncData} {ps : List Str} {sp : Sp} {E : L2.St → XK} {m : Str} {pos apos : Pos} {e1 o : Expr} {es : List Expr} {to : TE} {t : TA} {pl : Sem Bool}
    (ho : PE X o to) (c : Cls X.K C) (hm : Meth X.K C m f) (F : FnOk X.prog X.w X.K X.mg X.base CX k f fd ps sp)
    (hr : Room k X.A) (hb : Binds X.K fd ps []) (hx : ∀ σ, PassesAt CX X σ (E σ)) (ha : PA X (e1 :: es) t)
    (hs : starEach (e1 :: es) X.env = (false, eval e1 X.env) :: starEach es X.env := by rfl)
    (hl : (backTo pos (starEach es X.env)).any (·.1) = false := by rfl)
    (he : eval (.Call (.Attribute o m apos) (e1 :: es) [] pos) X.env = (do
      let v ← eval o X.env
      standAt apos.atName
      let (g, first) ← holding [v] (getMethod v m pl)
      callWith pos g first (backTo pos (starEach (e1 :: es) X.env)) (backToKw pos (keywordEach [] X.env))) := by rfl) :
    PE X (.Call (.Attribute o m apos) (e1 :: es) [] pos) (tMethS C m sp E to t) := by
  refine ⟨fun pins s σ H Q I h => ?_⟩
  refine PySem.W.methodCall_KW (pl := pl) (thn (ho.run pins s σ H _ I h) fun u s1 ⟨x, H1, I1, rx, a, dx, fs, ex, ea, l, q⟩ => ?_) he
  subst ex
  cases (show u = Value.ref a from rx)
  refine getmeth_ok I1 ea c hm l ?_
  refine PySem.W.callWith_K (first := [.ref a]) (h₀ := X.base) I.ok.mod.kin hm.kp (thn (ha.run pos pins s1 σ H1 _ I1 q) fun us s2 ⟨vs, H2, I2, r, q2⟩ => ⟨I2.kIn, ?_⟩) hs hl
  exact run_fnS (us := .ref a :: us) (vs := .ref a :: vs) F hr hb (hx σ) I2 (.cons rfl r) q2
end FW

local macro_rules | `(tactic| walk_at "ne") => `(tactic| first
  | (assumption)
  | (refine' FW.ne_sym ?_; assumption)
  | (refine' L2.ne_of_none ?ka ?kb; (case kb => assumption); (case ka => walk_at "hf"))
  | (refine' FW.ne_sym (L2.ne_of_none ?ka ?kb); (case kb => assumption); (case ka => walk_at "hf"))
  | (refine' L2.ne_of ?ka ?kb ?kc; (case ka => walk_at "hf"); (case kb => walk_at "hf"); (case kc => (intro z; cases z)))
  | (fail "ne"))
local macro_rules | `(tactic| walk_at "hf") => `(tactic| first
  | (assumption)
  | (exact L2.upd_same)
  | (refine' FW.upd_other ?ka ?kb; (case kb => walk_at "hf"); (case ka => walk_at "ne"))
  | (refine' (by assumption : L2.Same _ _) _ _ ?kc; (case kc => walk_at "hf"))
  | (fail "hf"))
local macro_rules | `(tactic| walk_at "sq") => `(tactic| first
  | (assumption)
  | (refine' L2.SqL.of ?ka; (case ka => walk_at "hf"))
  | (refine' FW.sq_new ?ka ?kb; (case ka => assumption); (case kb => walk_at "sq"))
  | (refine' FW.sq_ins ?ka ?kb; (case ka => walk_at "hf"); (case kb => walk_at "sq"))
  | (refine' FW.sq_ne ?ka ?kb; (case ka => walk_at "ne"); (case kb => walk_at "sq"))
  | (refine' L2.Same.seq (by assumption) ?kc; (case kc => walk_at "sq"))
  | (fail "sq"))
local macro_rules | `(tactic| walk_at "st") => `(tactic| first
  | (assumption)
  | (refine' L2.SqT.of ?ka; (case ka => walk_at "hf"))
  | (refine' FW.st_new ?ka ?kb; (case ka => assumption); (case kb => walk_at "st"))
  | (refine' FW.st_lst ?ka ?kb; (case ka => walk_at "hf"); (case kb => walk_at "st"))
  | (refine' FW.st_ins ?ka ?kb; (case ka => walk_at "hf"); (case kb => walk_at "st"))
  | (refine' FW.st_ne ?ka ?kb; (case ka => walk_at "ne"); (case kb => walk_at "st"))
  | (refine' L2.Same.tup (by assumption) ?kc; (case kc => walk_at "st"))
  | (fail "st"))
local macro_rules | `(tactic| walk_at "side") => `(tactic| first
  | (assumption)
  | (exact rfl)
  | (show L2.SqL _ _ _ _; walk_at "sq")
  | (show L2.SqT _ _ _ _; walk_at "st")
  | (show _ ∨ _; first | (refine' Or.inl ?_; walk_at "sq") | (refine' Or.inr ?_; walk_at "st"))
  | (show L2.tyV _ _ _ _; refine' Or.inl (And.intro rfl ?_); apply Exists.intro; walk_at "sq")
  | (show L2.TruV _ (L2.V.ref _) _ _; first | (refine' Or.inl ?_; apply Exists.intro; refine' And.intro ?kq rfl; (case kq => walk_at "sq")) | (refine' Or.inr (Or.inl ?_); apply Exists.intro; refine' And.intro ?kq rfl; (case kq => walk_at "st")))
  | ((with_reducible show _ = some _); walk_at "hf")
  | (apply Exists.intro; first | walk_at "sq" | walk_at "st")
  | ((with_reducible show L2.CPow _ _); exact ⟨by decide, by decide, by decide⟩)
  | ((with_reducible show L2.CDiv _ _); exact ⟨by omega, by omega⟩)
  | ((with_reducible show L2.CMul _ _); first | (exact Or.inr ⟨by omega, by omega⟩) | (exact Or.inl ⟨by omega, by omega⟩))
  | (exact FW.putF_1)
  | (exact FW.putF_2)
  | (decide)
  | (omega)
  | (dsimp only; omega)
  | (dsimp only; decide)
  | (simp only [List.length_cons, List.length_nil, List.length_append, List.length_map, List.length_set, List.length_range]; omega)
  | (refine' FW.small_le ?_; (try simp only [List.length_cons, List.length_nil, List.length_append, List.length_map]); omega)
  | (refine' FW.small_lt ?_; (try simp only [List.length_cons, List.length_nil, List.length_append, List.length_map]); omega))
local macro_rules | `(tactic| walk_at "rd1") => `(tactic| first
  | ((fail_if_success (show ∃ W : Nat → _, _)); apply Exists.intro)
  | (refine And.intro ?ks ?_; (case ks => walk_at "side"))
  | (refine FW.ite_dT ?ks ?_; (case ks => first | (assumption) | (exact rfl) | (omega) | (simp only [List.length_cons, List.length_nil]; omega)))
  | (refine FW.ite_dF ?ks ?_; (case ks => first | (assumption) | (intro z; cases z; done) | (omega) | (simp only [List.length_cons, List.length_nil]; omega)))
  | (refine FW.ite_nT ?ks ?_; (case ks => first | (assumption) | (intro z; cases z; done) | (omega) | (simp only [List.length_cons, List.length_nil]; omega)))
  | (refine FW.ite_nF ?ks ?_; (case ks => first | (assumption) | (exact rfl) | (omega) | (simp only [List.length_cons, List.length_nil]; omega)))
  | (refine L2.iteT ?_)
  | (refine L2.iteF ?_)
  | (refine FW.isi_yes (L2.TyOf.int _) FW.kb_int ?_)
  | (refine FW.isi_no (L2.TyOf.int _) FW.kb_intbool ?_)
  | (refine' FW.isi_yes (L2.TyOf.tup ?ks) FW.kb_tuple ?_; (case ks => walk_at "hf"))
  | (refine' FW.isi_yes (L2.TyOf.lst ?ks) FW.kb_list ?_; (case ks => walk_at "hf"))
  | (refine' FW.isE_own ?ks ?_; (case ks => assumption))
  | (refine' FW.isE_ty ?ks ?_; (case ks => assumption)))
local macro_rules | `(tactic| walk_at "rd") => `(tactic| repeat (walk_at "rd1"))
local macro_rules | `(tactic| walk_at "len") => `(tactic| (intro vs H Q E h; repeat (first | (obtain ⟨e, _⟩ := h; subst e; rfl) | (obtain ⟨_, h⟩ := h))))
/-! Web: the levels, in plain Lean. -/
namespace FW
open PySem PySem.Spec PyProof.Rows L2
abbrev Fnd := List (Option (Int × Nat))
def fd (F : Fnd) (s : Nat) : Option (Int × Nat) := F.getD s none
def zn (zones : List Int) (s : Nat) : Int := zones.getD s 0
def wt (zones : List Int) (a b : Nat) : Int := if zn zones a = zn zones b then 0 else 1
def Lk (links : List (Nat × Nat)) (a b : Nat) : Prop := (a, b) ∈ links ∨ (b, a) ∈ links
theorem Lk.symm {links : List (Nat × Nat)} {a b : Nat} (h : Lk links a b) : Lk links b a := h.elim .inr .inl
theorem wt_symm (zones : List Int) (a b : Nat) : wt zones a b = wt zones b a := by
  unfold wt
  by_cases c : zn zones a = zn zones b
  · rw [if_pos c, if_pos c.symm]
  · rw [if_neg c, if_neg (fun z => c z.symm)]
theorem wt_or (zones : List Int) (a b : Nat) : wt zones a b = 0 ∨ wt zones a b = 1 := by
  unfold wt
  split
  · exact .inl rfl
  · exact .inr rfl
def nbr1 (s : Nat) (p : Nat × Nat) : List Nat := (if p.1 = s then [p.2] else []) ++ (if p.2 = s then [p.1] else [])
def nbr (links : List (Nat × Nat)) (s : Nat) : List Nat := links.flatMap (nbr1 s)
theorem mem_nbr {links : List (Nat × Nat)} {s o : Nat} : o ∈ nbr links s ↔ Lk links s o := by
  unfold nbr Lk
  rw [List.mem_flatMap]
  constructor
  · rintro ⟨⟨a, b⟩, hp, ho⟩
    unfold nbr1 at ho
    rcases List.mem_append.mp ho with h | h
    · by_cases c : a = s
      · rw [if_pos c] at h
        have e := List.mem_singleton.mp h
        rw [e, ← c]
        exact .inl hp
      · rw [if_neg c] at h
        cases h
    · by_cases c : b = s
      · rw [if_pos c] at h
        have e := List.mem_singleton.mp h
        rw [e, ← c]
        exact .inr hp
      · rw [if_neg c] at h
        cases h
  · rintro (h | h)
    · exact ⟨_, h, List.mem_append_left _ (by rw [if_pos rfl]; exact List.mem_singleton.mpr rfl)⟩
    · exact ⟨_, h, List.mem_append_right _ (by rw [if_pos rfl]; exact List.mem_singleton.mpr rfl)⟩
theorem nbr_len (links : List (Nat × Nat)) (s : Nat) : (nbr links s).length ≤ 2 * links.length := by
  unfold nbr
  induction links with
  | nil => exact Nat.le_refl _
  | cons p r ih =>
    rw [List.flatMap_cons, List.length_append, List.length_cons]
    have : (nbr1 s p).length ≤ 2 := by
      unfold nbr1
      rw [List.length_append]
      split <;> split <;> simp
    omega
structure WebOk (zones : List Int) (links : List (Nat × Nat)) : Prop where
  ok : ∀ p ∈ links, p.1 < zones.length ∧ p.2 < zones.length ∧ p.1 ≠ p.2
  hn : zones.length ≤ 70
  hL : links.length ≤ 300
theorem WebOk.lk {zones : List Int} {links : List (Nat × Nat)} (w : WebOk zones links) {a b : Nat} (h : Lk links a b) : a < zones.length ∧ b < zones.length ∧ a ≠ b := by
  rcases h with h | h
  · exact w.ok _ h
  · have := w.ok _ h
    exact ⟨this.2.1, this.1, fun e => this.2.2 e.symm⟩
/-- may the pair be taken at the level k -/
def PairOk (zones : List Int) (links : List (Nat × Nat)) (start : Nat) (k : Int) (F : Fnd) (p : Nat × Nat) : Prop :=
  p.1 < zones.length ∧ p.2 < zones.length ∧ ((p.1 = start ∧ p.2 = start ∧ k = 1) ∨ ∃ lf pf, fd F p.2 = some (lf, pf) ∧ Lk links p.2 p.1 ∧ k = lf + wt zones p.2 p.1)
/-- stops without a level -/
def free (F : Fnd) : Nat := (F.filter Option.isNone).length
theorem free_set : ∀ {F : Fnd} {s : Nat} {x : Int × Nat}, F[s]? = some none → free (F.set s (some x)) + 1 = free F
  | [], s, x, h => by simp at h
  | o :: F, 0, x, h => by
    have e : o = none := Option.some.inj h
    subst e
    rfl
  | o :: F, s + 1, x, h => by
    have ih := free_set (F := F) (s := s) (x := x) h
    unfold free at ih ⊢
    rw [List.set_cons_succ]
    cases o with
    | none => simp only [List.filter_cons_of_pos, Option.isNone_none, List.length_cons]; omega
    | some y => simpa using ih
theorem free_le (F : Fnd) : free F ≤ F.length := List.length_filter_le _ _
/-- where one level is spread: stops that wait, stops one zone further -/
structure Sprd (zones : List Int) (links : List (Nat × Nat)) (start : Nat) (k : Int) (F : Fnd) (wa fr : List (Nat × Nat)) (rk : Nat → Nat) (T : Nat) : Prop where
  len : F.length = zones.length
  tree : ∀ v c u, fd F v = some (c, u) → (v = start ∧ c = 1 ∧ u = start) ∨ (v ≠ start ∧ ∃ cu pu, fd F u = some (cu, pu) ∧ Lk links u v ∧ c = cu + wt zones u v ∧ rk u < rk v)
  lv : ∀ v c u, fd F v = some (c, u) → 1 ≤ c ∧ c ≤ k ∧ rk v < T ∧ u < zones.length
  kept : ∀ a la pa b, fd F a = some (la, pa) → Lk links a b → (∃ lb pb, fd F b = some (lb, pb) ∧ lb ≤ la + wt zones a b) ∨
    (fd F b = none ∧ ((la + wt zones a b = k ∧ ∃ f, (b, f) ∈ wa) ∨ (la = k ∧ wt zones a b = 1 ∧ ∃ f, (b, f) ∈ fr)))
  wa_ : ∀ p ∈ wa, PairOk zones links start k F p
  fr_ : ∀ p ∈ fr, p.1 < zones.length ∧ p.2 < zones.length ∧ ∃ pf, fd F p.2 = some (k, pf) ∧ Lk links p.2 p.1 ∧ wt zones p.2 p.1 = 1
  st : fd F start = some (1, start) ∨ ((∀ v, fd F v = none) ∧ wa = [(start, start)] ∧ fr = [])
  k1 : 1 ≤ k
  tb : T + free F ≤ zones.length
theorem fd_set {F : Fnd} {s v : Nat} {x : Option (Int × Nat)} (h : s < F.length) : fd (F.set s x) v = if v = s then x else fd F v := by
  unfold fd
  by_cases c : v = s
  · rw [if_pos c, c, List.getD_eq_getElem?_getD, List.getElem?_set_self h]
    rfl
  · rw [if_neg c, List.getD_eq_getElem?_getD, List.getD_eq_getElem?_getD, List.getElem?_set_ne (fun z => c z.symm)]
/-- a stop that has its level already -/
theorem Sprd.skip {zones : List Int} {links : List (Nat × Nat)} {start : Nat} {k : Int} {F : Fnd} {ws fr : List (Nat × Nat)} {s f : Nat} {rk : Nat → Nat} {T : Nat} (h : Sprd zones links start k F (ws ++ [(s, f)]) fr rk T) (hs : fd F s ≠ none) : Sprd zones links start k F ws fr rk T where
  len := h.len
  tree := h.tree
  lv := h.lv
  kept := fun a la pa b ha hl => by
    rcases h.kept a la pa b ha hl with g | ⟨g, ⟨g1, x, g2⟩ | g1⟩
    · exact .inl g
    · refine .inr ⟨g, .inl ⟨g1, x, ?_⟩⟩
      rcases List.mem_append.mp g2 with m | m
      · exact m
      · have e := List.mem_singleton.mp m
        cases e
        exact absurd g hs
    · exact .inr ⟨g, .inr g1⟩
  wa_ := fun p hp => h.wa_ p (List.mem_append_left _ hp)
  fr_ := h.fr_
  st := by
    rcases h.st with g | ⟨g, _⟩
    · exact .inl g
    · exact absurd (g s) hs
  k1 := h.k1
  tb := h.tb
/-- a stop that is come to: its neighbours wait, or lie one zone further -/
theorem Sprd.take {zones : List Int} {links : List (Nat × Nat)} {start : Nat} {k : Int} {F : Fnd} {ws fr : List (Nat × Nat)} {s f : Nat} {rk : Nat → Nat} {T : Nat} (W : WebOk zones links) (h : Sprd zones links start k F (ws ++ [(s, f)]) fr rk T) (hs : fd F s = none) :
    Sprd zones links start k (F.set s (some (k, f))) (ws ++ ((nbr links s).filter fun o => decide (zn zones o = zn zones s)).map (fun o => (o, s))) (fr ++ ((nbr links s).filter fun o => !decide (zn zones o = zn zones s)).map (fun o => (o, s))) (fun v => if v = s then T else rk v) (T + 1) := by
  obtain ⟨hs1, hf1, po⟩ := h.wa_ (s, f) (List.mem_append_right _ (List.mem_singleton.mpr rfl))
  have hs1 : s < zones.length := hs1
  have hf1 : f < zones.length := hf1
  have hl : s < F.length := by rw [h.len]; exact hs1
  have fds : fd (F.set s (some (k, f))) s = some (k, f) := by rw [fd_set hl, if_pos rfl]
  have fdo : ∀ v, v ≠ s → fd (F.set s (some (k, f))) v = fd F v := fun v c => by rw [fd_set hl, if_neg c]
  have ne : ∀ {v c u}, fd F v = some (c, u) → v ≠ s := fun e z => by rw [z, hs] at e; cases e
  have k1 := h.k1
  -- the pair that is taken
  have po2 : (s = start ∧ f = start ∧ k = 1 ∧ fd F start = none) ∨ (s ≠ start ∧ ∃ lf pf, fd F f = some (lf, pf) ∧ Lk links f s ∧ k = lf + wt zones f s) := by
    by_cases c : s = start
    · refine .inl ⟨c, ?_, ?_, by rw [← c]; exact hs⟩
      · rcases po with ⟨_, e, _⟩ | ⟨lf, pf, g1, g2, g3⟩
        · exact e
        · rcases h.st with g | ⟨g, _⟩
          · rw [← c, hs] at g; cases g
          · have := g f
            rw [show fd F f = some (lf, pf) from g1] at this
            cases this
      · rcases po with ⟨_, _, e⟩ | ⟨lf, pf, g1, g2, g3⟩
        · exact e
        · rcases h.st with g | ⟨g, _⟩
          · rw [← c, hs] at g; cases g
          · have := g f
            rw [show fd F f = some (lf, pf) from g1] at this
            cases this
    · rcases po with ⟨e, _⟩ | g
      · exact absurd e c
      · exact .inr ⟨c, g⟩
  have fs1 : free (F.set s (some (k, f))) + 1 = free F := free_set (by
    unfold fd at hs
    rw [List.getD_eq_getElem?_getD, List.getElem?_eq_getElem hl] at hs
    rw [List.getElem?_eq_getElem hl]
    exact congrArg some hs)
  refine ⟨by rw [List.length_set]; exact h.len, ?_, ?_, ?_, ?_, ?_, ?_, k1, by have := h.tb; omega⟩
  · intro v c u e
    by_cases cv : v = s
    · subst cv
      rw [fds] at e
      cases e
      rcases po2 with ⟨e1, e2, e3, _⟩ | ⟨e0, lf, pf, e1, e2, e3⟩
      · exact .inl ⟨e1, e3, e2⟩
      · refine .inr ⟨e0, lf, pf, by rw [fdo _ (ne e1)]; exact e1, e2, e3, ?_⟩
        rw [if_neg (ne e1), if_pos rfl]
        exact (h.lv _ _ _ e1).2.2.1
    · rw [fdo v cv] at e
      rcases h.tree v c u e with g | ⟨g0, cu, pu, g1, g2, g3, g4⟩
      · exact .inl g
      · refine .inr ⟨g0, cu, pu, by rw [fdo _ (ne g1)]; exact g1, g2, g3, ?_⟩
        rw [if_neg (ne g1), if_neg cv]
        exact g4
  · intro v c u e
    by_cases cv : v = s
    · subst cv
      rw [fds] at e
      cases e
      rw [if_pos rfl]
      exact ⟨k1, Int.le_refl _, Nat.lt_succ_self _, hf1⟩
    · rw [fdo v cv] at e
      rw [if_neg cv]
      have := h.lv v c u e
      exact ⟨this.1, this.2.1, Nat.lt_succ_of_lt this.2.2.1, this.2.2.2⟩
  · intro a la pa b ha hlk
    by_cases ca : a = s
    · subst ca
      rw [fds] at ha
      cases ha
      have hb : b ≠ a := fun e => (W.lk hlk).2.2 e.symm
      rw [fdo b hb]
      cases eb : fd F b with
      | some x =>
        obtain ⟨lb, pb⟩ := x
        refine .inl ⟨lb, pb, rfl, ?_⟩
        have := (h.lv b lb pb eb).2.1
        rcases wt_or zones a b with w | w <;> omega
      | none =>
        refine .inr ⟨rfl, ?_⟩
        have mb := mem_nbr.mpr hlk
        by_cases c : zn zones b = zn zones a
        · refine .inl ⟨?_, a, List.mem_append_right _ (List.mem_map.mpr ⟨b, List.mem_filter.mpr ⟨mb, decide_eq_true c⟩, rfl⟩)⟩
          unfold wt
          rw [if_pos c.symm]
          omega
        · refine .inr ⟨rfl, ?_, a, List.mem_append_right _ (List.mem_map.mpr ⟨b, List.mem_filter.mpr ⟨mb, by rw [decide_eq_false c]; rfl⟩, rfl⟩)⟩
          unfold wt
          rw [if_neg (fun e => c e.symm)]
    · rw [fdo a ca] at ha
      by_cases cb : b = s
      · subst cb
        rw [fds]
        refine .inl ⟨k, f, rfl, ?_⟩
        rcases h.kept a la pa b ha hlk with ⟨lb, pb, g, _⟩ | ⟨g, ⟨g1, _⟩ | ⟨g1, g2, _⟩⟩
        · rw [hs] at g; cases g
        · omega
        · omega
      · rw [fdo b cb]
        rcases h.kept a la pa b ha hlk with g | ⟨g, ⟨g1, x, g2⟩ | ⟨g1, g2, x, g3⟩⟩
        · exact .inl g
        · refine .inr ⟨g, .inl ⟨g1, x, ?_⟩⟩
          rcases List.mem_append.mp g2 with m | m
          · exact List.mem_append_left _ m
          · have e := List.mem_singleton.mp m
            cases e
            exact absurd rfl cb
        · exact .inr ⟨g, .inr ⟨g1, g2, x, List.mem_append_left _ g3⟩⟩
  · intro p hp
    rcases List.mem_append.mp hp with m | m
    · obtain ⟨q1, q2, q3⟩ := h.wa_ p (List.mem_append_left _ m)
      refine ⟨q1, q2, q3.elim .inl fun ⟨lf, pf, g1, g2, g3⟩ => .inr ⟨lf, pf, by rw [fdo _ (ne g1)]; exact g1, g2, g3⟩⟩
    · obtain ⟨o, ho, rfl⟩ := List.mem_map.mp m
      obtain ⟨ho1, ho2⟩ := List.mem_filter.mp ho
      have lk := mem_nbr.mp ho1
      have c := of_decide_eq_true ho2
      refine ⟨(W.lk lk).2.1, hs1, .inr ⟨k, f, fds, lk, ?_⟩⟩
      show k = k + wt zones s o
      unfold wt
      rw [if_pos c.symm]
      omega
  · intro p hp
    rcases List.mem_append.mp hp with m | m
    · obtain ⟨q1, q2, pf, g1, g2, g3⟩ := h.fr_ p m
      exact ⟨q1, q2, pf, by rw [fdo _ (ne g1)]; exact g1, g2, g3⟩
    · obtain ⟨o, ho, rfl⟩ := List.mem_map.mp m
      obtain ⟨ho1, ho2⟩ := List.mem_filter.mp ho
      have lk := mem_nbr.mp ho1
      have c : ¬ zn zones o = zn zones s := by simpa using ho2
      refine ⟨(W.lk lk).2.1, hs1, f, fds, lk, ?_⟩
      show wt zones s o = 1
      unfold wt
      rw [if_neg (fun e => c e.symm)]
  · refine .inl ?_
    rcases po2 with ⟨e1, e2, e3, _⟩ | ⟨e0, lf, pf, e1, _⟩
    · rw [← e1, fds, e3, e2, e1]
    · rw [fdo _ (fun e => e0 e.symm)]
      rcases h.st with g | ⟨g, _⟩
      · exact g
      · rw [g f] at e1
        cases e1
/-- the next level -/
theorem Sprd.next {zones : List Int} {links : List (Nat × Nat)} {start : Nat} {k : Int} {F : Fnd} {fr : List (Nat × Nat)} {rk : Nat → Nat} {T : Nat} (h : Sprd zones links start k F [] fr rk T) : Sprd zones links start (k + 1) F (fr.filter fun p => (fd F p.1).isNone) [] rk T where
  len := h.len
  tree := h.tree
  lv := fun v c u e => by have := h.lv v c u e; exact ⟨this.1, by omega, this.2.2⟩
  kept := fun a la pa b ha hl => by
    rcases h.kept a la pa b ha hl with g | ⟨g, ⟨_, x, g2⟩ | ⟨g1, g2, x, g3⟩⟩
    · exact .inl g
    · cases g2
    · exact .inr ⟨g, .inl ⟨by omega, x, List.mem_filter.mpr ⟨g3, by show (fd F b).isNone = true; rw [g]; rfl⟩⟩⟩
  wa_ := fun p hp => by
    obtain ⟨q1, q2, pf, g1, g2, g3⟩ := h.fr_ p (List.mem_filter.mp hp).1
    exact ⟨q1, q2, .inr ⟨k, pf, g1, g2, by omega⟩⟩
  fr_ := fun p hp => by cases hp
  st := h.st.elim .inl fun g => by have := g.2.1; cases this
  k1 := by have := h.k1; omega
  tb := h.tb
/-- what is told of a start -/
structure Rch (zones : List Int) (links : List (Nat × Nat)) (start : Nat) (F : Fnd) : Prop where
  len : F.length = zones.length
  st : fd F start = some (1, start)
  lv : ∀ v c u, fd F v = some (c, u) → 1 ≤ c ∧ u < zones.length
  kept : ∀ a la pa b, fd F a = some (la, pa) → Lk links a b → ∃ lb pb, fd F b = some (lb, pb) ∧ lb ≤ la + wt zones a b
  tree : ∃ rk : Nat → Nat, (∀ v c u, fd F v = some (c, u) → rk v < zones.length) ∧ ∀ v c u, fd F v = some (c, u) → v ≠ start → ∃ cu pu, fd F u = some (cu, pu) ∧ Lk links u v ∧ c = cu + wt zones u v ∧ rk u < rk v
theorem Sprd.done {zones : List Int} {links : List (Nat × Nat)} {start : Nat} {k : Int} {F : Fnd} {rk : Nat → Nat} {T : Nat} (h : Sprd zones links start k F [] [] rk T) : Rch zones links start F where
  len := h.len
  st := h.st.elim (fun g => g) fun g => by have := g.2.1; cases this
  lv := fun v c u e => ⟨(h.lv v c u e).1, (h.lv v c u e).2.2.2⟩
  kept := fun a la pa b ha hl => by
    rcases h.kept a la pa b ha hl with g | ⟨_, ⟨_, x, g2⟩ | ⟨_, _, x, g3⟩⟩
    · exact g
    · cases g2
    · cases g3
  tree := ⟨rk, fun v c u e => by have := (h.lv v c u e).2.2.1; have := h.tb; omega, fun v c u e hv => by
    rcases h.tree v c u e with ⟨g, _⟩ | ⟨_, g⟩
    · exact absurd g hv
    · exact g⟩
theorem Sprd.start {zones : List Int} {links : List (Nat × Nat)} {start : Nat} (h : start < zones.length) : Sprd zones links start 1 (List.replicate zones.length none) [(start, start)] [] (fun _ => 0) 0 := by
  have e : ∀ v, fd (List.replicate zones.length none) v = none := fun v => by
    unfold fd
    rw [List.getD_eq_getElem?_getD, List.getElem?_replicate]
    split <;> rfl
  refine ⟨List.length_replicate, ?_, ?_, ?_, ?_, ?_, .inr ⟨e, rfl, rfl⟩, by decide, by have := free_le (List.replicate zones.length none : Fnd); rw [List.length_replicate] at this; omega⟩
  · intro v c u g; rw [e v] at g; cases g
  · intro v c u g; rw [e v] at g; cases g
  · intro v c u b g; rw [e v] at g; cases g
  · intro p hp
    have := List.mem_singleton.mp hp
    subst this
    exact ⟨h, h, .inl ⟨rfl, rfl, rfl⟩⟩
  · intro p hp; cases hp
/-- the levels are told alike each time -/
theorem Rch.le {zones : List Int} {links : List (Nat × Nat)} {start : Nat} {F G : Fnd} (hF : Rch zones links start F) (hG : Rch zones links start G) : ∀ v c u, fd F v = some (c, u) → ∃ d x, fd G v = some (d, x) ∧ d ≤ c := by
  obtain ⟨rk, _, tr⟩ := hF.tree
  have : ∀ n v c u, rk v ≤ n → fd F v = some (c, u) → ∃ d x, fd G v = some (d, x) ∧ d ≤ c := by
    intro n
    induction n with
    | zero =>
      intro v c u hn e
      by_cases hv : v = start
      · subst hv
        rw [hF.st] at e
        cases e
        exact ⟨1, _, hG.st, Int.le_refl _⟩
      · obtain ⟨cu, pu, _, _, _, g⟩ := tr v c u e hv
        omega
    | succ n ih =>
      intro v c u hn e
      by_cases hv : v = start
      · subst hv
        rw [hF.st] at e
        cases e
        exact ⟨1, _, hG.st, Int.le_refl _⟩
      · obtain ⟨cu, pu, g1, g2, g3, g4⟩ := tr v c u e hv
        obtain ⟨d, x, h1, h2⟩ := ih u cu pu (by omega) g1
        obtain ⟨lb, pb, k1, k2⟩ := hG.kept u d x v h1 g2
        exact ⟨lb, pb, k1, by omega⟩
  exact fun v c u e => this _ v c u (Nat.le_refl _) e
theorem Rch.same {zones : List Int} {links : List (Nat × Nat)} {start : Nat} {F G : Fnd} (hF : Rch zones links start F) (hG : Rch zones links start G) : F.map (Option.map Prod.fst) = G.map (Option.map Prod.fst) := by
  apply List.ext_getElem?
  intro i
  rw [List.getElem?_map, List.getElem?_map]
  by_cases hi : i < zones.length
  · have h1 : i < F.length := by rw [hF.len]; exact hi
    have h2 : i < G.length := by rw [hG.len]; exact hi
    have e1 : fd F i = F[i] := by unfold fd; rw [List.getD_eq_getElem?_getD, List.getElem?_eq_getElem h1]; rfl
    have e2 : fd G i = G[i] := by unfold fd; rw [List.getD_eq_getElem?_getD, List.getElem?_eq_getElem h2]; rfl
    rw [List.getElem?_eq_getElem h1, List.getElem?_eq_getElem h2, ← e1, ← e2]
    cases a : fd F i with
    | none =>
      cases b : fd G i with
      | none => rfl
      | some x =>
        obtain ⟨d, x, g, _⟩ := hG.le hF i x.1 x.2 b
        rw [a] at g
        cases g
    | some x =>
      obtain ⟨d, y, g, h3⟩ := hF.le hG i x.1 x.2 a
      obtain ⟨d2, y2, g2, h4⟩ := hG.le hF i d y g
      rw [a] at g2
      have e3 : x = (d2, y2) := Option.some.inj g2
      rw [g]
      show some (some x.1) = some (some d)
      rw [e3] at h3 ⊢
      have h3 : d ≤ d2 := h3
      have h5 : d = d2 := by omega
      rw [h5]
  · rw [List.getElem?_eq_none (by rw [hF.len]; omega), List.getElem?_eq_none (by rw [hG.len]; omega)]
end FW

/-! Prices: what the defs of fareweb/prices.py promise. -/
namespace FW
open PySem PySem.Spec PyProof.Rows L2

/-- the classes' addresses -/
structure Ad where
  c_FareError : Addr
  c_BadLink : Addr
  c_BadStop : Addr
  c_NoWay : Addr
  c_BadPrices : Addr
  c_BadZones : Addr
  c_PastDay : Addr
  c_Tariff : Addr
  c_Web : Addr
  c_Ledger : Addr

/-- the least of a list -/
def lowL : List Int → Int
  | [] => 0
  | [a] => a
  | a :: b :: r => min a (lowL (b :: r))
theorem lowL_le : ∀ {l : List Int} {x : Int}, x ∈ l → lowL l ≤ x
  | [], _, h => by simp at h
  | [a], x, h => by
    have e : x = a := by simpa using h
    subst e
    exact Int.le_refl _
  | a :: b :: r, x, h => by
    show min a (lowL (b :: r)) ≤ x
    rcases List.mem_cons.mp h with e | h
    · subst e
      omega
    · have := lowL_le (l := b :: r) h
      omega
theorem lowL_mem : ∀ {l : List Int}, l ≠ [] → lowL l ∈ l
  | [], h => absurd rfl h
  | [a], _ => by simp [lowL]
  | a :: b :: r, _ => by
    have ih := lowL_mem (l := b :: r) (by simp)
    show min a (lowL (b :: r)) ∈ _
    by_cases c : a ≤ lowL (b :: r)
    · rw [Int.min_eq_left c]
      exact List.mem_cons_self
    · rw [Int.min_eq_right (by omega)]
      exact List.mem_cons_of_mem _ ih
theorem lowL_is {l : List Int} {m : Int} (h : m ∈ l) (hl : ∀ x ∈ l, m ≤ x) : lowL l = m := by
  have h1 := lowL_le h
  have h2 := hl _ (lowL_mem (by intro e; rw [e] at h; cases h))
  omega
/-- the price at k in a row (from one) -/
def pr (row : List Int) (k : Int) : Int := row.getD (k - 1).toNat 0
/-- the least price for so many zones or more -/
def low (row : List Int) (z : Int) : Int := lowL (row.drop (z - 1).toNat)
theorem pr_mem {row : List Int} {z k : Int} (h1 : 1 ≤ z) (h2 : z ≤ k) (h3 : k ≤ row.length) : pr row k ∈ row.drop (z - 1).toNat := by
  have hk : (k - 1).toNat < row.length := by omega
  unfold pr
  rw [List.getD_eq_getElem?_getD, List.getElem?_eq_getElem hk]
  refine List.mem_iff_getElem?.mpr ⟨(k - 1).toNat - (z - 1).toNat, ?_⟩
  rw [List.getElem?_drop]
  have e : (z - 1).toNat + ((k - 1).toNat - (z - 1).toNat) = (k - 1).toNat := by omega
  rw [e, List.getElem?_eq_getElem hk]
  rfl
theorem mem_pr {row : List Int} {z x : Int} (h1 : 1 ≤ z) (h : x ∈ row.drop (z - 1).toNat) : ∃ k : Int, z ≤ k ∧ k ≤ row.length ∧ pr row k = x := by
  obtain ⟨i, hi⟩ := List.mem_iff_getElem?.mp h
  rw [List.getElem?_drop] at hi
  obtain ⟨hlt, e⟩ := List.getElem?_eq_some_iff.mp hi
  refine ⟨z + i, by omega, by omega, ?_⟩
  unfold pr
  have e2 : (z + (i : Int) - 1).toNat = (z - 1).toNat + i := by omega
  rw [e2, List.getD_eq_getElem?_getD, hi]
  rfl
theorem low_le {row : List Int} {z k : Int} (h1 : 1 ≤ z) (h2 : z ≤ k) (h3 : k ≤ row.length) : low row z ≤ pr row k := lowL_le (pr_mem h1 h2 h3)
theorem low_at {row : List Int} {z : Int} (h1 : 1 ≤ z) (h3 : z ≤ row.length) : ∃ k : Int, z ≤ k ∧ k ≤ row.length ∧ pr row k = low row z := by
  refine mem_pr h1 (lowL_mem fun e => ?_)
  have := pr_mem h1 (Int.le_refl z) h3
  rw [e] at this
  cases this
theorem low_is {row : List Int} {z b : Int} (h1 : 1 ≤ z) (h2 : z ≤ b) (h3 : b ≤ row.length) (hl : ∀ k : Int, z ≤ k → k ≤ row.length → pr row b ≤ pr row k) : low row z = pr row b :=
  lowL_is (pr_mem h1 h2 h3) fun x hx => by
    obtain ⟨k, a, b', rfl⟩ := mem_pr h1 hx
    exact hl k a b'
theorem low_mono {row : List Int} {z y : Int} (h1 : 1 ≤ z) (h2 : z ≤ y) (h3 : y ≤ row.length) : low row z ≤ low row y := by
  obtain ⟨k, a, b, e⟩ := low_at (row := row) (z := y) (by omega) h3
  rw [← e]
  exact low_le h1 (by omega) b
theorem low_nn {row : List Int} {z : Int} (h : ∀ x ∈ row, 0 ≤ x) : 0 ≤ low row z := by
  unfold low
  by_cases e : row.drop (z - 1).toNat = []
  · rw [e]
    exact Int.le_refl _
  · exact h _ (List.mem_of_mem_drop (lowL_mem e))

/-! ### promises -/
def sp_need_zones (K : PySem.W.Frag) (A : Ad) : Sp := fun vs H Q E => ∃ z : Int, vs = [.int z] ∧ (1 ≤ z ∧ z ≤ 5 → Q .non H) ∧ (¬ (1 ≤ z ∧ z ≤ 5) → E (.ref A.c_BadZones) none H)
/-- the row is read; b: for how many zones the cheapest ticket is -/
def sp_cheapest (K : PySem.W.Frag) (A : Ad) : Sp := fun vs H Q E => ∃ (a : Addr) (row : List Int) (z : Int), vs = [.ref a, .int z] ∧ SqL K H a (row.map V.int) ∧ row.length = 5 ∧
  (1 ≤ z ∧ z ≤ 5 → ∀ (b : Int) (p : Addr) (H' : Hp), z ≤ b → b ≤ 5 → pr row b = low row z → Same H H' → H p = none → H' p = some (.tup [.int b, .int (low row z)]) → Q (.ref p) H') ∧
  (¬ (1 ≤ z ∧ z ≤ 5) → E (.ref A.c_BadZones) none H)

theorem f_sd : ¬ (("singles" : Str) = "days") := by decide +kernel
theorem f_sw : ¬ (("singles" : Str) = "weeks") := by decide +kernel
theorem f_dw : ¬ (("days" : Str) = "weeks") := by decide +kernel
/-- the attributes, in the order in which __init__ stores them -/
def tarF (a b c : Addr) : List (Str × V) := putF "weeks" (.ref c) (putF "days" (.ref b) (putF "singles" (.ref a) []))
theorem tarF_s (a b c : Addr) : (tarF a b c).lookup ("singles" : Str) = some (.ref a) := by
  unfold tarF
  rw [lookup_putF, if_neg f_sw, lookup_putF, if_neg f_sd, lookup_putF, if_pos rfl]
theorem tarF_d (a b c : Addr) : (tarF a b c).lookup ("days" : Str) = some (.ref b) := by
  unfold tarF
  rw [lookup_putF, if_neg f_dw, lookup_putF, if_pos rfl]
theorem tarF_w (a b c : Addr) : (tarF a b c).lookup ("weeks" : Str) = some (.ref c) := by
  unfold tarF
  rw [lookup_putF, if_pos rfl]
theorem tarF_no (a b c : Addr) {m : Str} (h1 : ¬ m = "singles") (h2 : ¬ m = "days") (h3 : ¬ m = "weeks") : (tarF a b c).lookup m = none := by
  unfold tarF
  rw [lookup_putF, if_neg h3, lookup_putF, if_neg h2, lookup_putF, if_neg h1]
  rfl
/-- five prices from nought on -/
def Row5 (row : List Int) : Prop := row.length = 5 ∧ ∀ x ∈ row, 0 ≤ x
/-- a tariff stands at p: its three lists at a, b, c -/
structure TarAt (A : Ad) (H : Hp) (p a b c : Addr) (S D W : List Int) : Prop where
  ob : ∃ dx, H p = some (.ins A.c_Tariff dx (tarF a b c))
  hs : H a = some (.lst (S.map V.int))
  hd : H b = some (.lst (D.map V.int))
  hw : H c = some (.lst (W.map V.int))
  rs : Row5 S
  rd : Row5 D
  rw : Row5 W
theorem TarAt.same {A : Ad} {H H' : Hp} {p a b c : Addr} {S D W : List Int} (t : TarAt A H p a b c S D W) (s : Same H H') : TarAt A H' p a b c S D W :=
  ⟨let ⟨dx, e⟩ := t.ob; ⟨dx, s _ _ e⟩, s _ _ t.hs, s _ _ t.hd, s _ _ t.hw, t.rs, t.rd, t.rw⟩
theorem TarAt.dels {A : Ad} {H : Hp} {p a b c : Addr} {S D W : List Int} {hs : List Addr} (t : TarAt A H p a b c S D W) (np : p ∉ hs) (na : a ∉ hs) (nb : b ∉ hs) (nc : c ∉ hs) : TarAt A (dels H hs) p a b c S D W :=
  ⟨let ⟨dx, e⟩ := t.ob; ⟨dx, by rw [dels_out np]; exact e⟩, by rw [dels_out na]; exact t.hs, by rw [dels_out nb]; exact t.hd, by rw [dels_out nc]; exact t.hw, t.rs, t.rd, t.rw⟩
def Tar (A : Ad) (H : Hp) (p : Addr) (S D W : List Int) : Prop := ∃ a b c, TarAt A H p a b c S D W
theorem Tar.same {A : Ad} {H H' : Hp} {p : Addr} {S D W : List Int} (t : Tar A H p S D W) (s : Same H H') : Tar A H' p S D W :=
  let ⟨a, b, c, h⟩ := t; ⟨a, b, c, h.same s⟩
/-- Tariff(singles, days, weeks): three lists of whole numbers; a new tariff with lists of its own, or BadPrices -/
def sp_Tariff_init (K : PySem.W.Frag) (A : Ad) : Sp := fun vs H Q E => ∃ (p dx a b c : Addr) (S D W : List Int), vs = [.ref p, .ref a, .ref b, .ref c] ∧ H p = some (.ins A.c_Tariff dx []) ∧
  SqL K H a (S.map V.int) ∧ SqL K H b (D.map V.int) ∧ SqL K H c (W.map V.int) ∧
  (Row5 S ∧ Row5 D ∧ Row5 W → ∀ (a' b' c' : Addr) (H' : Hp), TarAt A H' p a' b' c' S D W → H a' = none → H b' = none → H c' = none → a' ≠ b' → a' ≠ c' → b' ≠ c' → (∀ x o, H x = some o → x ≠ p → H' x = some o) → Q .non H') ∧
  (¬ (Row5 S ∧ Row5 D ∧ Row5 W) → ∀ H', Same H H' → E (.ref A.c_BadPrices) none H')
def spPrice (K : PySem.W.Frag) (A : Ad) (f : List Int → List Int → List Int → List Int) : Sp := fun vs H Q E => ∃ (p : Addr) (S D W : List Int) (z : Int), vs = [.ref p, .int z] ∧ Tar A H p S D W ∧
  (1 ≤ z ∧ z ≤ 5 → ∀ H', Same H H' → Q (.int (low (f S D W) z)) H') ∧ (¬ (1 ≤ z ∧ z ≤ 5) → E (.ref A.c_BadZones) none H)
def sp_Tariff_single (K : PySem.W.Frag) (A : Ad) : Sp := spPrice K A fun S _ _ => S
def sp_Tariff_day (K : PySem.W.Frag) (A : Ad) : Sp := spPrice K A fun _ D _ => D
def sp_Tariff_week (K : PySem.W.Frag) (A : Ad) : Sp := spPrice K A fun _ _ W => W
/-- what the walk asks of the class -/
structure OkT (K : PySem.W.Frag) (A : Ad) : Prop where
  cl : Cls K A.c_Tariff
  nS : NoAttr K A.c_Tariff "singles"
  nD : NoAttr K A.c_Tariff "days"
  nW : NoAttr K A.c_Tariff "weeks"
theorem tar_s {A : Ad} {H : Hp} {p : Addr} {S D W : List Int} (T : Tar A H p S D W) : ∃ (dx a b c q : Addr), H p = some (.ins A.c_Tariff dx (tarF a b c)) ∧ (tarF a b c).lookup ("singles" : Str) = some (.ref q) ∧ H q = some (.lst (S.map V.int)) ∧ S.length = 5 :=
  let ⟨a, b, c, t⟩ := T; let ⟨dx, e⟩ := t.ob; ⟨dx, a, b, c, a, e, tarF_s a b c, t.hs, t.rs.1⟩
theorem tar_d {A : Ad} {H : Hp} {p : Addr} {S D W : List Int} (T : Tar A H p S D W) : ∃ (dx a b c q : Addr), H p = some (.ins A.c_Tariff dx (tarF a b c)) ∧ (tarF a b c).lookup ("days" : Str) = some (.ref q) ∧ H q = some (.lst (D.map V.int)) ∧ D.length = 5 :=
  let ⟨a, b, c, t⟩ := T; let ⟨dx, e⟩ := t.ob; ⟨dx, a, b, c, b, e, tarF_d a b c, t.hd, t.rd.1⟩
theorem tar_w {A : Ad} {H : Hp} {p : Addr} {S D W : List Int} (T : Tar A H p S D W) : ∃ (dx a b c q : Addr), H p = some (.ins A.c_Tariff dx (tarF a b c)) ∧ (tarF a b c).lookup ("weeks" : Str) = some (.ref q) ∧ H q = some (.lst (W.map V.int)) ∧ W.length = 5 :=
  let ⟨a, b, c, t⟩ := T; let ⟨dx, e⟩ := t.ob; ⟨dx, a, b, c, c, e, tarF_w a b c, t.hw, t.rw.1⟩
/-- isinstance of an exception of the class D: which of the classes take it (all of them FareError and ValueError) -/
structure IsX (K : PySem.W.Frag) (A : Ad) (D : Addr) (l s n p z d : Bool) : Prop where
  c : ExcC K D
  x : PySem.W.exmOne K (.ref D) (.ref A.c_FareError) = some true
  f : PySem.W.kitOne K (.ref D) (.ref A.c_FareError) = some true
  v : PySem.W.kitOne K (.ref D) (.type "ValueError") = some true
  l : PySem.W.kitOne K (.ref D) (.ref A.c_BadLink) = some l
  s : PySem.W.kitOne K (.ref D) (.ref A.c_BadStop) = some s
  n : PySem.W.kitOne K (.ref D) (.ref A.c_NoWay) = some n
  p : PySem.W.kitOne K (.ref D) (.ref A.c_BadPrices) = some p
  z : PySem.W.kitOne K (.ref D) (.ref A.c_BadZones) = some z
  d : PySem.W.kitOne K (.ref D) (.ref A.c_PastDay) = some d
end FW

/-! list(reversed(a list)). -/
namespace FWR
open PySem PySem.Spec PyProof.Rows RT
section
variable {prog : Program} {w : World} {A : Around} {E : Value → Shared → Prop} {s : Shared}
/-- the items that a list's reverse iterator yields -/
abbrev RevItems (items acc : Array Value) : Prop := ItemsOf (fun i v => items[items.size - 1 - i]? = some v) acc items.size
theorem list_init_rev {R : Result → Shared → Prop} {it l S : Addr} {items : Array Value} (hh : A.handled = none)
    (hit : s.heap.IsRevIter it l ((items.size : Int) - 1))
    (hl : s.heap.IsList l items) (hne : l ≠ it) (hn : items.size ≤ sizeLine)
    (hS : s.heap.get? S = some { cls := .type "list", data := .seq #[] })
    (nSi : S ≠ it) (nSl : S ≠ l)
    (hR : ∀ (g : Heap) (tk : Nat) (acc : Array Value) (c : Nat), (∀ b o, b ≠ S → b ≠ it → s.heap.get? b = some o → g.get? b = some o) →
      g.get? S = some { cls := .type "list", dict := none, data := .seq acc c, slots := #[] } →
      RevItems items acc → R (.ok (.ret .none)) { s with heap := g, toks := tk }) :
    wpAny (model prog w) A.in1 (Builtin.«list.__init__» ⟨[.ref S, .ref it], []⟩)
      (fun fin t => match fin with | .done f => R (.ok f) t | .again c' => c'.quiet = true ∧ codeAny (model prog w) A c' R t) (fun e t => R (.error e) t) s := by
  show wpAny _ _ (do let old ← Builtin.List.listItems (.ref S); Builtin.List.listUpdate (.ref S) (fun _ => #[]); letGo old.toList.reverse; Builtin.List.listExtendWith (.ref S) (.ref it) .none) _ _ _
  refine wpAny_bind ?_
  unfold Builtin.List.listItems
  refine wpAny_bind (wpAny_seqItems hS rfl (wpAny_pure ?_))
  show wpAny _ _ (updateSeq S (fun _ => #[]) >>= fun _ => letGo (#[] : Array Value).toList.reverse >>= fun _ => Builtin.List.listExtendWith (.ref S) (.ref it) .none) _ _ _
  refine wpAny_bind (wpAny_updateSeq hS rfl ?_)
  have hS2 := Heap.get?_update_self (Obj.mapSeq (fun _ => (#[] : Array Value))) hS rfl
  have oth : ∀ b o, b ≠ S → s.heap.get? b = some o → (s.heap.update S (Obj.mapSeq (fun _ => (#[] : Array Value)))).get? b = some o := fun b o nb e => (Heap.get?_update_other _ _ (fun z => nb z.symm)).trans e
  refine wpAny_bind (wpAny_letGo ?_)
  have hit2 : (s.heap.update S (Obj.mapSeq (fun _ => (#[] : Array Value)))).IsRevIter it l ((items.size : Int) - 1) := hit.at fun o e => oth it o (fun z => nSi z.symm) e
  have hl2 : (s.heap.update S (Obj.mapSeq (fun _ => (#[] : Array Value)))).IsList l items := by
    obtain ⟨o, e, r⟩ := hl
    exact ⟨o, oth l o (fun z => nSl z.symm) e, r⟩
  generalize s.heap.update S (Obj.mapSeq (fun _ => (#[] : Array Value))) = g2 at *
  have WW := (Walks.listRev (prog := prog) (w := w) (A := A.in1) hh it l hne items).toS
  have fpS : S ∉ [it, l] := by
    intro m
    rcases List.mem_cons.mp m with e | m
    · exact nSi e
    · exact nSl (List.mem_singleton.mp m)
  have ty : ({ s with heap := g2 } : Shared).TypeIs (.ref it) "list_reverseiterator" := Heap.IsRevIter.typeIs (s := { s with heap := g2 }) hit2
  have nr : Builtin.List.listSameRef (.ref S) (.ref it) = false := by simp [Builtin.List.listSameRef, nSi]
  unfold Builtin.List.listExtendWith
  refine wpAny_bind (wpAny_typeOf ty ?_)
  rw [if_neg (by rw [nr]; decide)]
  refine wpAny_bind (wpAny_pyIter_revIter (s := { s with heap := g2 }) hit2 ?_)
  refine wpAny_bind (wpAny_holding ?_)
  unfold Builtin.List.listLengthHint
  refine wpAny_bind (wpAny_specialOf ty nolen_lri ?_)
  show wpAny _ A.in1 (specialOf (Value.ref it) (Str.ofString "__length_hint__") >>= _) _ _ _
  refine wpAny_bind (wpAny_specialOf ty hint_lri ?_)
  generalize hid : ("list_reverseiterator.__length_hint__" : String) = nm
  wp_delta
  rw [show splitId nm = some ("list_reverseiterator", "__length_hint__") from by subst hid; decide +kernel]
  subst hid
  refine wpAny_bind (wpAny_isInstance (b := true) ty (by rw [isSubtype_type]; kernel_rfl) ?_)
  refine wpAny_pure ?_
  rw [if_neg (by decide)]
  have z0 : ((items.size : Nat) : Int) - 1 - ((0 : Nat) : Int) = (items.size : Int) - 1 := by omega
  refine wpAny_pure ⟨plainId_quiet F.plain_extend_loop _, codeAny_extend_loopS WW hn _ fpS _ items.size 0 _ _ _ rfl (Nat.zero_le _) ⟨Nat.zero_le _, by rw [z0]; exact hit2, hl2⟩ hS2 (ItemsOf.nil _) fun t acc c hm hSt hacc => ?_⟩
  rw [Moved.eq_with hm]
  refine hR t.heap t.toks acc c (fun b o n1 n2 e => hm.heap b o (fun m => ?_) (oth b o n1 e)) hSt hacc
  rcases List.mem_cons.mp m with z | m
  · exact n1 z
  · exact n2 (List.mem_singleton.mp m)
theorem call_list_rev {it l : Addr} {items : Array Value} {Q : Value → Shared → Prop} (hh : A.handled = none)
    (hit : s.heap.IsRevIter it l ((items.size : Int) - 1))
    (hl : s.heap.IsList l items) (hne : l ≠ it) (hn : items.size ≤ sizeLine)
    (hQ : ∀ (g : Heap) (tk : Nat) (acc : Array Value) (c : Nat), (∀ b o, b ≠ it → s.heap.get? b = some o → g.get? b = some o) →
      g.get? s.heap.objs.size = some { cls := .type "list", dict := none, data := .seq acc c, slots := #[] } →
      RevItems items acc → Q (.ref s.heap.objs.size) { s with heap := g, toks := tk }) : wpAny (model prog w) A (call (.type "list") [.ref it]) Q E s := by
  refine callType_codes (Q₁ := fun u t => u = .ref s.heap.objs.size ∧ t = { s with heap := s.heap.push { cls := .type "list", data := .seq #[] } }) F.called_list (F.typeCall_list_1 _) F.entry_list_init (code_list_new _ ⟨rfl, rfl⟩) fun u t ht => ?_
  obtain ⟨rfl, rfl⟩ := ht
  have fresh : (s.heap.push { cls := .type "list", data := .seq (#[] : Array Value) }).get? s.heap.objs.size = some { cls := .type "list", data := .seq #[] } := Heap.get?_push_size _ rfl
  obtain ⟨oi, hoi, _⟩ := id hit
  obtain ⟨ol, hol, _⟩ := id hl
  refine ⟨⟨_, fresh, rfl⟩, F.args_list_init_2 _ _, list_init_rev (A := A.in1) hh (hit.at fun o e => Heap.get?_push_of_some _ e) (hl.push _) hne hn fresh (fun e => ?_) (fun e => ?_) fun g tk acc c hk hg hi => ⟨rfl, hQ g tk acc c (fun b o nb e => hk b o (Nat.ne_of_lt (Heap.lt_size e)) nb (Heap.get?_push_of_some _ e)) hg hi⟩⟩
  · exact absurd (Heap.lt_size hoi) (by rw [← e]; exact Nat.lt_irrefl _)
  · exact absurd (Heap.lt_size hol) (by rw [← e]; exact Nat.lt_irrefl _)
end
end FWR

namespace L2
open PySem PySem.Spec PyProof.Rows RT
def tListRev (K : PySem.W.Frag) (te : TE) : TE := fun σ H Q => te σ H fun v H1 => ∃ (a : Addr) (xs : List V), v = .ref a ∧ SqL K H1 a xs ∧ ∀ q, H1 q = none → Q (.ref q) (upd H1 q (.lst xs.reverse))
theorem pe_listRev {X : Cx} {e : Expr} {te : TE} {p p2 pos pos2 : Pos} (hc : X.calm = true) (hg : Gl X "list") (hm : X.mg "list" = none) (hg2 : Gl X "reversed") (hm2 : X.mg "reversed" = none) (he : PE X e te)
    (hs : starEach [e] X.env = (false, eval e X.env) :: starEach [] X.env := by rfl)
    (hs2 : starEach [.Call (.Name "reversed" p2) [e] [] pos2] X.env = (false, eval (.Call (.Name "reversed" p2) [e] [] pos2) X.env) :: starEach [] X.env := by rfl) :
    PE X (.Call (.Name "list" p) [.Call (.Name "reversed" p2) [e] [] pos2] [] pos) (tListRev X.K te) := by
  refine ⟨fun pins s σ H Q I h => ?_⟩
  refine Call_ (ld_blt I hg hm boot_list (PyProof.Rows.callWith_type1 (args_cons (Call_ (ld_blt I hg2 hm2 PyProof.Rows.boot_reversed (PyProof.Rows.callWith_type1 (args_cons (thn (he.run pins s σ H _ I h) fun u s1 ⟨v, H1, I1, r1, q1⟩ => args_nil ?_) hs) hs rfl))) hs2) hs2 rfl))
  obtain ⟨a, xs, ev, hq, q⟩ := q1
  subst ev
  cases (show u = Value.ref a from r1)
  obtain ⟨its, rv, pl, hz⟩ := I1.list hq
  have hl := pl.isList
  refine call_reversed_list hl (args_nil ?_)
  have grow : ∀ b o, s1.heap.get? b = some o → (s1.heap.push (revObj a ((its.toArray.size : Int) - 1))).get? b = some o := fun b o e => Heap.get?_push_of_some _ e
  have I2 : Inv X pins σ H1 { s1 with heap := s1.heap.push (revObj a ((its.toArray.size : Int) - 1)) } := I1.kept (t' := s1.toks) grow
  obtain ⟨f0, f1, f2, f3, f4, f5⟩ := I1.fpOk (H' := H1) (b := s1.heap.objs.size) (Nat.le_refl _) (I1.hok.fresh (Nat.le_refl _))
  obtain ⟨ol, hol, _⟩ := id hl
  have nla : a ≠ s1.heap.objs.size := Nat.ne_of_lt (Heap.lt_size hol)
  have hn : its.toArray.size ≤ sizeLine := by
    rw [List.size_toArray, ← rv.length]
    exact hz
  refine FWR.call_list_rev (s := { s1 with heap := s1.heap.push (revObj a ((its.toArray.size : Int) - 1)) }) (I1.ok.hd hc) ⟨_, Heap.get?_push_size _ rfl, rfl, rfl⟩ (hl.push _) nla hn fun g tk acc c hk hg hi => ?_
  refine ⟨.ref _, upd H1 _ (.lst xs.reverse), I2.turnedNew (t' := tk) (ch := [s1.heap.objs.size]) (T := (s1.heap.push (revObj a ((its.toArray.size : Int) - 1))).objs.size) (fun b o nb e => hk b o (fun z => nb (List.mem_singleton.mpr z)) e) (fun b hb => by rw [List.mem_singleton.mp hb]; exact ⟨f0, f1, f2, f3, f4, f5⟩) (Nat.le_refl _) ?_, rfl, q _ (I2.hok.fresh (Nat.le_refl _))⟩
  exact (show ObjOk X.prog X.w _ _ _ (.lst xs.reverse) from ⟨by rw [List.length_reverse]; exact hz, acc.toList, c, vals_rev rv hi, by rw [Array.toArray_toList]; exact hg⟩)
end L2

/-! Web: what the defs of fareweb/web.py promise. -/
namespace FW
open PySem PySem.Spec PyProof.Rows L2
/-- the two attributes -/
def webF (a b : Addr) : List (Str × V) := putF "links" (.ref b) (putF "zones" (.ref a) [])
theorem f_zl : ¬ (("zones" : Str) = "links") := by decide +kernel
theorem webF_z (a b : Addr) : (webF a b).lookup ("zones" : Str) = some (.ref a) := by
  unfold webF
  rw [lookup_putF, if_neg f_zl, lookup_putF, if_pos rfl]
theorem webF_l (a b : Addr) : (webF a b).lookup ("links" : Str) = some (.ref b) := by
  unfold webF
  rw [lookup_putF, if_pos rfl]
theorem webF_no (a b : Addr) {m : Str} (h1 : ¬ m = "zones") (h2 : ¬ m = "links") : (webF a b).lookup m = none := by
  unfold webF
  rw [lookup_putF, if_neg h2, lookup_putF, if_neg h1]
  rfl
/-- pairs of stops stand at these places -/
abbrev PairL (H : Hp) (xs : List V) (ps : List (Nat × Nat)) : Prop := Paired (fun v p => ∃ q, v = V.ref q ∧ H q = some (.tup [.int (p.1 : Nat), .int (p.2 : Nat)])) xs ps
theorem PairL.same {H H' : Hp} (s : Same H H') : ∀ {xs : List V} {ps : List (Nat × Nat)}, PairL H xs ps → PairL H' xs ps
  | _, _, .nil => .nil
  | _, _, .cons ⟨q, e, h⟩ r => .cons ⟨q, e, s _ _ h⟩ (PairL.same s r)
theorem PairL.len {H : Hp} {xs : List V} {ps : List (Nat × Nat)} (a : PairL H xs ps) : xs.length = ps.length := Paired.length a
theorem PairL.snoc {H : Hp} {xs : List V} {ps : List (Nat × Nat)} {q : Addr} {a b : Nat} (l : PairL H xs ps) (h : H q = some (.tup [.int a, .int b])) : PairL H (xs ++ [.ref q]) (ps ++ [(a, b)]) := Paired.snoc l ⟨q, rfl, h⟩
theorem PairL.get {H : Hp} : ∀ {xs : List V} {ps : List (Nat × Nat)} {i : Nat} {x : V}, PairL H xs ps → xs[i]? = some x → ∃ a b q, ps[i]? = some (a, b) ∧ x = .ref q ∧ H q = some (.tup [.int (a : Nat), .int (b : Nat)])
  | _, _, _, _, .nil, h => by simp at h
  | _, _, 0, x, .cons ⟨q, e, h⟩ r, hx => ⟨_, _, q, rfl, by rw [← e]; exact (Option.some.inj hx).symm, h⟩
  | _, _, i + 1, x, .cons _ r, hx => PairL.get (i := i) r hx
/-- a web stands at p -/
structure WebAt (A : Ad) (H : Hp) (p a b : Addr) (zones : List Int) (links : List (Nat × Nat)) : Prop where
  ob : ∃ dx, H p = some (.ins A.c_Web dx (webF a b))
  hz : H a = some (.lst (zones.map V.int))
  hl : ∃ xs, H b = some (.lst xs) ∧ PairL H xs links
  ok : WebOk zones links
theorem WebAt.same {A : Ad} {H H' : Hp} {p a b : Addr} {zones : List Int} {links : List (Nat × Nat)} (w : WebAt A H p a b zones links) (s : Same H H') : WebAt A H' p a b zones links :=
  ⟨let ⟨dx, e⟩ := w.ob; ⟨dx, s _ _ e⟩, s _ _ w.hz, let ⟨xs, e, l⟩ := w.hl; ⟨xs, s _ _ e, l.same s⟩, w.ok⟩
def Web (A : Ad) (H : Hp) (p : Addr) (zones : List Int) (links : List (Nat × Nat)) : Prop := ∃ a b, WebAt A H p a b zones links
theorem Web.same {A : Ad} {H H' : Hp} {p : Addr} {zones : List Int} {links : List (Nat × Nat)} (w : Web A H p zones links) (s : Same H H') : Web A H' p zones links :=
  let ⟨a, b, h⟩ := w; ⟨a, b, h.same s⟩
/-- what the walk asks of the class -/
structure OkW (K : PySem.W.Frag) (A : Ad) : Prop where
  cl : Cls K A.c_Web
  nZ : NoAttr K A.c_Web "zones"
  nL : NoAttr K A.c_Web "links"
/-- pairs of whole numbers -/
abbrev IPairL (H : Hp) (xs : List V) (ps : List (Int × Int)) : Prop := Paired (fun v p => ∃ q, v = V.ref q ∧ H q = some (.tup [.int p.1, .int p.2])) xs ps
theorem IPairL.get {H : Hp} : ∀ {xs : List V} {ps : List (Int × Int)} {i : Nat} {x : V}, IPairL H xs ps → xs[i]? = some x → ∃ a b q, ps[i]? = some (a, b) ∧ x = .ref q ∧ H q = some (.tup [.int a, .int b])
  | _, _, _, _, .nil, h => by simp at h
  | _, _, 0, x, .cons ⟨q, e, h⟩ r, hx => ⟨_, _, q, rfl, by rw [← e]; exact (Option.some.inj hx).symm, h⟩
  | _, _, i + 1, x, .cons _ r, hx => IPairL.get (i := i) r hx
theorem IPairL.same {H H' : Hp} (s : Same H H') : ∀ {xs : List V} {ps : List (Int × Int)}, IPairL H xs ps → IPairL H' xs ps
  | _, _, .nil => .nil
  | _, _, .cons ⟨q, e, h⟩ r => .cons ⟨q, e, s _ _ h⟩ (IPairL.same s r)
def LinkOk (n : Nat) (p : Int × Int) : Prop := p.1 ≠ p.2 ∧ 0 ≤ p.1 ∧ 0 ≤ p.2 ∧ p.1 < n ∧ p.2 < n
def natP (p : Int × Int) : Nat × Nat := (p.1.toNat, p.2.toNat)
def sp_Web_init (K : PySem.W.Frag) (A : Ad) : Sp := fun vs H Q E => ∃ (p dx z l : Addr) (zones : List Int) (xs : List V) (ls : List (Int × Int)), vs = [.ref p, .ref z, .ref l] ∧ H p = some (.ins A.c_Web dx []) ∧
  SqL K H z (zones.map V.int) ∧ SqL K H l xs ∧ IPairL H xs ls ∧ zones.length ≤ 70 ∧ ls.length ≤ 300 ∧
  ((∀ q ∈ ls, LinkOk zones.length q) → ∀ (a b : Addr) (H' : Hp), WebAt A H' p a b zones (ls.map natP) → H a = none → H b = none → (∀ x o, H x = some o → x ≠ p → H' x = some o) → Q .non H') ∧
  (¬ (∀ q ∈ ls, LinkOk zones.length q) → E (.ref A.c_BadLink) none H)
def sp_Web_need (K : PySem.W.Frag) (A : Ad) : Sp := fun vs H Q E => ∃ (p : Addr) (zones : List Int) (links : List (Nat × Nat)) (z : Int), vs = [.ref p, .int z] ∧ Web A H p zones links ∧ (0 ≤ z ∧ z < zones.length → Q .non H) ∧ (¬ (0 ≤ z ∧ z < zones.length) → E (.ref A.c_BadStop) none H)
def sp_Web_beside (K : PySem.W.Frag) (A : Ad) : Sp := fun vs H Q _ => ∃ (p : Addr) (zones : List Int) (links : List (Nat × Nat)) (s : Nat), vs = [.ref p, .int s] ∧ Web A H p zones links ∧
  ∀ (l : Addr) (H' : Hp), Same H H' → H l = none → H' l = some (.lst ((nbr links s).map fun o => V.int (o : Nat))) → Q (.ref l) H'
/-- what is found stands at these places -/
abbrev FndL (H : Hp) (xs : List V) (F : Fnd) : Prop := Paired (fun v o => match o with | none => v = V.non | some (c, u) => ∃ q, v = V.ref q ∧ H q = some (.tup [.int c, .int (u : Nat)])) xs F
theorem FndL.same {H H' : Hp} (s : Same H H') : ∀ {xs : List V} {F : Fnd}, FndL H xs F → FndL H' xs F
  | _, _, .nil => .nil
  | _, none :: _, .cons e r => .cons e (FndL.same s r)
  | _, some (c, u) :: _, .cons ⟨q, e, h⟩ r => .cons ⟨q, e, s _ _ h⟩ (FndL.same s r)
theorem FndL.len {H : Hp} {xs : List V} {F : Fnd} (a : FndL H xs F) : xs.length = F.length := Paired.length a
theorem FndL.get {H : Hp} : ∀ {xs : List V} {F : Fnd} {i : Nat}, FndL H xs F → i < F.length → (xs[i]? = some .non ∧ fd F i = none) ∨ ∃ c u q, xs[i]? = some (.ref q) ∧ fd F i = some (c, u) ∧ H q = some (.tup [.int c, .int (u : Nat)])
  | _, _, i, .nil, h => by simp at h
  | _, none :: _, 0, .cons e r, _ => .inl ⟨by rw [e]; rfl, rfl⟩
  | _, some (c, u) :: _, 0, .cons ⟨q, e, h⟩ r, _ => .inr ⟨c, u, q, by rw [e]; rfl, rfl, h⟩
  | _, _ :: F, i + 1, .cons _ r, h => FndL.get (i := i) r (by simpa using h)
theorem FndL.set {H : Hp} {q : Addr} {c : Int} {u : Nat} (h : H q = some (.tup [.int c, .int (u : Nat)])) : ∀ {xs : List V} {F : Fnd} {i : Nat}, FndL H xs F → FndL H (xs.set i (.ref q)) (F.set i (some (c, u)))
  | _, _, _, .nil => .nil
  | _, _ :: _, 0, .cons _ r => .cons ⟨q, rfl, h⟩ r
  | _, _ :: _, i + 1, .cons e r => .cons e (FndL.set h r)
def sp_Web_spread (K : PySem.W.Frag) (A : Ad) : Sp := fun vs H Q _ => ∃ (p f l : Addr) (k : Int) (zones : List Int) (links : List (Nat × Nat)) (start : Nat) (fs xs : List V) (F : Fnd) (ps : List (Nat × Nat)) (rk : Nat → Nat) (T : Nat), vs = [.ref p, .ref f, .ref l, .int k] ∧
  Web A (del H f) p zones links ∧ H f = some (.lst fs) ∧ FndL (del H f) fs F ∧ SqL K (del H f) l xs ∧ PairL (del H f) xs ps ∧ Sprd zones links start k F ps [] rk T ∧ ps.length ≤ 42000 ∧
  ∀ (l' : Addr) (fs' xs' : List V) (F' : Fnd) (ps' : List (Nat × Nat)) (rk' : Nat → Nat) (T' : Nat) (H' : Hp), Same (del H f) (del H' f) → H' f = some (.lst fs') → FndL (del H' f) fs' F' → H l' = none → H' l' = some (.lst xs') → PairL (del H' f) xs' ps' →
    Sprd zones links start (k + 1) F' ps' [] rk' T' → ps'.length ≤ 42000 → (∀ q ∈ ps', fd F' q.1 = none) → ((∃ q ∈ ps, fd F q.1 = none) → free F' < free F) → Q (.ref l') H'
def InR (zones : List Int) (z : Int) : Prop := 0 ≤ z ∧ z < zones.length
def sp_Web_reached (K : PySem.W.Frag) (A : Ad) : Sp := fun vs H Q E => ∃ (p : Addr) (zones : List Int) (links : List (Nat × Nat)) (z : Int), vs = [.ref p, .int z] ∧ Web A H p zones links ∧
  (InR zones z → ∀ (l : Addr) (fs : List V) (F : Fnd) (H' : Hp), Same H H' → H l = none → H' l = some (.lst fs) → FndL H' fs F → Rch zones links z.toNat F → Q (.ref l) H') ∧ (¬ InR zones z → E (.ref A.c_BadStop) none H)
/-- a level as a value -/
def lvV : Option (Int × Nat) → V
  | none => .non
  | some (c, _) => .int c
def sp_Web_levels (K : PySem.W.Frag) (A : Ad) : Sp := fun vs H Q E => ∃ (p : Addr) (zones : List Int) (links : List (Nat × Nat)) (z : Int), vs = [.ref p, .int z] ∧ Web A H p zones links ∧
  (InR zones z → ∀ (l : Addr) (F : Fnd) (H' : Hp), Same H H' → H l = none → H' l = some (.lst (F.map lvV)) → Rch zones links z.toNat F → Q (.ref l) H') ∧ (¬ InR zones z → E (.ref A.c_BadStop) none H)
/-- the zones of the ride: c of them, or no way -/
def sp_Web_fewest (K : PySem.W.Frag) (A : Ad) : Sp := fun vs H Q E => ∃ (p : Addr) (zones : List Int) (links : List (Nat × Nat)) (z g : Int), vs = [.ref p, .int z, .int g] ∧ Web A H p zones links ∧
  (InR zones z → InR zones g → ∀ (F : Fnd) (H' : Hp), Same H H' → Rch zones links z.toNat F → (∀ c u, fd F g.toNat = some (c, u) → Q (.int c) H') ∧ (fd F g.toNat = none → E (.ref A.c_NoWay) none H')) ∧
  (¬ (InR zones z ∧ InR zones g) → E (.ref A.c_BadStop) none H)
/-- the stops of a way, by the stops ahead -/
def Fwd (F : Fnd) : List Nat → Prop
  | [] => False
  | [_] => True
  | u :: g :: r => (∃ c, fd F g = some (c, u)) ∧ Fwd F (g :: r)
def sp_Web_way (K : PySem.W.Frag) (A : Ad) : Sp := fun vs H Q E => ∃ (p : Addr) (zones : List Int) (links : List (Nat × Nat)) (z g : Int), vs = [.ref p, .int z, .int g] ∧ Web A H p zones links ∧
  (InR zones z → InR zones g → ∀ (F : Fnd) (H' : Hp), Same H H' → Rch zones links z.toNat F → (fd F g.toNat ≠ none → ∀ (l : Addr) (H'' : Hp) (row : List Nat), Same H' H'' → H l = none → H'' l = some (.lst (row.map fun (o : Nat) => V.int (o : Nat))) → Fwd F row → (∀ o ∈ row.tail, o ≠ z.toNat) → row.head? = some z.toNat → row.getLast? = some g.toNat → row.length ≤ 71 → Q (.ref l) H'') ∧
    (fd F g.toNat = none → E (.ref A.c_NoWay) none H')) ∧
  (¬ (InR zones z ∧ InR zones g) → E (.ref A.c_BadStop) none H)
end FW

namespace FW
open PySem PySem.Spec PyProof.Rows L2
@[irreducible] def t_Web_init_s2 (K : PySem.W.Frag) (A : Ad) (E : XK) : TS :=
 sFld K (tVar 0) (tLc (iList K (tVar 2)) (gTup K 2 (gCons (gName 3) (gCons (gName 4) (gNil)))) (tYes) (tTup (tCons (tVar 3) (tCons (tVar 4) (tNil)))) [3, 4]) "links"
@[irreducible] def t_Web_init_s1 (K : PySem.W.Frag) (A : Ad) (E : XK) : TS :=
 tSeq (sFld K (tVar 0) (tCB (rListS K) (tCons (tVar 1) (tNil))) "zones")
 (t_Web_init_s2 K A E)
def N_Web_init : List Str := ["self", "zones", "links", "one", "other"]
def t_Web_init (K : PySem.W.Frag) (A : Ad) (E : XK) : TS :=
 tSeq (tFor (iList K (tVar 2)) (gTup K 2 (gCons (gName 3) (gCons (gName 4) (gNil)))) (tIfS (tOr (tTest (tOp rEq (tVar 3) (tVar 4))) (tOr (tTest (tOp rLtI (tCB rMin2 (tCons (tVar 3) (tCons (tVar 4) (tNil)))) (tC (.int 0)))) (tTest (tOp rGeI (tCB rMax2 (tCons (tVar 3) (tCons (tVar 4) (tNil)))) (tCB (rLenS K) (tCons (tVar 1) (tNil))))))) (tRaise E (.ref A.c_BadLink)) (tNext)))
 (t_Web_init_s1 K A E)
def N_Web_need : List Str := ["self", "stop"]
def t_Web_need (K : PySem.W.Frag) (A : Ad) (E : XK) : TS :=
 tIfS (tOr (tTest (tOp rLtI (tVar 1) (tC (.int 0)))) (tTest (tOp rGeI (tVar 1) (tCB (rLenS K) (tCons (tFld K (tVar 0) "zones") (tNil)))))) (tRaise E (.ref A.c_BadStop)) (tNext)
def N_Web_beside : List Str := ["self", "stop", "found", "one", "other"]
def t_Web_beside (K : PySem.W.Frag) (A : Ad) (E : XK) : TS :=
 tSeq (tAsg (tLst (tNil)) (gName 2))
 (tSeq (tFor (iList K (tFld K (tVar 0) "links")) (gTup K 2 (gCons (gName 3) (gCons (gName 4) (gNil)))) (tSeq (tIfS (tTest (tOp rEq (tVar 3) (tVar 1))) (tDrop (tBM K "list" rAppend (tVar 2) (tCons (tVar 4) (tNil)))) (tNext))
 (tIfS (tTest (tOp rEq (tVar 4) (tVar 1))) (tDrop (tBM K "list" rAppend (tVar 2) (tCons (tVar 3) (tNil)))) (tNext))))
 (tRet (tVar 2)))
@[irreducible] def t_Web_spread_b1_s2 (K : PySem.W.Frag) (A : Ad) (E : XK) : TS :=
 tIfS (tTest (tOp rIsN (tOp (rIxL K) (tVar 1) (tVar 7)) (tC .non))) (tSeq (tAsg (tTup (tCons (tVar 3) (tCons (tOp (rIxT K) (tVar 6) (tC (.int 1))) (tNil)))) (gSub (tVar 1) (tVar 7) rSetL))
 (tFor (iList K (tMeth A.c_Web "beside" (sp_Web_beside K A) [] E0 (tVar 0) (tCons (tVar 7) (tNil)))) (gName 8) (tIfS (tTest (tOp rEq (tOp (rIxL K) (tFld K (tVar 0) "zones") (tVar 8)) (tOp (rIxL K) (tFld K (tVar 0) "zones") (tVar 7)))) (tDrop (tBM K "list" rAppend (tVar 5) (tCons (tTup (tCons (tVar 8) (tCons (tVar 7) (tNil)))) (tNil)))) (tDrop (tBM K "list" rAppend (tVar 4) (tCons (tTup (tCons (tVar 8) (tCons (tVar 7) (tNil)))) (tNil))))))) (tNext)
@[irreducible] def t_Web_spread_b1_s1 (K : PySem.W.Frag) (A : Ad) (E : XK) : TS :=
 tSeq (tAsg (tOp (rIxT K) (tVar 6) (tC (.int 0))) (gName 7))
 (t_Web_spread_b1_s2 K A E)
@[irreducible] def t_Web_spread_b1 (K : PySem.W.Frag) (A : Ad) (E : XK) : TS :=
 tSeq (tAsg (tBM0 K "list" rPop (tVar 5)) (gName 6))
 (t_Web_spread_b1_s1 K A E)
@[irreducible] def t_Web_spread_s3 (K : PySem.W.Frag) (A : Ad) (E : XK) : TS :=
 tRet (tLc (iList K (tVar 4)) (gName 6) (tTest (tOp rIsN (tOp (rIxL K) (tVar 1) (tOp (rIxT K) (tVar 6) (tC (.int 0)))) (tC .non))) (tVar 6) [6])
@[irreducible] def t_Web_spread_s2 (K : PySem.W.Frag) (A : Ad) (E : XK) : TS :=
 tSeq (tWhile (tTru K (tVar 5)) (t_Web_spread_b1 K A E))
 (t_Web_spread_s3 K A E)
@[irreducible] def t_Web_spread_s1 (K : PySem.W.Frag) (A : Ad) (E : XK) : TS :=
 tSeq (tAsg (tCB (rListS K) (tCons (tVar 2) (tNil))) (gName 5))
 (t_Web_spread_s2 K A E)
def N_Web_spread : List Str := ["self", "found", "layer", "count", "further", "waiting", "pair", "stop", "other"]
def t_Web_spread (K : PySem.W.Frag) (A : Ad) (E : XK) : TS :=
 tSeq (tAsg (tLst (tNil)) (gName 4))
 (t_Web_spread_s1 K A E)
@[irreducible] def t_Web_reached_b1_s1 (K : PySem.W.Frag) (A : Ad) (E : XK) : TS :=
 tAsg (tOp rAdd (tVar 4) (tC (.int 1))) (gName 4)
@[irreducible] def t_Web_reached_b1 (K : PySem.W.Frag) (A : Ad) (E : XK) : TS :=
 tSeq (tAsg (tMeth A.c_Web "spread" (sp_Web_spread K A) [] E0 (tVar 0) (tCons (tVar 2) (tCons (tVar 3) (tCons (tVar 4) (tNil))))) (gName 3))
 (t_Web_reached_b1_s1 K A E)
@[irreducible] def t_Web_reached_s5 (K : PySem.W.Frag) (A : Ad) (E : XK) : TS :=
 tRet (tVar 2)
@[irreducible] def t_Web_reached_s4 (K : PySem.W.Frag) (A : Ad) (E : XK) : TS :=
 tSeq (tWhile (tTru K (tVar 3)) (t_Web_reached_b1 K A E))
 (t_Web_reached_s5 K A E)
@[irreducible] def t_Web_reached_s3 (K : PySem.W.Frag) (A : Ad) (E : XK) : TS :=
 tSeq (tAsg (tC (.int 1)) (gName 4))
 (t_Web_reached_s4 K A E)
@[irreducible] def t_Web_reached_s2 (K : PySem.W.Frag) (A : Ad) (E : XK) : TS :=
 tSeq (tAsg (tLst (tCons (tTup (tCons (tVar 1) (tCons (tVar 1) (tNil)))) (tNil))) (gName 3))
 (t_Web_reached_s3 K A E)
@[irreducible] def t_Web_reached_s1 (K : PySem.W.Frag) (A : Ad) (E : XK) : TS :=
 tSeq (tAsg (tLc (iList K (tFld K (tVar 0) "zones")) (gName 5) (tYes) (tC .non) [5]) (gName 2))
 (t_Web_reached_s2 K A E)
def N_Web_reached : List Str := ["self", "start", "found", "layer", "count", "zone"]
def t_Web_reached (K : PySem.W.Frag) (A : Ad) (E : XK) : TS :=
 tSeq (tDrop (tMeth A.c_Web "need" (sp_Web_need K A) [] E (tVar 0) (tCons (tVar 1) (tNil))))
 (t_Web_reached_s1 K A E)
def N_Web_levels : List Str := ["self", "start", "pair"]
def t_Web_levels (K : PySem.W.Frag) (A : Ad) (E : XK) : TS :=
 tRet (tLc (iList K (tMeth A.c_Web "reached" (sp_Web_reached K A) [] E (tVar 0) (tCons (tVar 1) (tNil)))) (gName 2) (tYes) (tIf (tTest (tOp rIsN (tVar 2) (tC .non))) (tC .non) (tOp (rIxT K) (tVar 2) (tC (.int 0)))) [2])
def N_Web_fewest : List Str := ["self", "start", "goal", "count"]
def t_Web_fewest (K : PySem.W.Frag) (A : Ad) (E : XK) : TS :=
 tSeq (tDrop (tMeth A.c_Web "need" (sp_Web_need K A) [] E (tVar 0) (tCons (tVar 2) (tNil))))
 (tSeq (tAsg (tOp (rIxL K) (tMeth A.c_Web "levels" (sp_Web_levels K A) [] E (tVar 0) (tCons (tVar 1) (tNil))) (tVar 2)) (gName 3))
 (tSeq (tIfS (tTest (tOp rIsN (tVar 3) (tC .non))) (tRaise E (.ref A.c_NoWay)) (tNext))
 (tRet (tVar 3))))
@[irreducible] def t_Web_way_s5 (K : PySem.W.Frag) (A : Ad) (E : XK) : TS :=
 tRet (tListRev K (tVar 4))
@[irreducible] def t_Web_way_s4 (K : PySem.W.Frag) (A : Ad) (E : XK) : TS :=
 tSeq (tWhile (tTest (tOp rNe (tOp (rIxL K) (tVar 4) (tUn rNeg (tC (.int 1)))) (tVar 1))) (tDrop (tBM K "list" rAppend (tVar 4) (tCons (tOp (rIxT K) (tOp (rIxL K) (tVar 3) (tOp (rIxL K) (tVar 4) (tUn rNeg (tC (.int 1))))) (tC (.int 1))) (tNil)))))
 (t_Web_way_s5 K A E)
@[irreducible] def t_Web_way_s3 (K : PySem.W.Frag) (A : Ad) (E : XK) : TS :=
 tSeq (tAsg (tLst (tCons (tVar 2) (tNil))) (gName 4))
 (t_Web_way_s4 K A E)
@[irreducible] def t_Web_way_s2 (K : PySem.W.Frag) (A : Ad) (E : XK) : TS :=
 tSeq (tIfS (tTest (tOp rIsN (tOp (rIxL K) (tVar 3) (tVar 2)) (tC .non))) (tRaise E (.ref A.c_NoWay)) (tNext))
 (t_Web_way_s3 K A E)
@[irreducible] def t_Web_way_s1 (K : PySem.W.Frag) (A : Ad) (E : XK) : TS :=
 tSeq (tAsg (tMeth A.c_Web "reached" (sp_Web_reached K A) [] E (tVar 0) (tCons (tVar 1) (tNil))) (gName 3))
 (t_Web_way_s2 K A E)
def N_Web_way : List Str := ["self", "start", "goal", "found", "row"]
def t_Web_way (K : PySem.W.Frag) (A : Ad) (E : XK) : TS :=
 tSeq (tDrop (tMeth A.c_Web "need" (sp_Web_need K A) [] E (tVar 0) (tCons (tVar 2) (tNil))))
 (t_Web_way_s1 K A E)
end FW

/-! Web.spread: its three lists. -/
namespace FW
open PySem PySem.Spec PyProof.Rows L2
theorem dels_upd {H : Hp} {hs : List Addr} {a : Addr} {o : HO} (h : a ∈ hs) : dels (upd H a o) hs = dels H hs := by
  funext b
  by_cases e : b ∈ hs
  · rw [dels_in e, dels_in e]
  · rw [dels_out e, dels_out e, upd_ne (fun z => e (by rw [z]; exact h))]
theorem PairL.last {H : Hp} : ∀ {xs : List V} {ps : List (Nat × Nat)}, PairL H xs ps → xs ≠ [] → ∃ xs' ps' q a b, xs = xs' ++ [V.ref q] ∧ ps = ps' ++ [(a, b)] ∧ PairL H xs' ps' ∧ H q = some (.tup [.int (a : Nat), .int (b : Nat)])
  | _, _, .nil, h => absurd rfl h
  | _, (a, b) :: _, .cons ⟨q, e, h⟩ .nil, _ => ⟨[], [], q, a, b, by rw [e]; rfl, rfl, .nil, h⟩
  | x :: y :: xs, p :: p2 :: ps, .cons e (.cons e2 r), _ => by
    obtain ⟨xs', ps', q, a, b, h1, h2, h3, h4⟩ := PairL.last (Paired.cons e2 r) (by simp)
    exact ⟨x :: xs', p :: ps', q, a, b, by rw [h1]; rfl, by rw [h2]; rfl, .cons e h3, h4⟩
structure SpH (H0 H' : Hp) (f FU WA : Addr) (fsv fxs wxs : List V) (F : Fnd) (frs ws : List (Nat × Nat)) : Prop where
  n1 : f ≠ FU
  n2 : f ≠ WA
  n3 : FU ≠ WA
  same : Same H0 (dels H' [f, FU, WA])
  hf : H' f = some (.lst fsv)
  hu : H' FU = some (.lst fxs)
  hw : H' WA = some (.lst wxs)
  lf : FndL (dels H' [f, FU, WA]) fsv F
  lw : PairL (dels H' [f, FU, WA]) wxs ws
  lu : PairL (dels H' [f, FU, WA]) fxs frs
variable {H0 H' H'' : Hp} {f FU WA : Addr} {fsv fxs wxs : List V} {F : Fnd} {frs ws : List (Nat × Nat)}
theorem SpH.ext (h : SpH H0 H' f FU WA fsv fxs wxs F frs ws) (s : Same H' H'') : SpH H0 H'' f FU WA fsv fxs wxs F frs ws :=
  ⟨h.n1, h.n2, h.n3, h.same.trans (s.dels2 _), s _ _ h.hf, s _ _ h.hu, s _ _ h.hw, h.lf.same (s.dels2 _), h.lw.same (s.dels2 _), h.lu.same (s.dels2 _)⟩
theorem SpH.out (h : SpH H0 H' f FU WA fsv fxs wxs F frs ws) {q : Addr} {vs : List V} (e : H' q = some (.tup vs)) : dels H' [f, FU, WA] q = some (.tup vs) := by
  rw [dels_out]
  · exact e
  · intro m
    simp only [List.mem_cons, List.not_mem_nil, or_false] at m
    rcases m with z | z | z
    · rw [z, h.hf] at e; cases e
    · rw [z, h.hu] at e; cases e
    · rw [z, h.hw] at e; cases e
theorem SpH.putW (h : SpH H0 H' f FU WA fsv fxs wxs F frs ws) {q : Addr} {a b : Nat} (e : H' q = some (.tup [.int (a : Nat), .int (b : Nat)])) : SpH H0 (upd H' WA (.lst (wxs ++ [.ref q]))) f FU WA fsv fxs (wxs ++ [.ref q]) F frs (ws ++ [(a, b)]) := by
  have m : WA ∈ [f, FU, WA] := by simp
  refine ⟨h.n1, h.n2, h.n3, ?_, by rw [upd_ne h.n2]; exact h.hf, by rw [upd_ne h.n3]; exact h.hu, upd_same, ?_, ?_, ?_⟩ <;> rw [dels_upd m]
  · exact h.same
  · exact h.lf
  · exact h.lw.snoc (h.out e)
  · exact h.lu
theorem SpH.putU (h : SpH H0 H' f FU WA fsv fxs wxs F frs ws) {q : Addr} {a b : Nat} (e : H' q = some (.tup [.int (a : Nat), .int (b : Nat)])) : SpH H0 (upd H' FU (.lst (fxs ++ [.ref q]))) f FU WA fsv (fxs ++ [.ref q]) wxs F (frs ++ [(a, b)]) ws := by
  have m : FU ∈ [f, FU, WA] := by simp
  refine ⟨h.n1, h.n2, h.n3, ?_, by rw [upd_ne h.n1]; exact h.hf, upd_same, by rw [upd_ne (fun z => h.n3 z.symm)]; exact h.hw, ?_, ?_, ?_⟩ <;> rw [dels_upd m]
  · exact h.same
  · exact h.lf
  · exact h.lw
  · exact h.lu.snoc (h.out e)
theorem SpH.popW {wxs' : List V} {ws' : List (Nat × Nat)} (h : SpH H0 H' f FU WA fsv fxs wxs F frs ws) (l : PairL (dels H' [f, FU, WA]) wxs' ws') : SpH H0 (upd H' WA (.lst wxs')) f FU WA fsv fxs wxs' F frs ws' := by
  have m : WA ∈ [f, FU, WA] := by simp
  refine ⟨h.n1, h.n2, h.n3, ?_, by rw [upd_ne h.n2]; exact h.hf, by rw [upd_ne h.n3]; exact h.hu, upd_same, ?_, ?_, ?_⟩ <;> rw [dels_upd m]
  · exact h.same
  · exact h.lf
  · exact l
  · exact h.lu
theorem SpH.setF (h : SpH H0 H' f FU WA fsv fxs wxs F frs ws) {q : Addr} {c : Int} {u i : Nat} (e : H' q = some (.tup [.int c, .int (u : Nat)])) : SpH H0 (upd H' f (.lst (fsv.set i (.ref q)))) f FU WA (fsv.set i (.ref q)) fxs wxs (F.set i (some (c, u))) frs ws := by
  have m : f ∈ [f, FU, WA] := by simp
  refine ⟨h.n1, h.n2, h.n3, ?_, upd_same, by rw [upd_ne (fun z => h.n1 z.symm)]; exact h.hu, by rw [upd_ne (fun z => h.n2 z.symm)]; exact h.hw, ?_, ?_, ?_⟩ <;> rw [dels_upd m]
  · exact h.same
  · exact FndL.set (h.out e) h.lf
  · exact h.lw
  · exact h.lu
theorem big {n : Nat} (h : n ≤ 1000000) : n ≤ sizeLine := Nat.le_trans h (by decide)
theorem big_lt {n : Nat} (h : n < 1000000) : n < sizeLine := Nat.lt_of_lt_of_le h (by decide)
/-- the pairs whose stop has no level yet -/
def stillV (H : Hp) (fsv : List V) : V → Option V
  | .ref q => match H q with
    | some (.tup [.int a, _]) => if atI fsv a = some .non then some (.ref q) else none
    | _ => none
  | _ => none
theorem still_pairs {H : Hp} {fsv : List V} {F : Fnd} (lf : FndL H fsv F) : ∀ {xs : List V} {ps : List (Nat × Nat)}, PairL H xs ps → (∀ p ∈ ps, p.1 < F.length) → PairL H (xs.filterMap (stillV H fsv)) (ps.filter fun p => (fd F p.1).isNone)
  | _, _, .nil, _ => .nil
  | _, (a, b) :: ps, .cons ⟨q, e, h⟩ r, hp => by
    have ih := still_pairs lf r fun p m => hp p (List.mem_cons_of_mem _ m)
    have ha : a < F.length := hp (a, b) List.mem_cons_self
    subst e
    rcases lf.get ha with ⟨h1, h2⟩ | ⟨c, u, q2, h1, h2, h3⟩
    · have e1 : stillV H fsv (.ref q) = some (.ref q) := by
        show (match H q with | some (.tup [.int a, _]) => if atI fsv a = some V.non then some (V.ref q) else none | _ => none) = _
        rw [h]
        exact if_pos (atI_nat h1)
      rw [List.filterMap_cons, e1, List.filter_cons_of_pos (by show (fd F a).isNone = true; rw [h2]; rfl)]
      exact .cons ⟨q, rfl, h⟩ ih
    · have e1 : stillV H fsv (.ref q) = none := by
        show (match H q with | some (.tup [.int a, _]) => if atI fsv a = some V.non then some (V.ref q) else none | _ => none) = _
        rw [h]
        exact if_neg (by rw [atI_nat h1]; intro z; cases z)
      rw [List.filterMap_cons, e1, List.filter_cons_of_neg (by show ¬ (fd F a).isNone = true; rw [h2]; simp)]
      exact ih
end FW

/-! Web: the readings. -/
namespace FW
open PySem PySem.Spec PyProof.Rows L2
section
variable {K : PySem.W.Frag} {A : Ad} {vs : List V} {H : Hp} {Q : VK} {E : XK}
theorem rd_Web_need (O : OkW K A) (h : sp_Web_need K A vs H Q E) : t_Web_need K A E { nx := fun _ H' => Q .non H', rt := Q } (start N_Web_need vs) H := by
  obtain ⟨p, zones, links, z, rfl, ⟨a, b, w⟩, k1, k2⟩ := h
  obtain ⟨dx, ob⟩ := w.ob
  have cl := O.cl
  have nZ := O.nZ
  have e1 := webF_z a b
  have hz := w.hz
  have hn := w.ok.hn
  unfold t_Web_need
  walk_at "rd"
  refine ite_d (fun c => ?_) (fun c => ?_)
  · walk_at "rd"
    exact k2 (by omega)
  · walk_at "rd"
    rw [List.length_map]
    refine ite_d (fun c2 => ?_) (fun c2 => ?_)
    · exact k2 (by omega)
    · exact k1 (by omega)
theorem nbr_take {links : List (Nat × Nat)} {s i : Nat} {p : Nat × Nat} (h : links[i]? = some p) : nbr (links.take (i + 1)) s = nbr (links.take i) s ++ nbr1 s p := by
  unfold nbr
  rw [List.take_add_one, h, List.flatMap_append]
  simp
theorem rd_Web_beside (O : OkW K A) (h : sp_Web_beside K A vs H Q E) : t_Web_beside K A E { nx := fun _ H' => Q .non H', rt := Q } (start N_Web_beside vs) H := by
  obtain ⟨p, zones, links, s, rfl, ⟨a, b, w⟩, k⟩ := h
  obtain ⟨dx, ob⟩ := w.ob
  obtain ⟨xs, hl, pl⟩ := w.hl
  have cl := O.cl
  have nL := O.nL
  have e1 := webF_l a b
  have hL := w.ok.hL
  unfold t_Web_beside
  walk_at "rd"
  intro R hR
  have s1 : Same H (upd H R (.lst [])) := Same.new hR
  walk_at "rd"
  refine for_list (K := K) (a := b) (xs := xs) (fun i σ H' => Hold (∃ o3 o4 : Option V, σ = [some (.ref p), some (.int (s : Nat)), some (.ref R), o3, o4] ∧ Same H (del H' R) ∧ H' R = some (.lst ((nbr (links.take i) s).map fun o => V.int (o : Nat))))) ⟨none, none, rfl, by rw [del_new hR]; exact Same.refl _, upd_same⟩ ?_ ?_ ?_
  · rintro i σ H' _ ⟨o3, o4, rfl, s, r⟩
    exact SqL.of (del_sub _ _ _ _ (s _ _ hl))
  · rintro i x σ H' hx ⟨o3, o4, rfl, s2, r⟩
    obtain ⟨u, v, q, hi, rfl, hq⟩ := (pl.same (s2.trans (del_sub _ _))).get hx
    have hil : i < links.length := (List.getElem?_eq_some_iff.mp hi).1
    have hln : (nbr (links.take i) s).length ≤ 600 := by
      have := nbr_len (links.take i) s
      rw [List.length_take] at this
      omega
    rw [nbr_take hi]
    unfold nbr1
    walk_at "rd"
    refine ite_d (fun c => ?_) (fun c => ?_)
    · have c' : u = s := by have := V.int.inj c; omega
      walk_at "rd"
      refine ite_d (fun c2 => ?_) (fun c2 => ?_)
      · have c2' : v = s := by have := V.int.inj c2; omega
        walk_at "rd"
        refine ⟨_, _, rfl, ?_, ?_⟩
        · rw [del_upd, del_upd]; exact s2
        · rw [upd_same, if_pos c', if_pos c2']
          simp
      · have c2' : ¬ v = s := fun z => c2 (by rw [z])
        walk_at "rd"
        refine ⟨_, _, rfl, ?_, ?_⟩
        · rw [del_upd]; exact s2
        · rw [upd_same, if_pos c', if_neg c2']
          simp
    · have c' : ¬ u = s := fun z => c (by rw [z])
      walk_at "rd"
      refine ite_d (fun c2 => ?_) (fun c2 => ?_)
      · have c2' : v = s := by have := V.int.inj c2; omega
        walk_at "rd"
        refine ⟨_, _, rfl, ?_, ?_⟩
        · rw [del_upd]; exact s2
        · rw [upd_same, if_neg c', if_pos c2']
          simp
      · have c2' : ¬ v = s := fun z => c2 (by rw [z])
        refine ⟨_, _, rfl, s2, ?_⟩
        rw [r, if_neg c', if_neg c2']
        simp
  · rintro σ H' ⟨o3, o4, rfl, s2, r⟩
    refine ⟨_, rfl, k R H' (s2.trans (del_sub _ _)) hR ?_⟩
    rw [r, pl.len, List.take_length]
end
end FW

/-! Web.spread: the reading. -/
namespace FW
open PySem PySem.Spec PyProof.Rows L2
section
variable {K : PySem.W.Frag} {A : Ad} {vs : List V} {H : Hp} {Q : VK} {E : XK}
theorem flt_take {l : List Nat} {i o s : Nat} (g : Nat → Bool) (h : l[i]? = some o) : ((l.take (i + 1)).filter g).map (fun o => (o, s)) = ((l.take i).filter g).map (fun o => (o, s)) ++ (if g o = true then [(o, s)] else []) := by
  rw [List.take_add_one, h, List.filter_append, List.map_append]
  congr 1
  by_cases c : g o = true
  · rw [if_pos c, Option.toList_some, List.filter_cons_of_pos c]
    rfl
  · rw [if_neg c, Option.toList_some, List.filter_cons_of_neg c]
    rfl
theorem rd_spread_b1_s2 (O : OkW K A) {p f l FU WA q : Addr} {k : Int} {zones : List Int} {links : List (Nat × Nat)} {start s fr : Nat} {fsv fxs wxs : List V} {F : Fnd} {frs ws : List (Nat × Nat)} {H0 H' : Hp} {o8 : Option V} {Dn : Ends} {rk : Nat → Nat} {T : Nat}
    (w : Web A H0 p zones links) (h : SpH H0 H' f FU WA fsv fxs wxs F frs ws) (hq : H' q = some (.tup [.int (s : Nat), .int (fr : Nat)])) (S : Sprd zones links start k F (ws ++ [(s, fr)]) frs rk T) (hb : ws.length + free F * 600 ≤ 84000) (hb2 : frs.length + free F * 600 ≤ 42000)
    (k1 : ∀ (fsv' fxs' wxs' : List V) (F' : Fnd) (frs' ws' : List (Nat × Nat)) (H'' : Hp) (o8' : Option V) (rk' : Nat → Nat) (T' : Nat), SpH H0 H'' f FU WA fsv' fxs' wxs' F' frs' ws' → Sprd zones links start k F' ws' frs' rk' T' → ws'.length + free F' * 600 ≤ 84000 → frs'.length + free F' * 600 ≤ 42000 →
      ((F' = F ∧ ws' = ws ∧ fd F s ≠ none) ∨ (free F' < free F ∧ ws'.length + free F' * 600 ≤ ws.length + free F * 600)) → Dn.nx [some (.ref p), some (.ref f), some (.ref l), some (.int k), some (.ref FU), some (.ref WA), some (.ref q), some (.int (s : Nat)), o8'] H'') :
    t_Web_spread_b1_s2 K A E Dn [some (.ref p), some (.ref f), some (.ref l), some (.int k), some (.ref FU), some (.ref WA), some (.ref q), some (.int (s : Nat)), o8] H' := by
  unfold t_Web_spread_b1_s2
  obtain ⟨a, b, wa⟩ := id w
  have W := wa.ok
  have hn := W.hn
  have hL := W.hL
  have hs : s < zones.length := (S.wa_ (s, fr) (List.mem_append_right _ (List.mem_singleton.mpr rfl))).1
  have hsF : s < F.length := by rw [S.len]; exact hs
  have hf := h.hf
  have w' : Web A H' p zones links := w.same (h.same.trans (dels_sub _ _))
  have cl := O.cl
  rcases h.lf.get hsF with ⟨h1, h2⟩ | ⟨c, u, q2, h1, h2, h3⟩
  · have e1 : atI fsv (s : Int) = some .non := atI_nat h1
    have fl : fsv.length = F.length := h.lf.len
    have ix : ixN fsv.length (s : Int) = some s := by
      unfold ixN
      rw [if_pos (by omega), if_pos (by omega)]
      simp
    walk_at "rd"
    intro r hr
    have s1 : Same H' (upd H' r (.tup [.int k, .int (fr : Nat)])) := Same.new hr
    have hh := h.ext s1
    have hr1 : upd H' r (.tup [.int k, .int (fr : Nat)]) r = some (.tup [.int k, .int (fr : Nat)]) := upd_same
    generalize upd H' r (.tup [.int k, .int (fr : Nat)]) = H1 at *
    have hf1 := hh.hf
    have h2' := hh.setF (i := s) hr1
    have S2 := S.take W h2
    have fs1 : free (F.set s (some (k, fr))) + 1 = free F := free_set (by
      unfold fd at h2
      rw [List.getD_eq_getElem?_getD, List.getElem?_eq_getElem hsF] at h2
      rw [List.getElem?_eq_getElem hsF]
      exact congrArg some h2)
    generalize F.set s (some (k, fr)) = F2 at *
    have hf2 := h2'.hf
    have w2 : Web A (upd H1 f (.lst (fsv.set s (.ref r)))) p zones links := w.same (h2'.same.trans (dels_sub _ _))
    obtain ⟨a2, b2, wa2⟩ := id w2
    obtain ⟨dx, ob⟩ := wa2.ob
    have nl := nbr_len links s
    have no1 : (webF a2 b2).lookup ("beside" : Str) = none := webF_no a2 b2 (by decide +kernel) (by decide +kernel)
    walk_at "rd"
    intro L2 H3 s3 hL2 e3
    have h3' := h2'.ext s3
    have nL2W : L2 ≠ WA := fun z => by rw [z, h2'.hw] at hL2; cases hL2
    have nL2U : L2 ≠ FU := fun z => by rw [z, h2'.hu] at hL2; cases hL2
    walk_at "rd"
    refine for_list (K := K) (a := L2) (xs := (nbr links s).map fun o => V.int (o : Nat)) (fun i σ H'' => Hold (∃ (o8 : Option V) (fxs wxs : List V), σ = [some (.ref p), some (.ref f), some (.ref l), some (.int k), some (.ref FU), some (.ref WA), some (.ref q), some (.int (s : Nat)), o8] ∧
      SpH H0 H'' f FU WA (fsv.set s (.ref r)) fxs wxs F2 (frs ++ (((nbr links s).take i).filter fun o => !decide (zn zones o = zn zones s)).map (fun o => (o, s))) (ws ++ (((nbr links s).take i).filter fun o => decide (zn zones o = zn zones s)).map (fun o => (o, s))) ∧ H'' L2 = some (.lst ((nbr links s).map fun o => V.int (o : Nat))))) ⟨o8, fxs, wxs, rfl, by simpa using h3', e3⟩ ?_ ?_ ?_
    · rintro i σ H'' _ ⟨o8, fxs, wxs, rfl, hi, e⟩
      exact SqL.of e
    · rintro i x σ H'' hx ⟨o8, fxs, wxs, rfl, hi, e⟩
      rw [List.getElem?_map] at hx
      obtain ⟨o, ho, rfl⟩ := Option.map_eq_some_iff.mp hx
      have lo := mem_nbr.mp (List.mem_of_getElem? ho)
      have ho1 := (W.lk lo).2.1
      have w3 : Web A H'' p zones links := w.same (hi.same.trans (dels_sub _ _))
      obtain ⟨a3, b3, wa3⟩ := id w3
      obtain ⟨dx3, ob3⟩ := wa3.ob
      have ez := webF_z a3 b3
      have hz3 := wa3.hz
      have nZ := O.nZ
      have i1 : atI (zones.map V.int) (o : Int) = some (.int (zn zones o)) := atI_map (by omega) (by omega)
      have i2 : atI (zones.map V.int) (s : Int) = some (.int (zn zones s)) := atI_map (by omega) (by omega)
      have hw3 := hi.hw
      have hu3 := hi.hu
      have t1 : ((nbr links s).take i).length ≤ 600 := by rw [List.length_take]; omega
      have lnW : wxs.length < sizeLine := big_lt (by
        rw [hi.lw.len, List.length_append, List.length_map]
        have := List.length_filter_le (fun o => decide (zn zones o = zn zones s)) ((nbr links s).take i)
        omega)
      have lnU : fxs.length < sizeLine := big_lt (by
        rw [hi.lu.len, List.length_append, List.length_map]
        have := List.length_filter_le (fun o => !decide (zn zones o = zn zones s)) ((nbr links s).take i)
        omega)
      walk_at "rd"
      refine ite_d (fun c => ?_) (fun c => ?_)
      · have c := V.int.inj c
        walk_at "rd"
        intro t ht
        have s4 : Same H'' (upd H'' t (.tup [.int (o : Nat), .int (s : Nat)])) := Same.new ht
        have e4 := s4 _ _ e
        have hi4 := (hi.ext s4).putW (q := t) (a := o) (b := s) upd_same
        have hw4 := s4 _ _ hw3
        walk_at "rd"
        refine ⟨_, fxs, wxs ++ [.ref t], rfl, ?_, by rw [upd_ne nL2W]; exact e4⟩
        rw [flt_take _ ho, flt_take _ ho, decide_eq_true c]
        show SpH H0 _ f FU WA (fsv.set s (.ref r)) fxs (wxs ++ [.ref t]) F2 (frs ++ (_ ++ [])) (ws ++ (_ ++ [(o, s)]))
        rw [List.append_nil, ← List.append_assoc]
        exact hi4
      · have c : ¬ zn zones o = zn zones s := fun z => c (by rw [z])
        walk_at "rd"
        intro t ht
        have s4 : Same H'' (upd H'' t (.tup [.int (o : Nat), .int (s : Nat)])) := Same.new ht
        have e4 := s4 _ _ e
        have hi4 := (hi.ext s4).putU (q := t) (a := o) (b := s) upd_same
        have hu4 := s4 _ _ hu3
        walk_at "rd"
        refine ⟨_, fxs ++ [.ref t], wxs, rfl, ?_, by rw [upd_ne nL2U]; exact e4⟩
        rw [flt_take _ ho, flt_take _ ho, decide_eq_false c]
        show SpH H0 _ f FU WA (fsv.set s (.ref r)) (fxs ++ [.ref t]) wxs F2 (frs ++ (_ ++ [(o, s)])) (ws ++ (_ ++ []))
        rw [List.append_nil, ← List.append_assoc]
        exact hi4
    · rintro σ H'' ⟨o8, fxs, wxs, rfl, hi, e⟩
      rw [List.length_map, List.take_length] at hi
      have l1 := List.length_filter_le (fun o => decide (zn zones o = zn zones s)) (nbr links s)
      have l2 := List.length_filter_le (fun o => !decide (zn zones o = zn zones s)) (nbr links s)
      refine k1 _ _ _ _ _ _ _ _ _ _ hi S2 ?_ ?_ (.inr ⟨by omega, ?_⟩) <;> rw [List.length_append, List.length_map] <;> omega
  · have e1 : atI fsv (s : Int) = some (.ref q2) := atI_nat h1
    walk_at "rd"
    exact k1 _ _ _ _ _ _ _ _ _ _ h (S.skip (by rw [h2]; intro z; cases z)) hb hb2 (.inl ⟨rfl, rfl, by rw [h2]; intro z; cases z⟩)
end
end FW

/-! Web.spread, Web.reached, Web.levels: the readings. -/
namespace FW
open PySem PySem.Spec PyProof.Rows L2
section
variable {K : PySem.W.Frag} {A : Ad} {vs : List V} {H : Hp} {Q : VK} {E : XK}
theorem rd_spread_s3 {p f l FU WA : Addr} {k : Int} {zones : List Int} {links : List (Nat × Nat)} {start : Nat} {fsv fxs wxs : List V} {F : Fnd} {frs : List (Nat × Nat)} {H0 H' : Hp} {o6 o7 o8 : Option V} {Dn : Ends} {rk : Nat → Nat} {T : Nat}
    (h : SpH H0 H' f FU WA fsv fxs wxs F frs []) (S : Sprd zones links start k F [] frs rk T) (hb2 : frs.length ≤ 42000)
    (q : ∀ (l' : Addr) (xs' : List V) (H'' : Hp), Same H' H'' → H' l' = none → H'' l' = some (.lst xs') → PairL (dels H'' [f, FU, WA]) xs' (frs.filter fun p => (fd F p.1).isNone) → Dn.rt (.ref l') H'') :
    t_Web_spread_s3 K A E Dn [some (.ref p), some (.ref f), some (.ref l), some (.int k), some (.ref FU), some (.ref WA), o6, o7, o8] H' := by
  unfold t_Web_spread_s3
  have hu := h.hu
  have hf := h.hf
  walk_at "rd"
  intro D hD
  have hfr : ∀ p ∈ frs, p.1 < F.length := fun p m => by rw [S.len]; exact (S.fr_ p m).1
  refine lc_listF (a := FU) (xs := fxs) hD (SqL.of hu) (by rw [h.lu.len]; omega) (stillV (dels H' [f, FU, WA]) fsv) ?_ ?_
  · intro i x H2 hx s2 G N hG hN
    obtain ⟨a, b, q, hi, rfl, hq⟩ := h.lu.get hx
    have hq2 := s2 _ _ (dels_sub _ _ _ _ hq)
    have hf2 := s2 _ _ hf
    have ha : a < F.length := hfr (a, b) (List.mem_of_getElem? hi)
    rcases h.lf.get ha with ⟨h1, h2⟩ | ⟨c, u, q2, h1, h2, h3⟩
    · have e1 : atI fsv (a : Int) = some .non := atI_nat h1
      have e2 : stillV (dels H' [f, FU, WA]) fsv (.ref q) = some (.ref q) := by
        show (match dels H' [f, FU, WA] q with | some (.tup [.int a, _]) => if atI fsv a = some V.non then some (V.ref q) else none | _ => none) = _
        rw [hq]
        exact if_pos e1
      walk_at "rd"
      exact hG _ _ e2 (Same.refl _)
    · have e1 : atI fsv (a : Int) = some (.ref q2) := atI_nat h1
      have e2 : stillV (dels H' [f, FU, WA]) fsv (.ref q) = none := by
        show (match dels H' [f, FU, WA] q with | some (.tup [.int a, _]) => if atI fsv a = some V.non then some (V.ref q) else none | _ => none) = _
        rw [hq]
        exact if_neg (by rw [e1]; intro z; cases z)
      walk_at "rd"
      exact hN _ e2 (Same.refl _)
  · intro H2 s2 e2
    have s3 : Same H' H2 := s2.trans (del_sub _ _)
    exact q D _ H2 s3 hD e2 ((still_pairs h.lf h.lu hfr).same (s3.dels2 _))
theorem rd_Web_spread (O : OkW K A) (h : sp_Web_spread K A vs H Q E) : t_Web_spread K A E { nx := fun _ H' => Q .non H', rt := Q } (start N_Web_spread vs) H := by
  obtain ⟨p, f, l, k, zones, links, start, fs, xs, F0, ps, rk, T, rfl, w, hf, lf, hl, lp, S, hps, q⟩ := h
  have W : WebOk zones links := let ⟨_, _, w⟩ := w; w.ok
  have hn := W.hn
  have hfl : free F0 ≤ 70 := by have := free_le F0; rw [S.len] at this; omega
  have hl' := (del_sub H f).seq hl
  have hxl : xs.length ≤ 42000 := by rw [lp.len]; exact hps
  unfold t_Web_spread t_Web_spread_s1
  walk_at "rd"
  intro FU hFU
  have nfu : f ≠ FU := ne_of_none hf hFU
  have s1 : Same H (upd H FU (.lst [])) := Same.new hFU
  have hl1 := s1.seq hl'
  have hf1 := s1 _ _ hf
  have hu1 : upd H FU (.lst []) FU = some (.lst []) := upd_same
  generalize upd H FU (.lst []) = H1 at *
  walk_at "rd"
  intro WA hWA
  have nfw : f ≠ WA := ne_of_none hf1 hWA
  have nuw : FU ≠ WA := ne_of_none hu1 hWA
  have s2 : Same H1 (upd H1 WA (.lst xs)) := Same.new hWA
  have sB : Same (del H f) (dels (upd H1 WA (.lst xs)) [f, FU, WA]) := by
    intro b o e
    obtain ⟨e1, n⟩ := del_get e
    rw [dels_out]
    · exact s2 _ _ (s1 _ _ e1)
    · intro m
      simp only [List.mem_cons, List.not_mem_nil, or_false] at m
      rcases m with z | z | z
      · exact n z
      · rw [z, hFU] at e1; cases e1
      · have := s1 _ _ e1
        rw [z, hWA] at this; cases this
  have SP : SpH (del H f) (upd H1 WA (.lst xs)) f FU WA fs [] xs F0 [] ps := ⟨nfu, nfw, nuw, sB, s2 _ _ hf1, s2 _ _ hu1, upd_same, lf.same sB, lp.same sB, .nil⟩
  have fu0 : del H f FU = none := by rw [del_ne (ne_sym nfu)]; exact hFU
  have wa0 : del H f WA = none := by rw [del_ne (ne_sym nfw)]; exact s1.free hWA
  generalize upd H1 WA (.lst xs) = H2 at *
  have f0 : del H f f = none := del_at
  have free_of : ∀ {H'' : Hp} {D : Addr}, Same (del H f) H'' → H'' D = none → D ≠ f → H D = none := fun s e n => by have := s.free e; rw [del_ne n] at this; exact this
  show t_Web_spread_s2 K A E _ [some (.ref p), some (.ref f), some (.ref l), some (.int k), some (.ref FU), some (.ref WA), none, none, none] H2
  unfold t_Web_spread_s2
  refine ⟨fun m σ H' => ∃ (o6 o7 o8 : Option V) (fsv fxs wxs : List V) (F : Fnd) (frs ws : List (Nat × Nat)) (rk : Nat → Nat) (T : Nat), m = free F * 601 + ws.length ∧ σ = [some (.ref p), some (.ref f), some (.ref l), some (.int k), some (.ref FU), some (.ref WA), o6, o7, o8] ∧
    SpH (del H f) H' f FU WA fsv fxs wxs F frs ws ∧ Sprd zones links start k F ws frs rk T ∧ ws.length + free F * 600 ≤ 84000 ∧ frs.length + free F * 600 ≤ 42000 ∧ (free F < free F0 ∨ (F = F0 ∧ ∀ q ∈ ps, q ∈ ws ∨ fd F0 q.1 ≠ none)),
    ⟨_, none, none, none, fs, [], xs, F0, [], ps, rk, T, rfl, rfl, SP, S, by omega, by simp; omega, .inr ⟨rfl, fun q m => .inl m⟩⟩, ?_⟩
  rintro m σ H' ⟨o6, o7, o8, fsv, fxs, wxs, F, frs, ws, rk, T, rfl, rfl, SP, S, b1, b2, dd⟩
  have hw := SP.hw
  refine ⟨_, rfl, _, .inl ⟨wxs, SqL.of hw, rfl⟩, ite_b (fun c => ?_) (fun c => ?_)⟩
  · obtain ⟨wxs', ws', q1, s, fr, e1, e2, lw', hq1⟩ := SP.lw.last (fun z => by rw [z] at c; cases c)
    subst e1 e2
    refine ⟨fun σ' H'' => ∃ m', m' < free F * 601 + (ws' ++ [(s, fr)]).length ∧ ∃ (o6 o7 o8 : Option V) (fsv fxs wxs : List V) (F : Fnd) (frs ws : List (Nat × Nat)) (rk : Nat → Nat) (T : Nat), m' = free F * 601 + ws.length ∧ σ' = [some (.ref p), some (.ref f), some (.ref l), some (.int k), some (.ref FU), some (.ref WA), o6, o7, o8] ∧
      SpH (del H f) H'' f FU WA fsv fxs wxs F frs ws ∧ Sprd zones links start k F ws frs rk T ∧ ws.length + free F * 600 ≤ 84000 ∧ frs.length + free F * 600 ≤ 42000 ∧ (free F < free F0 ∨ (F = F0 ∧ ∀ q ∈ ps, q ∈ ws ∨ fd F0 q.1 ≠ none)), fun σ' H'' h => h, ?_⟩
    have lastW : (wxs' ++ [V.ref q1])[(wxs' ++ [V.ref q1]).length - 1]? = some (.ref q1) := by simp
    have SP2 := SP.popW (wxs' := (wxs' ++ [V.ref q1]).dropLast) (ws' := ws') (by rw [List.dropLast_concat]; exact lw')
    have hq2 : upd H' WA (.lst (wxs' ++ [V.ref q1]).dropLast) q1 = some (.tup [.int (s : Nat), .int (fr : Nat)]) := by
      have h9 := dels_sub _ _ _ _ hq1
      rw [upd_ne (ne_of h9 hw (by intro z; cases z))]
      exact h9
    unfold t_Web_spread_b1 t_Web_spread_b1_s1
    walk_at "rd"
    rw [List.length_append, List.length_singleton] at b1
    show t_Web_spread_b1_s2 K A E _ [some (.ref p), some (.ref f), some (.ref l), some (.int k), some (.ref FU), some (.ref WA), some (.ref q1), some (.int (s : Nat)), o8] _
    refine rd_spread_b1_s2 O w SP2 hq2 S (by omega) b2 fun fsv' fxs' wxs' F' frs' ws'' H'' o8' rk' T' SP3 S3 c1 c2 d3 => ⟨_, ?_, _, _, _, _, _, _, _, _, _, _, _, rfl, rfl, SP3, S3, c1, c2, ?_⟩
    · rw [List.length_append, List.length_singleton]
      rcases d3 with ⟨e1, e2, _⟩ | ⟨e1, e2⟩
      · rw [e1, e2]; omega
      · omega
    · rcases d3 with ⟨e1, e2, e3⟩ | ⟨e1, e2⟩
      · rcases dd with g | ⟨g1, g2⟩
        · exact .inl (by rw [e1]; exact g)
        · refine .inr ⟨by rw [e1]; exact g1, fun q hq => ?_⟩
          rcases g2 q hq with m | m
          · rcases List.mem_append.mp m with m | m
            · exact .inl (by rw [e2]; exact m)
            · have := List.mem_singleton.mp m
              rw [this]
              exact .inr (by rw [← g1]; exact e3)
          · exact .inr m
      · rcases dd with g | ⟨g1, g2⟩
        · exact .inl (by omega)
        · exact .inl (by rw [← g1]; exact e1)
  · have ew : wxs = [] := by
      cases wxs with
      | nil => rfl
      | cons => cases c
    subst ew
    have ews : ws = [] := by
      have := SP.lw.len
      exact List.length_eq_zero_iff.mp this.symm
    subst ews
    refine rd_spread_s3 SP S (by omega) fun l' xs' H'' s3 h1 h2 h3 => ?_
    have SP4 := SP.ext s3
    have sD : Same (dels H'' [f, FU, WA]) (del H'' f) := by
      intro b o e
      obtain ⟨e1, n⟩ := dels_get e
      rw [del_ne (fun z => n (by rw [z]; simp))]
      exact e1
    have nl : l' ≠ f := fun z => by rw [z, SP.hf] at h1; cases h1
    refine q l' fsv xs' F _ rk T H'' (SP4.same.trans sD) SP4.hf (SP4.lf.same sD) ?_ h2 (h3.same sD) S.next ?_ ?_ ?_
    · exact free_of (SP.same.trans (dels_sub _ _)) h1 nl
    · have := List.length_filter_le (fun p : Nat × Nat => (fd F p.1).isNone) frs
      omega
    · intro q hq
      have := (List.mem_filter.mp hq).2
      exact Option.isNone_iff_eq_none.mp this
    · rintro ⟨q, hq, hq0⟩
      rcases dd with g | ⟨g1, g2⟩
      · exact g
      · rcases g2 q hq with m | m
        · cases m
        · exact absurd hq0 m
end
end FW

/-! Web.reached, Web.levels, Web.__init__: the readings. -/
namespace FW
open PySem PySem.Spec PyProof.Rows L2
section
variable {K : PySem.W.Frag} {A : Ad} {vs : List V} {H : Hp} {Q : VK} {E : XK}
theorem fnd_none {H : Hp} : ∀ n, FndL H (List.replicate n V.non) (List.replicate n none)
  | 0 => .nil
  | n + 1 => .cons rfl (fnd_none n)
theorem rd_reached_s4 (O : OkW K A) {p FD la : Addr} {z : Int} {zones : List Int} {links : List (Nat × Nat)} {H H' : Hp} {Dn : Ends} {xs : List V} (w : Web A H p zones links) (hz : InR zones z) (s : Same H (del H' FD)) (hF : H' FD = some (.lst (List.replicate zones.length .non)))
    (hl : H' la = some (.lst xs)) (hp : PairL (del H' FD) xs [(z.toNat, z.toNat)]) (q : ∀ (fs : List V) (F : Fnd) (H'' : Hp), Same H (del H'' FD) → H'' FD = some (.lst fs) → FndL (del H'' FD) fs F → Rch zones links z.toNat F → Dn.rt (.ref FD) H'') (nl : la ≠ FD) :
    t_Web_reached_s4 K A E Dn [some (.ref p), some (.int z), some (.ref FD), some (.ref la), some (.int 1), none] H' := by
  unfold t_Web_reached_s4
  have hzl : z.toNat < zones.length := by have := hz.1; have := hz.2; omega
  refine ⟨fun m σ H' => ∃ (la : Addr) (k : Int) (fs xs : List V) (F : Fnd) (ps : List (Nat × Nat)) (rk : Nat → Nat) (T : Nat), m = free F ∧ σ = [some (.ref p), some (.int z), some (.ref FD), some (.ref la), some (.int k), none] ∧ Same H (del H' FD) ∧ H' FD = some (.lst fs) ∧ FndL (del H' FD) fs F ∧ la ≠ FD ∧ H' la = some (.lst xs) ∧
      PairL (del H' FD) xs ps ∧ Sprd zones links z.toNat k F ps [] rk T ∧ ps.length ≤ 42000 ∧ ∀ q ∈ ps, fd F q.1 = none,
    ⟨_, la, 1, _, xs, _, [(z.toNat, z.toNat)], _, _, rfl, rfl, s, hF, fnd_none _, nl, hl, hp, Sprd.start hzl, by simp, ?_⟩, ?_⟩
  · intro q hq
    unfold fd
    rw [List.getD_eq_getElem?_getD, List.getElem?_replicate]
    split <;> rfl
  · rintro m σ H' ⟨la, k, fs, xs, F, ps, rk, T, rfl, rfl, s, hF, lf, nl, hl, lp, S, hps, hn⟩
    refine ⟨_, rfl, _, .inl ⟨xs, SqL.of hl, rfl⟩, ite_b (fun c => ?_) (fun c => ?_)⟩
    · have pne : ∃ q ∈ ps, fd F q.1 = none := by
        cases ps with
        | nil =>
          have := lp.len
          rw [List.length_eq_zero_iff.mp this] at c
          cases c
        | cons q r => exact ⟨q, List.mem_cons_self, hn q List.mem_cons_self⟩
      refine ⟨fun σ' H'' => Hold (∃ m', m' < free F ∧ ∃ (la : Addr) (k : Int) (fs xs : List V) (F : Fnd) (ps : List (Nat × Nat)) (rk : Nat → Nat) (T : Nat), m' = free F ∧ σ' = [some (.ref p), some (.int z), some (.ref FD), some (.ref la), some (.int k), none] ∧ Same H (del H'' FD) ∧ H'' FD = some (.lst fs) ∧ FndL (del H'' FD) fs F ∧ la ≠ FD ∧ H'' la = some (.lst xs) ∧
        PairL (del H'' FD) xs ps ∧ Sprd zones links z.toNat k F ps [] rk T ∧ ps.length ≤ 42000 ∧ ∀ q ∈ ps, fd F q.1 = none), fun σ' H'' h => h.h, ?_⟩
      have wd := w.same s
      obtain ⟨a, b, wa⟩ := w.same (s.trans (del_sub _ _))
      obtain ⟨dx, ob⟩ := wa.ob
      have cl := O.cl
      have no1 : (webF a b).lookup ("spread" : Str) = none := webF_no a b (by decide +kernel) (by decide +kernel)
      have hl2 : SqL K (del H' FD) la xs := SqL.of (by rw [del_ne nl]; exact hl)
      unfold t_Web_reached_b1
      refine ⟨_, rfl, _, _, _, rfl, ob, no1, _, rfl, _, rfl, _, rfl, p, FD, la, k, zones, links, z.toNat, fs, xs, F, ps, rk, T, rfl, wd, hF, lf, hl2, lp, S, hps, ?_⟩
      intro l' fs' xs' F' ps' rk' T' H'' s2 hF2 lf2 hl0 hl3 lp2 S2 hps2 hn2 hd
      have nl2 : l' ≠ FD := fun e => by rw [e, hF] at hl0; cases hl0
      show t_Web_reached_b1_s1 K A E _ [some (.ref p), some (.int z), some (.ref FD), some (.ref l'), some (.int k), none] H''
      unfold t_Web_reached_b1_s1
      walk_at "rd"
      exact .mk ⟨_, hd pne, _, _, _, _, _, _, _, _, rfl, rfl, s.trans s2, hF2, lf2, nl2, hl3, lp2, S2, hps2, hn2⟩
    · have ex : ps = [] := by
        cases xs with
        | nil => exact List.length_eq_zero_iff.mp lp.len.symm
        | cons => cases c
      subst ex
      unfold t_Web_reached_s5
      exact ⟨_, rfl, q fs F H' s hF lf S.done⟩
theorem rd_Web_reached (O : OkW K A) (h : sp_Web_reached K A vs H Q E) : t_Web_reached K A E { nx := fun _ H' => Q .non H', rt := Q } (start N_Web_reached vs) H := by
  obtain ⟨p, zones, links, z, rfl, w, k1, k2⟩ := h
  obtain ⟨a, b, wa⟩ := id w
  obtain ⟨dx, ob⟩ := wa.ob
  have cl := O.cl
  have nZ := O.nZ
  have e1 := webF_z a b
  have hz := wa.hz
  have hn := wa.ok.hn
  have no1 : (webF a b).lookup ("need" : Str) = none := webF_no a b (by decide +kernel) (by decide +kernel)
  unfold t_Web_reached
  walk_at "rd"
  refine ⟨fun c => ?_, k2⟩
  show t_Web_reached_s1 K A E _ _ H
  unfold t_Web_reached_s1
  walk_at "rd"
  intro FD hFD
  refine lc_listF (a := a) hFD (SqL.of hz) (by rw [List.length_map]; omega) (fun _ => some .non) ?_ ?_
  · intro i x H2 hx s2 G N hG hN
    walk_at "rd"
    exact hG _ _ rfl (Same.refl _)
  · intro H2 s2 e2
    have e3 : H2 FD = some (.lst (List.replicate zones.length V.non)) := by
      rw [e2]
      have : ∀ l : List Int, (l.map V.int).filterMap (fun _ => some V.non) = List.replicate l.length V.non := fun l => by
        induction l with
        | nil => rfl
        | cons x r ih => rw [List.map_cons, List.filterMap_cons, ih]; rfl
      rw [this]
    show t_Web_reached_s2 K A E _ [some (.ref p), some (.int z), some (.ref FD), none, none, none] H2
    unfold t_Web_reached_s2
    walk_at "rd"
    intro t ht
    have s3 : Same H2 (upd H2 t (.tup [.int z, .int z])) := Same.new ht
    have t1 : upd H2 t (.tup [.int z, .int z]) t = some (.tup [.int z, .int z]) := upd_same
    generalize upd H2 t (.tup [.int z, .int z]) = H3 at *
    walk_at "rd"
    intro la hla
    have s4 : Same H3 (upd H3 la (.lst [.ref t])) := Same.new hla
    have sA : Same H2 (upd H3 la (.lst [.ref t])) := s3.trans s4
    show t_Web_reached_s3 K A E _ [some (.ref p), some (.int z), some (.ref FD), some (.ref la), none, none] _
    unfold t_Web_reached_s3
    walk_at "rd"
    have nla : la ≠ FD := fun e => by rw [e] at hla; rw [s3 _ _ e3] at hla; cases hla
    have ntF : t ≠ FD := fun e => by rw [e, e3] at ht; cases ht
    have hzz : ((z.toNat : Nat) : Int) = z := Int.toNat_of_nonneg c.1
    refine rd_reached_s4 O w c (s2.trans (sA.del2 FD)) (sA _ _ e3) upd_same ?_ (fun fs F H'' s5 hF lf r => k1 c FD fs F H'' (s5.trans (del_sub _ _)) hFD hF (lf.same (del_sub _ _)) r) nla
    refine .cons ⟨t, rfl, ?_⟩ .nil
    rw [del_ne ntF, hzz]
    exact s4 _ _ t1
/-- the level of what stands at a place -/
def lvOf (H : Hp) : V → Option V
  | .ref q => match H q with
    | some (.tup (x :: _)) => some x
    | _ => none
  | x => some x
theorem lvOf_all {H : Hp} : ∀ {xs : List V} {F : Fnd}, FndL H xs F → xs.filterMap (lvOf H) = F.map lvV
  | _, _, .nil => rfl
  | x :: xs, none :: F, .cons e r => by
    have ih := lvOf_all r
    subst e
    rw [List.filterMap_cons, List.map_cons, ih]
    rfl
  | x :: xs, some (c, u) :: F, .cons ⟨q, e, h⟩ r => by
    have ih := lvOf_all r
    subst e
    have e1 : lvOf H (.ref q) = some (.int c) := by
      show (match H q with | some (.tup (x :: _)) => some x | _ => none) = _
      rw [h]
    rw [List.filterMap_cons, List.map_cons, ih, e1]
    rfl
theorem rd_Web_levels (O : OkW K A) (h : sp_Web_levels K A vs H Q E) : t_Web_levels K A E { nx := fun _ H' => Q .non H', rt := Q } (start N_Web_levels vs) H := by
  obtain ⟨p, zones, links, z, rfl, w, k1, k2⟩ := h
  obtain ⟨a, b, wa⟩ := id w
  obtain ⟨dx, ob⟩ := wa.ob
  have cl := O.cl
  have hn := wa.ok.hn
  have no1 : (webF a b).lookup ("reached" : Str) = none := webF_no a b (by decide +kernel) (by decide +kernel)
  unfold t_Web_levels
  walk_at "rd"
  refine ⟨fun c l fs F H1 s1 hl0 hl lf r => ?_, k2⟩
  walk_at "rd"
  intro D hD
  refine lc_listF (a := l) hD (SqL.of hl) (by rw [lf.len, r.len]; omega) (lvOf H1) ?_ ?_
  · intro i x H2 hx s2 G N hG hN
    have hi : i < F.length := by rw [← lf.len]; exact (List.getElem?_eq_some_iff.mp hx).1
    rcases lf.get hi with ⟨h1, h2⟩ | ⟨c, u, q2, h1, h2, h3⟩
    · rw [hx] at h1
      cases h1
      walk_at "rd"
      exact hG _ _ rfl (Same.refl _)
    · rw [hx] at h1
      cases h1
      have h4 := s2 _ _ h3
      have e1 : lvOf H1 (.ref q2) = some (.int c) := by
        show (match H1 q2 with | some (.tup (x :: _)) => some x | _ => none) = _
        rw [h3]
      walk_at "rd"
      exact hG _ _ e1 (Same.refl _)
  · intro H2 s2 e2
    rw [lvOf_all lf] at e2
    exact k1 c D F H2 (s1.trans (s2.trans (del_sub _ _))) (s1.free hD) e2 r
theorem rd_Web_init (O : OkW K A) (h : sp_Web_init K A vs H Q E) : t_Web_init K A E { nx := fun _ H' => Q .non H', rt := Q } (start N_Web_init vs) H := by
  obtain ⟨p, dx, z, l, zones, xs, ls, rfl, hp, hz, hl, lp, hn, hL, k1, k2⟩ := h
  unfold t_Web_init
  have hxl : xs.length = ls.length := Paired.length lp
  walk_at "rd"
  refine for_list (K := K) (a := l) (xs := xs) (fun i σ H' => Hold (∃ o3 o4 : Option V, σ = [some (.ref p), some (.ref z), some (.ref l), o3, o4] ∧ H' = H ∧ ∀ q ∈ ls.take i, LinkOk zones.length q)) ⟨none, none, rfl, rfl, fun q m => by cases m⟩ ?_ ?_ ?_
  · rintro i σ H' _ ⟨o3, o4, rfl, rfl, _⟩
    exact hl
  · rintro i x σ H' hx ⟨o3, o4, rfl, rfl, ok⟩
    obtain ⟨a, b, q, hi, rfl, hq⟩ := IPairL.get lp hx
    have mem := List.mem_of_getElem? hi
    have nx : LinkOk zones.length (a, b) → ∀ q ∈ ls.take (i + 1), LinkOk zones.length q := fun h q m => by
      rw [List.take_add_one, hi] at m
      rcases List.mem_append.mp m with m | m
      · exact ok q m
      · have : q = (a, b) := by simpa using m
        rw [this]
        exact h
    have bad : ¬ LinkOk zones.length (a, b) → E (.ref A.c_BadLink) none H' := fun h => k2 fun g => h (g _ mem)
    walk_at "rd"
    refine ite_d (fun c => ?_) (fun c => ?_)
    · exact bad fun h => h.1 (V.int.inj c)
    · walk_at "rd"
      refine ite_d (fun c2 => ?_) (fun c2 => ?_)
      · refine bad fun h => ?_
        obtain ⟨h1, h2, h3, h4, h5⟩ := h
        by_cases c3 : b < a
        · rw [if_pos c3] at c2
          have h3 : 0 ≤ b := h3
          omega
        · rw [if_neg c3] at c2
          have h2 : 0 ≤ a := h2
          omega
      · walk_at "rd"
        rw [List.length_map]
        refine ite_d (fun c4 => ?_) (fun c4 => ?_)
        · refine bad fun h => ?_
          obtain ⟨h1, h2, h3, h4, h5⟩ := h
          have h4 : a < zones.length := h4
          have h5 : b < zones.length := h5
          by_cases c3 : b > a
          · rw [if_pos c3] at c4; omega
          · rw [if_neg c3] at c4; omega
        · refine ⟨_, _, rfl, rfl, nx ⟨fun e => c (by rw [show a = b from e]), ?_⟩⟩
          by_cases c3 : b < a
          · rw [if_pos c3] at c2
            rw [if_neg (by omega)] at c4
            exact ⟨by show 0 ≤ a; omega, by show 0 ≤ b; omega, by show a < _; omega, by show b < _; omega⟩
          · rw [if_neg c3] at c2
            by_cases c5 : b > a
            · rw [if_pos c5] at c4
              exact ⟨by show 0 ≤ a; omega, by show 0 ≤ b; omega, by show a < _; omega, by show b < _; omega⟩
            · rw [if_neg c5] at c4
              exact ⟨by show 0 ≤ a; omega, by show 0 ≤ b; omega, by show a < _; omega, by show b < _; omega⟩
  · rintro σ H' ⟨o3, o4, rfl, rfl, ok⟩
    rw [hxl, List.take_length] at ok
    have cl := O.cl
    have nZ := O.nZ
    have nL := O.nL
    show t_Web_init_s1 K A E _ [some (.ref p), some (.ref z), some (.ref l), o3, o4] H'
    unfold t_Web_init_s1
    walk_at "rd"
    intro a ha
    have npa : p ≠ a := ne_of_none hp ha
    have nap := ne_sym npa
    walk_at "rd"
    show t_Web_init_s2 K A E _ [some (.ref p), some (.ref z), some (.ref l), o3, o4] _
    unfold t_Web_init_s2
    have s1 : ∀ x o, H' x = some o → x ≠ p → (upd (upd H' a (.lst (zones.map V.int))) p (.ins A.c_Web dx (putF "zones" (.ref a) []))) x = some o := fun x o e n => by
      rw [upd_ne n, upd_ne (ne_of_none e ha)]
      exact e
    have hl1 : SqL K (upd (upd H' a (.lst (zones.map V.int))) p (.ins A.c_Web dx (putF "zones" (.ref a) []))) l xs := by
      have hp2 : upd H' a (.lst (zones.map V.int)) p = some (.ins A.c_Web dx []) := by rw [upd_ne npa]; exact hp
      exact sq_ins hp2 (sq_new ha hl)
    have p1 : upd (upd H' a (.lst (zones.map V.int))) p (.ins A.c_Web dx (putF "zones" (.ref a) [])) p = some (.ins A.c_Web dx (putF "zones" (.ref a) [])) := upd_same
    have a1 : upd (upd H' a (.lst (zones.map V.int))) p (.ins A.c_Web dx (putF "zones" (.ref a) [])) a = some (.lst (zones.map V.int)) := by rw [upd_ne nap, upd_same]
    generalize upd (upd H' a (.lst (zones.map V.int))) p (.ins A.c_Web dx (putF "zones" (.ref a) [])) = H1 at *
    walk_at "rd"
    intro D hD
    refine lc_listN (a := l) hD hl1 (by omega) (fun j => .tup [.int (ls.getD j (0, 0)).1, .int (ls.getD j (0, 0)).2]) ?_ ?_
    · intro i x H2 hx s2 G N hG
      obtain ⟨a', b', q, hi, rfl, hq⟩ := IPairL.get lp hx
      have nqp : q ≠ p := fun e => by rw [e, hp] at hq; cases hq
      have hq2 := s2 _ _ (s1 _ _ hq nqp)
      walk_at "rd"
      intro t ht
      refine hG _ _ ht (Same.new ht) ?_
      rw [upd_same, List.getD_eq_getElem?_getD, hi]
      rfl
    · intro H2 addrs ha2 N
      have s2 : Same H1 H2 := N.same.trans (del_sub _ _)
      have p2 := s2 _ _ p1
      have nDp : D ≠ p := fun e => by rw [e, p1] at hD; cases hD
      walk_at "rd"
      refine k1 ok a D _ ⟨⟨dx, upd_same⟩, ?_, ⟨addrs.map V.ref, ?_, ?_⟩, ⟨?_, by omega, ?_⟩⟩ ?_ ?_ ?_
      · rw [upd_ne nap]
        exact s2 _ _ a1
      · rw [upd_ne nDp]
        exact N.lst
      · have : ∀ (addrs : List Addr) (ls : List (Int × Int)), addrs.length = ls.length → (∀ q ∈ ls, 0 ≤ q.1 ∧ 0 ≤ q.2) → (∀ (j : Nat) (t : Addr), addrs[j]? = some t → upd H2 p (.ins A.c_Web dx (webF a D)) t = some (.tup [.int (ls.getD j (0, 0)).1, .int (ls.getD j (0, 0)).2])) → PairL (upd H2 p (.ins A.c_Web dx (webF a D))) (addrs.map V.ref) (ls.map natP) := by
          intro addrs
          induction addrs with
          | nil =>
            intro ls h _ _
            cases ls with
            | nil => exact .nil
            | cons => cases h
          | cons t r ih =>
            intro ls h hn h2
            cases ls with
            | nil => cases h
            | cons x l =>
              refine .cons ⟨t, rfl, ?_⟩ (ih l (by simpa using h) (fun q m => hn q (List.mem_cons_of_mem _ m)) fun j t h => h2 (j + 1) t h)
              have h3 := h2 0 t rfl
              have h4 := hn x List.mem_cons_self
              show _ = some (HO.tup [.int (x.1.toNat : Nat), .int (x.2.toNat : Nat)])
              rw [Int.toNat_of_nonneg h4.1, Int.toNat_of_nonneg h4.2]
              exact h3
        refine this addrs ls (by rw [ha2, hxl]) (fun q m => ⟨(ok q m).2.1, (ok q m).2.2.1⟩) fun j t hj => ?_
        have h3 := N.at_ j t hj
        have h4 := (del_get h3).1
        rw [upd_ne (ne_of h4 p2 (by intro z; cases z))]
        exact h4
      · intro q m
        obtain ⟨x, hx, rfl⟩ := List.mem_map.mp m
        obtain ⟨g1, g2, g3, g4, g5⟩ := ok x hx
        refine ⟨?_, ?_, fun e => g1 ?_⟩
        · show x.1.toNat < _
          omega
        · show x.2.toNat < _
          omega
        · have e : x.1.toNat = x.2.toNat := e
          omega
      · rw [List.length_map]
        exact hL
      · exact ha
      · cases e : H' D with
        | none => rfl
        | some o =>
          have := s1 D o e nDp
          rw [hD] at this
          cases this
      · intro x o e n
        rw [upd_ne n]
        exact s2 _ _ (s1 _ _ e n)
end
end FW

/-! Web.fewest, Web.way: the readings. -/
namespace FW
open PySem PySem.Spec PyProof.Rows L2
section
variable {K : PySem.W.Frag} {A : Ad} {vs : List V} {H : Hp} {Q : VK} {E : XK}
theorem at_lvV {F : Fnd} {a : Nat} (h : a < F.length) : (F.map lvV)[a]? = some (lvV (fd F a)) := by
  rw [List.getElem?_map, List.getElem?_eq_getElem h]
  unfold fd
  rw [List.getD_eq_getElem?_getD, List.getElem?_eq_getElem h]
  rfl
theorem rd_Web_fewest (O : OkW K A) (h : sp_Web_fewest K A vs H Q E) : t_Web_fewest K A E { nx := fun _ H' => Q .non H', rt := Q } (start N_Web_fewest vs) H := by
  obtain ⟨p, zones, links, z, g, rfl, w, k1, k2⟩ := h
  obtain ⟨a, b, wa⟩ := id w
  obtain ⟨dx, ob⟩ := wa.ob
  have cl := O.cl
  have no1 : (webF a b).lookup ("need" : Str) = none := webF_no a b (by decide +kernel) (by decide +kernel)
  have no2 : (webF a b).lookup ("levels" : Str) = none := webF_no a b (by decide +kernel) (by decide +kernel)
  unfold t_Web_fewest
  walk_at "rd"
  refine ⟨fun cg => ?_, fun c => k2 fun x => c x.2⟩
  walk_at "rd"
  refine ⟨fun cz l F H' s hl0 hl r => ?_, fun c => k2 fun x => c x.1⟩
  have hg : g.toNat < F.length := by have := cg.1; have := cg.2; rw [r.len]; omega
  have e1 : atI (F.map lvV) g = some (lvV (fd F g.toNat)) := atI_lt cg.1 (at_lvV hg)
  obtain ⟨q1, q2⟩ := k1 cz cg F H' s r
  cases e : fd F g.toNat with
  | none =>
    rw [e] at e1
    have e1 : atI (F.map lvV) g = some .non := e1
    walk_at "rd"
    exact q2 e
  | some x =>
    obtain ⟨c, u⟩ := x
    rw [e] at e1
    have e1 : atI (F.map lvV) g = some (.int c) := e1
    walk_at "rd"
    exact q1 c u e
theorem at_last {xs : List V} {y : V} : atI (xs ++ [y]) (-(1 : Int)) = some y := by
  unfold atI
  have e : ixN (xs ++ [y]).length (-(1 : Int)) = some xs.length := by
    unfold ixN
    rw [List.length_append, List.length_singleton]
    by_cases c : (0 : Int) ≤ -1
    · omega
    · rw [if_neg c, if_pos (by omega)]
      exact congrArg some (by omega)
  rw [e]
  show (xs ++ [y])[xs.length]? = some y
  rw [List.getElem?_append_right (Nat.le_refl _), Nat.sub_self]
  rfl
theorem rd_way_s4 {p l R : Addr} {z g : Int} {zones : List Int} {links : List (Nat × Nat)} {start : Nat} {F : Fnd} {fs : List V} {H0 H : Hp} {Dn : Ends} (r : Rch zones links start F) (hn : zones.length ≤ 70) (hl : del H R l = some (.lst fs)) (lf : FndL (del H R) fs F) (hz : z = (start : Nat)) {gn : Nat} (hg : fd F gn ≠ none) (hgn : gn < zones.length)
    (hR : H R = some (.lst [.int (gn : Nat)])) (s0 : Same H0 (del H R)) (q : ∀ (R2 : Addr) (H' : Hp) (row : List Nat), Same H0 H' → H0 R2 = none → H' R2 = some (.lst (row.map fun (o : Nat) => V.int (o : Nat))) → Fwd F row → (∀ o ∈ row.tail, o ≠ start) → row.head? = some start → row.getLast? = some gn → row.length ≤ 71 → Dn.rt (.ref R2) H') :
    t_Web_way_s4 K A E Dn [some (.ref p), some (.int z), some (.int g), some (.ref l), some (.ref R)] H := by
  subst hz
  obtain ⟨rk, rb, tr⟩ := r.tree
  unfold t_Web_way_s4
  refine ⟨fun m σ H' => ∃ (cur : Nat) (rest : List Nat), m = rk cur ∧ σ = [some (.ref p), some (.int (start : Nat)), some (.int g), some (.ref l), some (.ref R)] ∧ del H' R = del H R ∧ H' R = some (.lst ((cur :: rest).reverse.map fun (o : Nat) => V.int (o : Nat))) ∧ Fwd F (cur :: rest) ∧ (∀ o ∈ rest, o ≠ start) ∧ (cur :: rest).getLast? = some gn ∧ fd F cur ≠ none ∧ cur < zones.length ∧ rest.length + rk cur ≤ 70,
    ⟨_, gn, [], rfl, rfl, rfl, hR, trivial, fun o m => (by cases m), rfl, hg, hgn, ?_⟩, ?_⟩
  · cases e : fd F gn with
    | none => exact absurd e hg
    | some x =>
      have := rb gn x.1 x.2 e
      show 0 + rk gn ≤ 70
      omega
  · rintro m σ H' ⟨cur, rest, rfl, rfl, hd, hR', fw, ns, gl, hc, hcn, hb⟩
    have eR : (cur :: rest).reverse.map (fun (o : Nat) => V.int (o : Nat)) = rest.reverse.map (fun (o : Nat) => V.int (o : Nat)) ++ [V.int (cur : Nat)] := by simp
    rw [eR] at hR'
    have la := at_last (xs := rest.reverse.map fun (o : Nat) => V.int (o : Nat)) (y := V.int (cur : Nat))
    refine ⟨_, rfl, ?_⟩
    walk_at "rd"
    refine ite_n (fun c => ?_) (fun c => ?_)
    · have c' : cur ≠ start := fun e => c (by rw [e])
      cases e : fd F cur with
      | none => exact absurd e hc
      | some x =>
        obtain ⟨k, u⟩ := x
        obtain ⟨cu, pu, h1, h2, h3, h4⟩ := tr cur k u e c'
        refine ⟨fun σ' H'' => Hold (∃ m', m' < rk cur ∧ ∃ (cur : Nat) (rest : List Nat), m' = rk cur ∧ σ' = [some (.ref p), some (.int (start : Nat)), some (.int g), some (.ref l), some (.ref R)] ∧ del H'' R = del H R ∧ H'' R = some (.lst ((cur :: rest).reverse.map fun (o : Nat) => V.int (o : Nat))) ∧ Fwd F (cur :: rest) ∧ (∀ o ∈ rest, o ≠ start) ∧ (cur :: rest).getLast? = some gn ∧ fd F cur ≠ none ∧ cur < zones.length ∧ rest.length + rk cur ≤ 70), fun σ' H'' h => h.h, ?_⟩
        have hcF : cur < F.length := by rw [r.len]; exact hcn
        have hlH : H' l = some (.lst fs) := by rw [← hd] at hl; exact del_sub _ _ _ _ hl
        rw [← hd] at lf
        rcases lf.get hcF with ⟨g1, g2⟩ | ⟨c3, u3, q2, g1, g2, g3⟩
        · rw [e] at g2; cases g2
        · rw [e] at g2
          cases g2
          have g4 := del_sub _ _ _ _ g3
          have i1 : atI fs (cur : Int) = some (.ref q2) := atI_nat g1
          have ln : (rest.reverse.map (fun (o : Nat) => V.int (o : Nat)) ++ [V.int (cur : Nat)]).length < sizeLine := big_lt (by simp; omega)
          walk_at "rd"
          refine .mk ⟨_, h4, u, cur :: rest, rfl, rfl, by rw [del_upd]; exact hd, ?_, ⟨⟨_, e⟩, fw⟩, fun o m => ?_, by rw [List.getLast?_cons_cons]; exact gl, (by rw [h1]; intro z; cases z), (r.lv cur k u e).2, by simp only [List.length_cons]; omega⟩
          · rw [upd_same]
            simp
          · rcases List.mem_cons.mp m with m | m
            · rw [m]; exact c'
            · exact ns o m
    · have c' : cur = start := by have := V.int.inj c; omega
      have s2 : Same H0 H' := by
        rw [← hd] at s0
        exact s0.trans (del_sub _ _)
      unfold t_Web_way_s5
      refine ⟨_, rfl, R, _, rfl, SqL.of hR', fun q2 hq2 => ?_⟩
      refine q q2 _ (cur :: rest) (s2.trans (Same.new hq2)) (s2.free hq2) ?_ fw ns (by rw [← c']; rfl) gl (by simp only [List.length_cons]; omega)
      rw [upd_same, ← eR, ← List.map_reverse, List.reverse_reverse]
theorem rd_Web_way (O : OkW K A) (h : sp_Web_way K A vs H Q E) : t_Web_way K A E { nx := fun _ H' => Q .non H', rt := Q } (start N_Web_way vs) H := by
  obtain ⟨p, zones, links, z, g, rfl, w, k1, k2⟩ := h
  obtain ⟨a, b, wa⟩ := id w
  obtain ⟨dx, ob⟩ := wa.ob
  have hn := wa.ok.hn
  have cl := O.cl
  have no1 : (webF a b).lookup ("need" : Str) = none := webF_no a b (by decide +kernel) (by decide +kernel)
  have no2 : (webF a b).lookup ("reached" : Str) = none := webF_no a b (by decide +kernel) (by decide +kernel)
  unfold t_Web_way
  walk_at "rd"
  refine ⟨fun cg => ?_, fun c => k2 fun x => c x.2⟩
  show t_Web_way_s1 K A E _ _ H
  unfold t_Web_way_s1
  walk_at "rd"
  refine ⟨fun cz l fs F H' s hl0 hl lf r => ?_, fun c => k2 fun x => c x.1⟩
  have hgn : g.toNat < zones.length := by have := cg.1; have := cg.2; omega
  obtain ⟨q1, q2⟩ := k1 cz cg F H' s r
  show t_Web_way_s2 K A E _ [some (.ref p), some (.int z), some (.int g), some (.ref l), none] H'
  unfold t_Web_way_s2
  rcases lf.get (i := g.toNat) (by rw [r.len]; exact hgn) with ⟨g1, g2⟩ | ⟨c3, u3, qq, g1, g2, g3⟩
  · have i1 : atI fs g = some .non := atI_lt cg.1 g1
    walk_at "rd"
    exact q2 g2
  · have i1 : atI fs g = some (.ref qq) := atI_lt cg.1 g1
    walk_at "rd"
    show t_Web_way_s3 K A E _ [some (.ref p), some (.int z), some (.int g), some (.ref l), none] H'
    unfold t_Web_way_s3
    walk_at "rd"
    intro R hR
    have nl : l ≠ R := fun e => by rw [← e, hl] at hR; cases hR
    have gg : ((g.toNat : Nat) : Int) = g := Int.toNat_of_nonneg cg.1
    have zz : ((z.toNat : Nat) : Int) = z := Int.toNat_of_nonneg cz.1
    have dR : del (upd H' R (.lst [.int g])) R = H' := del_new hR
    show t_Web_way_s4 K A E _ [some (.ref p), some (.int z), some (.int g), some (.ref l), some (.ref R)] _
    refine rd_way_s4 (H0 := H') (gn := g.toNat) r hn (by rw [dR]; exact hl) (by rw [dR]; exact lf) zz.symm (by rw [g2]; intro z; cases z) hgn (by rw [gg]; exact upd_same) (by rw [dR]; exact Same.refl _) fun R2 H2 row s2 h0 h1 fw ns h2 h3 h4 => ?_
    exact q1 (by rw [g2]; intro z; cases z) R2 H2 row s2 (s.free h0) h1 fw ns h2 h3 h4
end
end FW

/-! A def that is called within an except suite and looks at the exception; a class that is made within a try's body. -/
namespace FW
open PySem PySem.Spec PyProof.Rows L2
structure FnE (P : Program) (w : World) (K : PySem.W.Frag) (mg : Str → Option Value) (base : Heap) (cxt : CXT) (k : Nat) (f : Addr) (fd : FuncData) (ps : List Str) (sp : Addr → Addr → Sp) : Prop where
  len : ∀ C a vs H Q E, sp C a vs H Q E → vs.length = ps.length
  run : ∀ (A : Around) (ov : List Env) (s : Shared) (H : Hp) (ag : Args) (us : List Value) (vs : List V) (Q : VK) (E : XK) (C : Addr) (pe : Addr × Obj), L2H.RoomH k A → ExcC K C → Zc (.ref C) none pe.2 → (∃ ws, pe.2.data = .fields ws) →
    L2H.PinOk ov H s pe → Env0 P w K mg base A ov s H → BindsTo s fd ag (ps.zip us) → Vals vs us → sp C pe.1 vs H Q E → codeAny (model P w) A (.call (.ref f) ag) (CR cxt ov P w H s Q E) s
theorem fn_okE {P : Program} {w : World} {K : PySem.W.Frag} {mg : Str → Option Value} {base : Heap} {cxt : CXT} {x qual : Str} {st : Stmt} {f : Addr} {fd : FuncData} {N ps : List Str} {k : Nat} {sp : Addr → Addr → Sp} (F : Fun K x qual st f fd) (sco : FnScope N ps (defScope st))
    (ln : ∀ C a vs H Q E, sp C a vs H Q E → vs.length = ps.length)
    (bd : ∀ (cdv : Value) (A : Around) (ov : List Env) (s : Shared) (H : Hp) (vs : List V) (Q : VK) (E : XK) (C : Addr) (pe : Addr × Obj), ExcC K C → Zc (.ref C) none pe.2 → (∃ ws, pe.2.data = .fields ws) → sp C pe.1 vs H Q E →
      ∃ t, PSs (L2H.cxH cxt P w K mg base N qual (defScope st) f cdv A ov s H E pe) (defBody st) t ∧ t { nx := fun _ H' => Q .non H', rt := Q } (L2.start N vs) H) :
    FnE P w K mg base cxt (k + 1) f fd ps sp := by
  obtain ⟨oc, od, kV, doc, pm, an, cdv, ct, osl, rfl, look, code⟩ := F.ex
  refine ⟨ln, fun A ov s H ag us vs Q E C pe room cc zc fl pin env bt rel hsp => ?_⟩
  have vlen := ln _ _ _ _ _ _ hsp
  have frag : K.In s.heap := env.mod.kin.keeps fun b o g => (env.bs b o g).1
  have free : s.heap.NoLimit := env.mod.nolimit.keeps fun b o g => (env.bs b o g).1
  have kinds : ∀ y ∈ ps.zip us, (defScope st).names.lookup y.1 = some .local ∨
      ((defScope st).names.lookup y.1 = some .cell ∧ ((cellsFrom (s.heap.objs.size + 1) (defScope st).names []).lookup y.1).isSome = true) := by
    rintro ⟨n, v⟩ hy
    rcases sco.par n (List.of_mem_zip hy).1 with g | g
    · exact .inl g
    · exact .inr ⟨g, PySem.W.cellsFrom_some _ _ _ (.inl g)⟩
  refine codeAny_call_function room.depth (frag _ _ look) rfl sco.co sco.gen rfl
    (PySem.W.codeRec_of frag code) (bt _ _ _ _ ?_)
  refine wpAny_newFunctionEnv_cells sco.kind kinds fun env1 he s1 made => ?_
  subst he
  refine ⟨free.keeps made.toInCall.keep, codeAny_func ?_⟩
  obtain ⟨t, ht, hq⟩ := bd cdv A ov s H vs Q E C pe cc zc fl hsp
  have J := L2H.inv_startH (CX := cxt) (cd := cdv) (E := E) sco pin env vlen rel made
  refine wpAny_mono (ht.run [] s1 (L2.start N vs) H _ J hq) ?_ fun e s' he => he
  intro out s2 res
  cases out with
  | ret u =>
    obtain ⟨v, σ2, H2, J2, r2, q2⟩ := res
    exact ⟨v, H2, J2.os, J2.bare, J2.base, J2.hok, r2, q2⟩
  | next =>
    obtain ⟨σ2, H2, J2, q2⟩ := res
    exact ⟨V.non, H2, J2.os, J2.bare, J2.base, J2.hok, rfl, q2⟩
  | brk =>
    obtain ⟨_, _, _, bad⟩ := res
    exact bad.elim
  | cont =>
    obtain ⟨_, _, _, bad⟩ := res
    exact bad.elim
def tCallE (sp : Addr → Addr → Sp) (C a : Addr) (t : TA) : TE := fun σ H Q => t σ H fun vs H1 => sp C a vs H1 Q E0
theorem roomM {k : Nat} {A : Around} {u : Option Value} (r : Room k A) : L2H.RoomH k (A.mark u) := ⟨r.dp, r.un⟩
theorem pe_callE {Y : Cx} {cxt : CXT} {k : Nat} {f C : Addr} {pe : Addr × Obj} {fd : FuncData} {ps : List Str} {sp : Addr → Addr → Sp} {x : Str} {pos q : Pos} {e : Expr} {es : List Expr} {t : TA}
    (mem : pe ∈ Y.pn) (cc : ExcC Y.K C) (zc : Zc (.ref C) none pe.2) (fl : ∃ ws, pe.2.data = .fields ws) (F : FnE Y.prog Y.w Y.K Y.mg Y.base cxt k f fd ps sp) (room : L2H.RoomH k Y.A)
    (gl : Gl Y x) (gm : Y.mg x = some (.ref f)) (kp : PySem.W.keepIn Y.K (.ref f) = true) (bi : Binds Y.K fd ps []) (ps0 : Passes cxt Y E0) (ha : PA Y (e :: es) t) (dbg : (x == ("__debug__" : Str)) = false := by decide)
    (star : starEach (e :: es) Y.env = (false, eval e Y.env) :: starEach es Y.env := by rfl) (plain : (backTo pos (starEach es Y.env)).any (·.1) = false := by rfl) :
    PE Y (.Call (.Name x q) (e :: es) [] pos) (tCallE sp C pe.1 t) := by
  refine ⟨fun pins s σ H Q I h => wpAny_Call_Name_kw (ld_glob I gl gm ?_ dbg)⟩
  refine PySem.W.callWith_K (h₀ := Y.base) I.ok.mod.kin kp (thn (ha.run pos pins s σ H _ I h) ?_) star plain
  rintro us s1 ⟨vs, H1, I1, rel, hsp⟩
  refine ⟨I1.kIn, ?_⟩
  have ul : us.length = ps.length := rel.length.symm.trans (F.len _ _ _ _ _ _ hsp)
  have b0 := bi s1 us I1.kIn (by rw [List.append_nil]; exact ul)
  rw [List.append_nil] at b0
  obtain ⟨w1, w2, w3, w4, w5⟩ := I1.pin pe (List.mem_append_left _ mem)
  have pin : L2H.PinOk Y.stack H1 s1 pe := ⟨w1, w2, fun m => by
    rcases List.mem_cons.mp (I1.stkSub pe.1 m) with z | z
    · exact w3 z
    · exact w4 z, w5⟩
  refine wpAny_call (codeAny_mono (F.run Y.A Y.stack s1 H1 ⟨us, []⟩ us vs Q E0 C pe room cc zc fl pin I1.env0 b0 rel hsp) ?_)
  intro r s2 res
  cases r with
  | error u => exact ps0 pins σ H1 s1 u s2 I1 res
  | ok out =>
    cases out with
    | ret u => exact I1.after res
    | next => exact res.elim
    | brk => exact res.elim
    | cont => exact res.elim
theorem call_isH2 {Y : Cx} {C : Addr} {pe : Addr × Obj} (mem : pe ∈ Y.pn) (cc : ExcC Y.K C) (zc : Zc (.ref C) none pe.2) (fl : ∃ ws, pe.2.data = .fields ws) : CallR Y (.builtin "isinstance") (rIsEH Y.K C pe.1) := by
  intro pins s σ H xs us Q I r h
  obtain ⟨c, cv, b, rfl, hcv, one, q⟩ := h.h
  match us, r with
  | [_, _], .cons rx (.cons rt .nil) =>
    cases rx
    cases hcv _ rt
    have got := (I.pin pe (List.mem_append_left _ mem)).1
    obtain ⟨pa, oe⟩ := pe
    obtain ⟨ws, hw⟩ := fl
    have at_ : PySem.W.InstAt s.heap pa oe C none := by
      obtain ⟨z1, z2⟩ := zc
      cases oe
      cases z1
      cases z2
      cases hw
      exact ⟨got, rfl, rfl, trivial⟩
    refine PySem.W.kia_one (PySem.W.handS_kitx_exc cc.hg cc.hk cc.hs cc.hd cc.ha cc.hn cc.ht cc.hm) I.kIn at_ one (fun z => nomatch z) ?_
    exact fun tk => ⟨.bl b, H, I.kept (t' := tk) fun _ _ g => g, rfl, q⟩
/-! ### C(..) in a try's body -/
def tMakeS (C : Addr) (sp : Sp) (E : L2.St → XK) (t : TA) : TE := fun σ H Q => t σ H fun vs H1 => ∀ x dx, H1 x = none → H1 dx = none → dx ≠ x → sp (.ref x :: vs) (upd (upd H1 dx (.own x)) x (.ins C dx [])) (fun v H2 => v = .non ∧ Q (.ref x) H2) (E σ)
theorem pe_makeS {X : Cx} {cxt : CXT} {k : Nat} {f C : Addr} {fd : FuncData} {ps : List Str} {sp : Sp} {E : L2.St → XK} {x : Str} {pos q : Pos} {e : Expr} {es : List Expr} {t : TA} (M : Mk X.K C f) (F : FnOk X.prog X.w X.K X.mg X.base cxt k f fd ps sp) (room : Room (k + 1) X.A)
    (gl : Gl X x) (gm : X.mg x = some (.ref C)) (bi : Binds X.K fd ps []) (hx : ∀ σ, PassesAt cxt X σ (E σ)) (ha : PA X (e :: es) t) (dbg : (x == ("__debug__" : Str)) = false := by decide)
    (star : starEach (e :: es) X.env = (false, eval e X.env) :: starEach es X.env := by rfl) (plain : (backTo pos (starEach es X.env)).any (·.1) = false := by rfl) :
    PE X (.Call (.Name x q) (e :: es) [] pos) (tMakeS C sp E t) := by
  refine ⟨fun pins s0 σ H0 Q I0 h0 => wpAny_Call_Name_kw (ld_glob I0 gl gm ?_ dbg)⟩
  refine PySem.W.callWith_K (h₀ := X.base) I0.ok.mod.kin M.kp (thn (ha.run pos pins s0 σ H0 _ I0 h0) ?_) star plain
  rintro us s ⟨vs, H, I, r, h⟩
  refine ⟨I.kIn, ?_⟩
  have top := I.hok.fresh (Nat.le_succ s.heap.objs.size)
  have hq := h (s.heap.objs.size + 1) s.heap.objs.size top (I.hok.fresh (Nat.le_refl _)) (Nat.ne_of_lt (Nat.lt_succ_self _))
  have I2 := Inv.made (C := C) I
  have r2 : Vals (V.ref (s.heap.objs.size + 1) :: vs) (Value.ref (s.heap.objs.size + 1) :: us) := .cons rfl r
  have ul := r2.length.symm.trans (F.len _ _ _ _ hq)
  have b0 := bi _ (Value.ref (s.heap.objs.size + 1) :: us) I2.kIn (by rw [List.append_nil]; exact ul)
  rw [List.append_nil] at b0
  have done := F.run _ X.stack _ _ ⟨Value.ref (s.heap.objs.size + 1) :: us, []⟩ (Value.ref (s.heap.objs.size + 1) :: us) _ _ (E σ)
    (room.make C us []) (I2.env0.make C us []) b0 r2 hq
  refine wpAny_call (make_map (f := f) I.kIn M.makes M.init (beq_iff_eq.mp M.fn) (codeAny_mono done ?_))
  intro res s2 hres
  cases res with
  | error u => exact hx σ pins _ _ u s2 I2 hres
  | ok out =>
    cases out with
    | ret u =>
      obtain ⟨v, H', I3, rv, ev, q3⟩ := I2.after hres
      cases ev
      exact ⟨rv, V.ref (s.heap.objs.size + 1), H', I3, rfl, q3⟩
    | next => exact hres.elim
    | brk => exact hres.elim
    | cont => exact hres.elim
end FW

/-! list.count of flat values. -/
namespace FW
open PySem PySem.Spec PyProof.Rows L2
def rCountB (K : PySem.W.Frag) : V → List V → Hp → VK → Prop := fun x xs H Q => ∃ (a : Addr) (ys : List V) (y : V), x = V.ref a ∧ xs = [y] ∧ SqL K H a ys ∧ flatV y = true ∧ ys.all flatV = true ∧ Q (.int (ys.countP (fun z => eqV z y) : Nat)) H
theorem countP_vals {y : V} : ∀ {ys : List V} {us : List Value}, Vals ys us → ys.all flatV = true → us.countP (eqU y) = ys.countP (fun z => eqV z y)
  | _, _, .nil, _ => rfl
  | x :: xs, u :: us, .cons r t, f => by
    rw [List.all_cons, Bool.and_eq_true] at f
    rw [List.countP_cons, List.countP_cons, countP_vals t f.2, eqU_of r f.1]
theorem mt_countB {X : Cx} : MtR X "list.count" (rCountB X.K) := by
  intro pins s σ H x xs v us Q I rx rxs h
  obtain ⟨a, ys, y, rfl, rfl, hs, fy, fys, q⟩ := h
  cases rx
  cases rxs with
  | cons ry rt =>
    rename_i uy ut
    cases rt
    obtain ⟨its, rv, ⟨⟨cls, dd, data, sl⟩, n, ho, hc, hdn, hd⟩, hlen⟩ := I.list hs
    simp only at hc hd
    subst hc hd
    refine call_meets PySem.F.slot_list_count ⟨_, ho, rfl⟩ PySem.F.entry_list_count (PySem.F.args_list_count_2 _ _)
      (SeqAt.list_countAt a its.toArray n dd sl uy (eqU y)) ⟨ho, fun u' hu' => mem_eqAt ry fy rv fys u' (by simpa using hu'), ?_⟩
    have e : (its.toArray.toList.countP (eqU y)) = ys.countP (fun z => eqV z y) := countP_vals rv fys
    rw [e]
    exact ⟨.int _, H, I.tok _, ⟨_, rfl⟩, q⟩
end FW

/-! What the laws' helpers promise that many laws have. -/
namespace FW
open PySem PySem.Spec PyProof.Rows L2
/-- a cell of the script, nought beyond it -/
def cell (ns : List Int) (k : Int) : Int := ns.getD k.toNat 0
def sp_l_cell_at (K : PySem.W.Frag) (A : Ad) : Sp := fun vs H Q _ => ∃ (a : Addr) (ns : List Int) (k : Int), vs = [.ref a, .int k] ∧ SqL K H a (ns.map V.int) ∧ 0 ≤ k ∧ Q (.int (cell ns k)) H
def sp_l_whole (K : PySem.W.Frag) (A : Ad) : Sp := fun vs H Q _ => ∃ i : Int, vs = [.int i] ∧ Q (.bl true) H
/-- a law: of at most 63 numbers it says True -/
def spLaw (K : PySem.W.Frag) : Sp := fun vs H Q _ => ∃ (a : Addr) (ns : List Int), vs = [.ref a] ∧ SqL K H a (ns.map V.int) ∧ ns.length ≤ 63 ∧ ∀ H', Q (.bl true) H'
end FW

namespace FW
open PySem PySem.Spec PyProof.Rows L2
/-- which kind of refusal an exception is -/
def KindAt (K : PySem.W.Frag) (A : Ad) (C : Addr) (j : Nat) : Prop := IsX K A C (decide (j = 0)) (decide (j = 1)) (decide (j = 2)) (decide (j = 3)) (decide (j = 4)) (decide (j = 5))
def sp_l_kind (K : PySem.W.Frag) (A : Ad) : Addr → Addr → Sp := fun C a vs H Q _ => ∃ j : Nat, vs = [.ref a] ∧ j < 6 ∧ KindAt K A C j ∧ ∀ H', Same H H' → Q (.int (j : Nat)) H'
end FW

/-! set(xs) of a list of whole numbers; list(reversed(xs)). -/
namespace FW
open PySem PySem.Spec PyProof.Rows L2
section
variable {P : Program} {w : World} {A : Around} {E : Value → Shared → Prop} {s : Shared}
/-- the empty set's object, as the model makes it -/
abbrev set0 (w : World) : Obj := { cls := .type "set", dict := none, data := .set #[] 0 (.fresh 0 0 (!w.params.followText "set-order")) }
set_option maxHeartbeats 6400000 in
theorem call_setL {l : Addr} {xs : Array Value} (ns : List Int) {Q : Value → Shared → Prop} (calm : A.handled = none) (isl : s.heap.IsList l xs) (wh : IntsAre xs.toList ns) (few : ns.length + 1 < scanBound)
    (fin : ∀ (g : Heap) (tk c : Nat), SetR w g s.heap.objs.size (fun j => decide (j ∈ ns)) c → (∀ b o, s.heap.get? b = some o → g.get? b = some o) → Q (.ref s.heap.objs.size) { s with heap := g, toks := tk }) :
    wpAny (model P w) A (call (.type "set") [.ref l]) Q E s := by
  have esz : xs.size = ns.length := by have q := IntsAre.length wh; rw [Array.length_toList] at q; exact q
  have mro := PySem.F.called_set.mro
  obtain ⟨mc, mt, hmro⟩ := mro
  have made := PySem.F.called_set.made
  have subs := PySem.F.called_set.sub
  refine wpAny_call (codeAny_of_tree ?_)
  show wpAny _ _ (callAny (Value.type "set") _) _ _ _
  refine wpAny_pure ⟨Code.quiet_builtin _ (by decide +kernel), codeAny_builtin PySem.F.entry_type_call ?_⟩
  rw [Around.under_plain (weight_type_call_type "set" [Value.ref l] []) rfl]
  have nt := PySem.F.called_set.notType
  have cc := PySem.F.called_set.canCreate
  have tc := PySem.F.typeCall_set_1 (.ref l)
  repeat (any_goals (first | assumption | wp_step))
  refine codeAny_mono (code_set_led1 (w := w) (.ref l) (E := E) (Q₁ := fun v s1 => v = .ref s.heap.objs.size ∧ s1 = { s with heap := s.heap.push (set0 w) }) ⟨rfl, rfl⟩) fun r s1 hr => ?_
  cases r with
  | error e => exact hr
  | ok fl =>
    cases fl with
    | ret ob =>
      obtain ⟨rfl, rfl⟩ := hr
      have at0 : (s.heap.push (set0 w)).get? s.heap.objs.size = some (set0 w) := Heap.get?_push_size _ rfl
      have ty0 : Shared.TypeIs { s with heap := s.heap.push (set0 w) } (.ref s.heap.objs.size) "set" := ⟨_, at0, rfl⟩
      have lk0 := PySem.F.called_set.init.lookup
      have bd0 := PySem.F.called_set.init.bind (.ref s.heap.objs.size)
      repeat (any_goals (first | assumption | wp_step))
      refine codeAny_mono (codeAny_call_builtin (R := wants (fun r s2 => r = .none ∧ ∃ g tk c, s2 = { s with heap := g, toks := tk } ∧ SetR w g s.heap.objs.size (fun j => decide (j ∈ ns)) c ∧ ∀ b o, s.heap.get? b = some o → g.get? b = some o) E)
        PySem.F.called_set.init.plain PySem.F.entry_set_init (check_set_init_1 ty0 ?_)) fun r2 s2 hr2 => ?_
      · obtain ⟨ol, atl, ccl, nl, dtl⟩ := isl
        obtain ⟨k1, k2, k3, k4⟩ := ol
        simp only at ccl dtl
        subst ccl dtl
        have at1 : (s.heap.push (set0 w)).get? l = some { cls := .type "list", dict := k2, data := .seq xs nl, slots := k4 } := Heap.get?_push_of_some _ atl
        have sub1 := PySem.F.sub_list_set
        have sub2 := PySem.F.sub_list_frozenset
        have ned : (Value.type "list" == Value.type "dict") = false := by decide
        have isl1 : (s.heap.push (set0 w)).IsList l xs := ⟨_, at1, rfl, nl, rfl⟩
        unfold Builtin.«set.__init__» noKeywords Builtin.Frozenset.updateFrom
        generalize hPI : pyIter = PI
        wp_walk
        subst hPI
        refine wpAny_pyIter_list isl1 ?_
        refine wpAny_bind (wpAny_runValue ?_)
        have ltl : l < s.heap.objs.size := Heap.lt_size atl
        have calm3 : A.in1.in1.in1.handled = none := by simp [calm]
        have szp : (s.heap.push (set0 w)).objs.size = s.heap.objs.size + 1 := Heap.size_push ..
        have nel : l ≠ (s.heap.push (set0 w)).objs.size := by rw [szp]; exact Nat.ne_of_lt (Nat.lt_succ_of_lt ltl)
        have nin : s.heap.objs.size ∉ [(s.heap.push (set0 w)).objs.size, l] := by
          intro m
          rcases List.mem_cons.mp m with m | m
          · rw [szp] at m; omega
          · have : s.heap.objs.size = l := by simpa using m
            exact Nat.ne_of_gt ltl this
        have vals : ∀ (i : Nat) (v : Value), xs[i]? = some v → ∃ k t, ns[i]? = some k ∧ v = .int k t := fun i v hv => by
          have hi : i < ns.length := by rw [← esz]; exact (Array.getElem?_eq_some_iff.mp hv).1
          obtain ⟨t, e⟩ := PyProof.Rows.IntsAre.int_at wh i v (by rw [Array.getElem?_toList]; exact hv)
          refine ⟨ns[i], t, List.getElem?_eq_getElem hi, ?_⟩
          rw [e, List.getD_eq_getElem?_getD, List.getElem?_eq_getElem hi]
          rfl
        refine set_update_ints ((Walks.list calm3 _ l nel xs).toS) s.heap.objs.size nin ns esz few vals (xs.size - 0) 0 _ (by omega) (Nat.zero_le _) ⟨⟨_, Heap.get?_push_size _ rfl, rfl, rfl⟩, isl1.push _⟩ ?c0 ?c1
        case c0 => exact ⟨0, Nat.le_refl 0, setR_new_at (Heap.get?_push_of_some _ at0)⟩
        case c1 =>
          intro s9 c9 mv _ R9
          obtain ⟨g9, gn9, dr9, tk9, os9⟩ := s9
          have q1 : gn9 = s.gens := mv.gens
          have q2 : dr9 = s.drawn := mv.drawn
          have q3 : os9 = s.os := mv.os
          subst q1 q2 q3
          show wpAny _ _ _ _ _ _
          refine wpAny_pure ?_
          show wpAny _ _ (ret Value.none) _ _ _
          refine wpAny_pure ⟨rfl, g9, tk9, c9, rfl, R9, fun b o e => ?_⟩
          have lb : b < s.heap.objs.size := Heap.lt_size e
          refine mv.heap b o (fun m => ?_) (Heap.get?_push_of_some _ (Heap.get?_push_of_some _ e))
          rcases List.mem_cons.mp m with m | m
          · exact Nat.ne_of_lt lb m
          · have : b = (s.heap.push (set0 w)).objs.size := by simpa using m
            rw [szp] at this
            exact Nat.ne_of_lt (Nat.lt_succ_of_lt lb) this
      · cases r2 with
        | error e => exact hr2
        | ok fl2 =>
          cases fl2 with
          | ret r =>
            obtain ⟨rfl, g, tk, c, rfl, R, kp⟩ := hr2
            repeat (any_goals (first | assumption | wp_step))
            exact fin _ _ _ R kp
          | _ => exact hr2.elim
    | _ => exact hr.elim
end
/-- set(xs): its members once each in out -/
def rSetI (K : PySem.W.Frag) (w : World) : List V → Hp → VK → Prop := fun vs H Q => ∃ (a : Addr) (ns : List Int), vs = [.ref a] ∧ SqL K H a (ns.map V.int) ∧ ns.length ≤ 1000 ∧
  ∀ (p : Addr) (out : List Int), H p = none → out.Nodup → (∀ k, k ∈ out ↔ k ∈ ns) → Q (.ref p) (upd H p (SetO w p (fun j => decide (j ∈ ns)) out.length))
theorem cr_setI {X : Cx} (hc : X.calm = true) : CallR X (.type "set") (rSetI X.K X.w) := by
  intro pins s σ H vs us Q I r h
  obtain ⟨a, ns, rfl, hS, hl, q⟩ := h
  rw [Vals.ref1 r]
  obtain ⟨its, rv, pl, hz⟩ := I.list hS
  refine call_setL ns (I.ok.hd hc) pl.isList (by simpa using ints_of_vals rv) (by unfold scanBound; omega) fun g tk c R kp => ?_
  obtain ⟨o, es, ep, t, ho, ex, hd, good, nd, mem, sz, fits, en, ris, led⟩ := id R
  have nn : H s.heap.objs.size = none := I.hok.fresh (Nat.le_refl _)
  have e1 : c = (es.toList.map keyOf).length := by rw [List.length_map, Array.length_toList, en]
  rw [e1] at R
  have J : Inv X pins σ (upd H s.heap.objs.size (SetO X.w s.heap.objs.size (fun j => decide (j ∈ ns)) (es.toList.map keyOf).length)) { s with heap := g, gens := s.gens, drawn := s.drawn, toks := tk } :=
    I.call (ch := []) (Un.laid kp (Nat.le_refl _) nn) (I.hok.laid kp (Nat.le_refl _) (setO_new R)) I.bare (fun _ z => nomatch z)
  exact ⟨.ref _, _, J, rfl, q _ _ nn nd fun k => by rw [← mem k]; simp⟩
end FW

/-! Covers: what the defs of fareweb/covers.py promise. -/
namespace FW
open PySem PySem.Spec PyProof.Rows L2

/-- a ticket: of a week, of a day, a single -/
inductive Tk where
  | wk (z p : Int)
  | dy (d z p : Int)
  | sg (d r z p : Int)
def Tk.vals : Tk → List V
  | .wk z p => [.str "week", .int z, .int p]
  | .dy d z p => [.str "day", .int d, .int z, .int p]
  | .sg d r z p => [.str "single", .int d, .int r, .int z, .int p]
def Tk.price : Tk → Int
  | .wk _ p => p
  | .dy _ _ p => p
  | .sg _ _ _ p => p
def tkCost (ts : List Tk) : Int := (ts.map Tk.price).sum
theorem tkCost_nil : tkCost [] = 0 := rfl
theorem tkCost_cons (t : Tk) (ts : List Tk) : tkCost (t :: ts) = t.price + tkCost ts := by
  unfold tkCost
  rw [List.map_cons, List.sum_cons]
theorem tkCost_append (a b : List Tk) : tkCost (a ++ b) = tkCost a + tkCost b := by
  unfold tkCost
  rw [List.map_append, List.sum_append]
/-- the tickets stand at these places -/
abbrev TkL (H : Hp) (xs : List V) (ts : List Tk) : Prop := Paired (fun v t => ∃ q, v = V.ref q ∧ H q = some (.tup t.vals)) xs ts
theorem TkL.same {H H' : Hp} (s : Same H H') : ∀ {xs : List V} {ts : List Tk}, TkL H xs ts → TkL H' xs ts
  | _, _, .nil => .nil
  | _, _, .cons ⟨q, e, h⟩ r => .cons ⟨q, e, s _ _ h⟩ (TkL.same s r)
theorem TkL.upd {H : Hp} {R : Addr} {ys : List V} {o : HO} (hR : H R = some (.lst ys)) : ∀ {xs : List V} {ts : List Tk}, TkL H xs ts → TkL (L2.upd H R o) xs ts
  | _, _, .nil => .nil
  | _, _, .cons ⟨q, e, h⟩ r => .cons ⟨q, e, by rw [upd_ne (ne_of h hR (by intro z; cases z))]; exact h⟩ (TkL.upd hR r)
theorem TkL.del {H : Hp} {R : Addr} {ys : List V} (hR : H R = some (.lst ys)) : ∀ {xs : List V} {ts : List Tk}, TkL H xs ts → TkL (FW.del H R) xs ts
  | _, _, .nil => .nil
  | _, _, .cons ⟨q, e, h⟩ r => .cons ⟨q, e, by rw [del_ne (ne_of h hR (by intro z; cases z))]; exact h⟩ (TkL.del hR r)
theorem TkL.snoc {H : Hp} {xs : List V} {ts : List Tk} {q : Addr} {t : Tk} (a : TkL H xs ts) (h : H q = some (.tup t.vals)) : TkL H (xs ++ [.ref q]) (ts ++ [t]) := Paired.snoc a ⟨q, rfl, h⟩
theorem TkL.app {H : Hp} : ∀ {xs ys : List V} {ts us : List Tk}, TkL H xs ts → TkL H ys us → TkL H (xs ++ ys) (ts ++ us)
  | _, _, _, _, .nil, b => b
  | _, _, _, _, .cons h r, b => .cons h (TkL.app r b)
theorem TkL.len {H : Hp} {xs : List V} {ts : List Tk} (a : TkL H xs ts) : xs.length = ts.length := Paired.length a
theorem Tk.inj {t u : Tk} (h : t.vals = u.vals) : t = u := by
  cases t <;> cases u <;> simp only [Tk.vals, List.cons.injEq, V.int.injEq, and_true, true_and, reduceCtorEq, and_false, false_and] at h
  · obtain ⟨a, b⟩ := h; rw [a, b]
  · obtain ⟨a, b, c⟩ := h; rw [a, b, c]
  · obtain ⟨a, b, c, d⟩ := h; rw [a, b, c, d]
theorem TkL.inj {H : Hp} : ∀ {xs : List V} {ts us : List Tk}, TkL H xs ts → TkL H xs us → ts = us
  | _, _, _, .nil, .nil => rfl
  | _, _, _, .cons ⟨q, e, h⟩ r, .cons ⟨q2, e2, h2⟩ r2 => by
    rw [e] at e2
    cases e2
    have e3 := h.symm.trans h2
    rw [Tk.inj (HO.tup.inj (Option.some.inj e3)), TkL.inj r r2]
theorem TkL.get {H : Hp} : ∀ {xs : List V} {ts : List Tk} {i : Nat} {x : V}, TkL H xs ts → xs[i]? = some x → ∃ t q, ts[i]? = some t ∧ x = .ref q ∧ H q = some (.tup t.vals)
  | _, _, _, _, .nil, h => by simp at h
  | _, _, 0, x, .cons ⟨q, e, h⟩ r, hx => ⟨_, q, rfl, by rw [← e]; exact (Option.some.inj hx).symm, h⟩
  | _, _, i + 1, x, .cons _ r, hx => TkL.get (i := i) r hx

/-! ### the least cost -/
/-- what the singles cost of the rides that are not served up to m zones -/
def sgSum (S : List Int) (m : Int) (rides : List Int) : Int := ((rides.filter fun z => decide (m < z)).map (low S)).sum
def ownCost (D : List Int) (own : Int) : Int := if 0 < own then low D own else 0
def dayCost (S D : List Int) (held : Int) (rides : List Int) (own : Int) : Int := ownCost D own + sgSum S (max held own) rides
def dayBest (S D : List Int) (held : Int) (rides : List Int) : Int := lowL ((0 :: rides).map (dayCost S D held rides))
def weekCost (S D W : List Int) (days : List (List Int)) (held : Int) : Int := ownCost W held + (days.map (dayBest S D held)).sum
def weekBest (S D W : List Int) (days : List (List Int)) : Int := lowL ((0 :: days.flatten).map (weekCost S D W days))
def In5 (z : Int) : Prop := 1 ≤ z ∧ z ≤ 5
instance (z : Int) : Decidable (In5 z) := by unfold In5; infer_instance

/-! ### which tickets are told -/
structure DayOk (S D : List Int) (d held : Int) (rides : List Int) (ts : List Tk) : Prop where
  ok : ∀ t ∈ ts, (∃ z, t = .dy d z (pr D z) ∧ In5 z) ∨ ∃ (r : Nat) (z : Int), t = .sg d r z (pr S z) ∧ r < rides.length ∧ In5 z
  served : ∀ (r : Nat) (z : Int), rides[r]? = some z → z ≤ held ∨ (∃ y, .dy d y (pr D y) ∈ ts ∧ z ≤ y) ∨ ∃ y, .sg d r y (pr S y) ∈ ts ∧ z ≤ y
structure WeekOk (S D W : List Int) (days : List (List Int)) (ts : List Tk) : Prop where
  ok : ∀ t ∈ ts, (∃ z, t = .wk z (pr W z) ∧ In5 z) ∨ (∃ (d : Nat) (z : Int), t = .dy d z (pr D z) ∧ d < days.length ∧ In5 z) ∨
    ∃ (d r : Nat) (z : Int) (rides : List Int), t = .sg d r z (pr S z) ∧ days[d]? = some rides ∧ r < rides.length ∧ In5 z
  served : ∀ (d r : Nat) (rides : List Int) (z : Int), days[d]? = some rides → rides[r]? = some z → (∃ y, .wk y (pr W y) ∈ ts ∧ z ≤ y) ∨ (∃ y, .dy d y (pr D y) ∈ ts ∧ z ≤ y) ∨ ∃ y, .sg d r y (pr S y) ∈ ts ∧ z ≤ y

/-! ### the heap: a list of lists of whole numbers -/
structure LLAt (K : PySem.W.Frag) (H : Hp) (a : Addr) (ps : List Addr) (days : List (List Int)) : Prop where
  sq : SqL K H a (ps.map V.ref)
  len : ps.length = days.length
  at_ : ∀ (i : Nat) (p : Addr) (r : List Int), ps[i]? = some p → days[i]? = some r → H p = some (.lst (r.map V.int))
theorem LLAt.same {K : PySem.W.Frag} {H H' : Hp} {a : Addr} {ps : List Addr} {days : List (List Int)} (l : LLAt K H a ps days) (s : Same H H') : LLAt K H' a ps days :=
  ⟨s.seq l.sq, l.len, fun i p r h1 h2 => s _ _ (l.at_ i p r h1 h2)⟩
def LL (K : PySem.W.Frag) (H : Hp) (a : Addr) (days : List (List Int)) : Prop := ∃ ps, LLAt K H a ps days
theorem LL.same {K : PySem.W.Frag} {H H' : Hp} {a : Addr} {days : List (List Int)} (l : LL K H a days) (s : Same H H') : LL K H' a days := let ⟨ps, h⟩ := l; ⟨ps, h.same s⟩

/-! ### promises -/
def sp_cost_of (K : PySem.W.Frag) (A : Ad) : Sp := fun vs H Q _ => ∃ (a : Addr) (xs : List V) (ts : List Tk), vs = [.ref a] ∧ SqL K H a xs ∧ TkL H xs ts ∧ xs.length ≤ 40000 ∧ ∀ H', Same H H' → Q (.int (tkCost ts)) H'
def sp_for_day (K : PySem.W.Frag) (A : Ad) : Sp := fun vs H Q _ => ∃ (p a : Addr) (d held : Int) (S D W rides : List Int), vs = [.ref p, .int d, .ref a, .int held] ∧ Tar A H p S D W ∧ SqL K H a (rides.map V.int) ∧ (∀ z ∈ rides, In5 z) ∧ rides.length ≤ 1000 ∧
  ∀ (l : Addr) (xs : List V) (ts : List Tk) (H' : Hp), Same H H' → H l = none → H' l = some (.lst xs) → TkL H' xs ts → DayOk S D d held rides ts → tkCost ts = dayBest S D held rides → ts.length ≤ 2 * rides.length → Q (.ref l) H'
def sp_for_week (K : PySem.W.Frag) (A : Ad) : Sp := fun vs H Q _ => ∃ (p a : Addr) (held : Int) (S D W : List Int) (days : List (List Int)), vs = [.ref p, .ref a, .int held] ∧ Tar A H p S D W ∧ LL K H a days ∧ (∀ r ∈ days, ∀ z ∈ r, In5 z) ∧ days.flatten.length ≤ 1000 ∧ days.length ≤ 20 ∧ 0 ≤ held ∧ held ≤ 5 ∧
  ∀ (l : Addr) (xs : List V) (ts : List Tk) (H' : Hp), Same H H' → H l = none → H' l = some (.lst xs) → TkL H' xs ts → WeekOk S D W days ts → tkCost ts = weekCost S D W days held → ts.length ≤ 2 * days.flatten.length + held.toNat → Q (.ref l) H'
def sp_least (K : PySem.W.Frag) (A : Ad) : Sp := fun vs H Q E => ∃ (p a : Addr) (S D W : List Int) (days : List (List Int)), vs = [.ref p, .ref a] ∧ Tar A H p S D W ∧ LL K H a days ∧ days.flatten.length ≤ 1000 ∧ days.length ≤ 20 ∧
  ((∀ r ∈ days, ∀ z ∈ r, In5 z) → ∀ (t l : Addr) (xs : List V) (ts : List Tk) (H' : Hp), Same H H' → H l = none → H t = none → H' t = some (.tup [.int (weekBest S D W days), .ref l]) → H' l = some (.lst xs) → TkL H' xs ts → WeekOk S D W days ts →
    tkCost ts = weekBest S D W days → ts.length ≤ 7 * days.flatten.length → Q (.ref t) H') ∧
  (¬ (∀ r ∈ days, ∀ z ∈ r, In5 z) → E (.ref A.c_BadZones) none H)
end FW

/-! A new list of new lists of whole numbers. -/
namespace FW
open PySem PySem.Spec PyProof.Rows L2
structure NewLL (H H' : Hp) (l : Addr) (ps : List Addr) (days : List (List Int)) : Prop where
  same : Same H H'
  lst : H' l = some (.lst (ps.map V.ref))
  len : ps.length = days.length
  nd : ps.Nodup
  ln : l ∉ ps
  l0 : H l = none
  p0 : ∀ p ∈ ps, H p = none
  at_ : ∀ (i : Nat) (p : Addr) (r : List Int), ps[i]? = some p → days[i]? = some r → H' p = some (.lst (r.map V.int))
theorem NewLL.ll {K : PySem.W.Frag} {H H' : Hp} {l : Addr} {ps : List Addr} {days : List (List Int)} (n : NewLL H H' l ps days) : LLAt K H' l ps days := ⟨SqL.of n.lst, n.len, n.at_⟩
theorem NewLL.ext {H H' H'' : Hp} {l : Addr} {ps : List Addr} {days : List (List Int)} (n : NewLL H H' l ps days) (s : Same H' H'') : NewLL H H'' l ps days :=
  ⟨n.same.trans s, s _ _ n.lst, n.len, n.nd, n.ln, n.l0, n.p0, fun i p r h1 h2 => s _ _ (n.at_ i p r h1 h2)⟩
theorem NewLL.pre {H0 H H' : Hp} {l : Addr} {ps : List Addr} {days : List (List Int)} (n : NewLL H H' l ps days) (s : Same H0 H) : NewLL H0 H' l ps days :=
  ⟨s.trans n.same, n.lst, n.len, n.nd, n.ln, s.free n.l0, fun p hp => s.free (n.p0 p hp), n.at_⟩
theorem NewLL.nil {H : Hp} {l : Addr} (h : H l = none) : NewLL H (upd H l (.lst [])) l [] [] :=
  ⟨Same.new h, upd_same, rfl, List.nodup_nil, by simp, h, fun p hp => by simp at hp, fun i p r h => by simp at h⟩
theorem get_snoc {α : Type} {l : List α} {x y : α} {i : Nat} (h : (l ++ [x])[i]? = some y) : (i < l.length ∧ l[i]? = some y) ∨ (i = l.length ∧ y = x) := by
  by_cases c : i < l.length
  · rw [List.getElem?_append_left c] at h
    exact .inl ⟨c, h⟩
  · have hi : i < (l ++ [x]).length := (List.getElem?_eq_some_iff.mp h).1
    rw [List.length_append, List.length_singleton] at hi
    have e : i = l.length := by omega
    rw [e, List.getElem?_append_right (Nat.le_refl _), Nat.sub_self] at h
    exact .inr ⟨e, (Option.some.inj h).symm⟩
theorem NewLL.snoc {H H' H'' : Hp} {l D : Addr} {ps : List Addr} {days : List (List Int)} {r : List Int} (n : NewLL H H' l ps days) (hD : H' D = none) (s : Same H' H'') (e : H'' D = some (.lst (r.map V.int))) :
    NewLL H (upd H'' l (.lst (ps.map V.ref ++ [.ref D]))) l (ps ++ [D]) (days ++ [r]) where
  same := (n.same.trans s).mut n.l0
  lst := by rw [upd_same, List.map_append]; rfl
  len := by rw [List.length_append, List.length_append, n.len]; rfl
  nd := List.nodup_append.mpr ⟨n.nd, by simp, fun a ha b hb => by
    have eb : b = D := by simpa using hb
    rw [eb]
    intro e2
    obtain ⟨j, hj⟩ := List.mem_iff_getElem?.mp ha
    have hjl : j < days.length := by rw [← n.len]; exact (List.getElem?_eq_some_iff.mp hj).1
    have := n.at_ j a _ hj (List.getElem?_eq_getElem hjl)
    rw [e2, hD] at this
    cases this⟩
  ln := fun m => by
    rcases List.mem_append.mp m with g | g
    · exact n.ln g
    · have : l = D := by simpa using g
      rw [← this, n.lst] at hD
      cases hD
  l0 := n.l0
  p0 := fun p hp => by
    rcases List.mem_append.mp hp with g | g
    · exact n.p0 p g
    · have : p = D := by simpa using g
      rw [this]
      exact n.same.free hD
  at_ := fun i p q h1 h2 => by
    rcases get_snoc h1 with ⟨c, g⟩ | ⟨c, g⟩
    · rcases get_snoc h2 with ⟨c2, g2⟩ | ⟨c2, g2⟩
      · have np : p ≠ l := fun z => n.ln (by rw [← z]; exact List.mem_iff_getElem?.mpr ⟨i, g⟩)
        rw [upd_ne np]
        exact s _ _ (n.at_ i p q g g2)
      · have := n.len
        omega
    · rcases get_snoc h2 with ⟨c2, g2⟩ | ⟨c2, g2⟩
      · have := n.len
        omega
      · have np : D ≠ l := fun z => by rw [z, n.lst] at hD; cases hD
        rw [g, g2, upd_ne np]
        exact e
theorem NewLL.put {H H' : Hp} {l p : Addr} {ps : List Addr} {days : List (List Int)} {j : Nat} {r r' : List Int} (n : NewLL H H' l ps days) (hp : ps[j]? = some p) (hr : days[j]? = some r) :
    NewLL H (upd H' p (.lst (r'.map V.int))) l ps (days.set j r') where
  same := n.same.mut (n.p0 p (List.mem_iff_getElem?.mpr ⟨j, hp⟩))
  lst := by
    have nl : l ≠ p := fun z => n.ln (by rw [z]; exact List.mem_iff_getElem?.mpr ⟨j, hp⟩)
    rw [upd_ne nl]
    exact n.lst
  len := by rw [List.length_set]; exact n.len
  nd := n.nd
  ln := n.ln
  l0 := n.l0
  p0 := n.p0
  at_ := fun i q s h1 h2 => by
    by_cases e : i = j
    · subst e
      rw [hp] at h1
      cases h1
      have hj : i < days.length := (List.getElem?_eq_some_iff.mp hr).1
      rw [List.getElem?_set_self hj] at h2
      cases h2
      exact upd_same
    · rw [List.getElem?_set_ne (fun z => e z.symm)] at h2
      have nq : q ≠ p := fun z => by
        rw [z] at h1
        exact e (nd_ix n.nd h1 hp)
      rw [upd_ne nq]
      exact n.at_ i q s h1 h2
theorem NewLL.of_news {H H' : Hp} {D : Addr} {addrs : List Addr} {days : List (List Int)} {obj : Nat → HO} (n : News H D obj addrs H') (hD : H D = none) (hl : addrs.length = days.length) (ho : ∀ (i : Nat) (r : List Int), days[i]? = some r → obj i = .lst (r.map V.int)) : NewLL H H' D addrs days :=
  ⟨n.same.trans (del_sub _ _), n.lst, hl, n.nd, fun m => by
    obtain ⟨j, hj⟩ := List.mem_iff_getElem?.mp m
    exact (del_get (n.at_ j D hj)).2 rfl, hD, n.old, fun i p r h1 h2 => by rw [(del_get (n.at_ i p h1)).1, ho i r h2]⟩
/-- how many numbers there are -/
def llen (days : List (List Int)) : Nat := (days.map List.length).sum
theorem llen_flatten (days : List (List Int)) : days.flatten.length = llen days := by
  unfold llen
  rw [List.length_flatten]
theorem llen_set : ∀ {days : List (List Int)} {j : Nat} {r r' : List Int}, days[j]? = some r → llen (days.set j r') + r.length = llen days + r'.length
  | [], j, r, r', h => by simp at h
  | a :: l, 0, r, r', h => by
    have e : a = r := Option.some.inj h
    subst e
    simp only [llen, List.set_cons_zero, List.map_cons, List.sum_cons]
    omega
  | a :: l, j + 1, r, r', h => by
    have ih := llen_set (days := l) (j := j) (r := r) (r' := r') h
    simp only [llen, List.set_cons_succ, List.map_cons, List.sum_cons] at ih ⊢
    omega
theorem all_set {P : Int → Prop} {days : List (List Int)} {j : Nat} {r' : List Int} (h : ∀ r ∈ days, ∀ z ∈ r, P z) (h' : ∀ z ∈ r', P z) : ∀ r ∈ days.set j r', ∀ z ∈ r, P z := fun r hr => by
  rcases List.mem_or_eq_of_mem_set hr with g | g
  · exact h r g
  · rw [g]
    exact h'
end FW

/-! Covers: no tickets cost less than the least. -/
namespace FW
open PySem PySem.Spec PyProof.Rows L2
theorem ex_max (b : Int) : ∀ {l : List Int}, (∃ x ∈ l, x ≤ b) → ∃ m ∈ l, m ≤ b ∧ ∀ y ∈ l, y ≤ b → y ≤ m
  | [], h => by obtain ⟨x, hx, _⟩ := h; cases hx
  | a :: r, h => by
    by_cases c : ∃ x ∈ r, x ≤ b
    · obtain ⟨m, hm, h1, h2⟩ := ex_max b c
      by_cases e : a ≤ b ∧ m < a
      · refine ⟨a, List.mem_cons_self, e.1, fun y hy hb => ?_⟩
        rcases List.mem_cons.mp hy with g | g
        · omega
        · have := h2 y g hb
          omega
      · refine ⟨m, List.mem_cons_of_mem _ hm, h1, fun y hy hb => ?_⟩
        rcases List.mem_cons.mp hy with g | g
        · omega
        · exact h2 y g hb
    · obtain ⟨x, hx, hb⟩ := h
      rcases List.mem_cons.mp hx with g | g
      · subst g
        refine ⟨x, List.mem_cons_self, hb, fun y hy hyb => ?_⟩
        rcases List.mem_cons.mp hy with g | g
        · omega
        · exact absurd ⟨y, g, hyb⟩ c
      · exact absurd ⟨x, g, hb⟩ c
theorem ownCost_nn {D : List Int} {own : Int} (h : Row5 D) : 0 ≤ ownCost D own := by
  unfold ownCost
  split
  · exact low_nn h.2
  · exact Int.le_refl _
theorem ownCost_mono {D : List Int} {a b : Int} (h : Row5 D) (hab : a ≤ b) (hb : b ≤ 5) : ownCost D a ≤ ownCost D b := by
  unfold ownCost
  by_cases c : 0 < a
  · rw [if_pos c, if_pos (by omega)]
    exact low_mono (by omega) hab (by rw [h.1]; omega)
  · rw [if_neg c]
    exact ownCost_nn h
theorem sgSum_cut {S : List Int} {m n : Int} {rides : List Int} (h : ∀ z ∈ rides, (m < z ↔ n < z)) : sgSum S m rides = sgSum S n rides := by
  unfold sgSum
  have e : rides.filter (fun z => decide (m < z)) = rides.filter (fun z => decide (n < z)) := List.filter_congr fun z hz => by simp only [h z hz]
  rw [e]
theorem dayBest_le {S D : List Int} {held own : Int} {rides : List Int} (hD : Row5 D) (h0 : 0 ≤ own) (h5 : own ≤ 5) : dayBest S D held rides ≤ dayCost S D held rides own := by
  obtain ⟨m, hm, h1, h2⟩ := ex_max own (l := 0 :: rides) ⟨0, List.mem_cons_self, h0⟩
  have e : dayCost S D held rides m ≤ dayCost S D held rides own := by
    unfold dayCost
    have e1 := ownCost_mono hD h1 h5
    have e2 : sgSum S (max held m) rides = sgSum S (max held own) rides := sgSum_cut fun z hz => by
      have := h2 z (List.mem_cons_of_mem _ hz)
      omega
    omega
  have := lowL_le (List.mem_map.mpr ⟨m, hm, rfl⟩ : dayCost S D held rides m ∈ (0 :: rides).map (dayCost S D held rides))
  unfold dayBest
  omega
theorem weekBest_le {S D W : List Int} {held : Int} {days : List (List Int)} (hW : Row5 W) (h0 : 0 ≤ held) (h5 : held ≤ 5) : weekBest S D W days ≤ weekCost S D W days held := by
  obtain ⟨m, hm, h1, h2⟩ := ex_max held (l := 0 :: days.flatten) ⟨0, List.mem_cons_self, h0⟩
  have e : weekCost S D W days m ≤ weekCost S D W days held := by
    unfold weekCost
    have e1 := ownCost_mono hW h1 h5
    have e2 : days.map (dayBest S D m) = days.map (dayBest S D held) := List.map_congr_left fun rides hr => by
      unfold dayBest
      have e3 : dayCost S D m rides = dayCost S D held rides := by
        funext own
        unfold dayCost
        have e4 : sgSum S (max m own) rides = sgSum S (max held own) rides := sgSum_cut fun z hz => by
          have := h2 z (List.mem_cons_of_mem _ (List.mem_flatten.mpr ⟨rides, hr, hz⟩))
          omega
        rw [e4]
      rw [e3]
    rw [e2]
    omega
  have := lowL_le (List.mem_map.mpr ⟨m, hm, rfl⟩ : weekCost S D W days m ∈ (0 :: days.flatten).map (weekCost S D W days))
  unfold weekBest
  omega
theorem sum_nn : ∀ {l : List Int}, (∀ x ∈ l, 0 ≤ x) → 0 ≤ l.sum
  | [], _ => Int.le_refl _
  | a :: r, h => by
    rw [List.sum_cons]
    have h1 := h a List.mem_cons_self
    have h2 := sum_nn (l := r) fun x hx => h x (List.mem_cons_of_mem _ hx)
    omega
theorem sgSum_nn {S : List Int} {m : Int} {rides : List Int} (h : Row5 S) : 0 ≤ sgSum S m rides := sum_nn fun x hx => by
  obtain ⟨z, _, rfl⟩ := List.mem_map.mp hx
  exact low_nn h.2
theorem dayCost_nn {S D : List Int} {held own : Int} {rides : List Int} (hS : Row5 S) (hD : Row5 D) : 0 ≤ dayCost S D held rides own := by
  unfold dayCost
  have := ownCost_nn (own := own) hD
  have := sgSum_nn (m := max held own) (rides := rides) hS
  omega
theorem dayBest_nn {S D : List Int} {held : Int} {rides : List Int} (hS : Row5 S) (hD : Row5 D) : 0 ≤ dayBest S D held rides := by
  unfold dayBest
  obtain ⟨k, _, e⟩ := List.mem_map.mp (lowL_mem (l := (0 :: rides).map (dayCost S D held rides)) (by simp))
  rw [← e]
  exact dayCost_nn hS hD
theorem weekBest_nn {S D W : List Int} {days : List (List Int)} (hS : Row5 S) (hD : Row5 D) (hW : Row5 W) : 0 ≤ weekBest S D W days := by
  unfold weekBest
  obtain ⟨k, _, e⟩ := List.mem_map.mp (lowL_mem (l := (0 :: days.flatten).map (weekCost S D W days)) (by simp))
  rw [← e]
  unfold weekCost
  have h1 := ownCost_nn (own := k) hW
  have h2 : 0 ≤ (days.map (dayBest S D k)).sum := sum_nn fun x hx => by
    obtain ⟨r, _, rfl⟩ := List.mem_map.mp hx
    exact dayBest_nn hS hD
  omega
end FW

/-! What the laws' helpers promise that make rows of prices, days of rides. -/
namespace FW
open PySem PySem.Spec PyProof.Rows L2
def sp_l_rows (K : PySem.W.Frag) (A : Ad) : Sp := fun vs H Q _ => ∃ (a : Addr) (ns : List Int), vs = [.ref a] ∧ SqL K H a (ns.map V.int) ∧ ns.length ≤ 63 ∧
  ∀ (l : Addr) (ps : List Addr) (S D W : List Int) (H' : Hp), Row5 S → Row5 D → Row5 W → NewLL H H' l ps [S, D, W] → Q (.ref l) H'
def sp_l_days (K : PySem.W.Frag) (A : Ad) : Sp := fun vs H Q _ => ∃ (a : Addr) (ns : List Int), vs = [.ref a] ∧ SqL K H a (ns.map V.int) ∧ ns.length ≤ 63 ∧
  ∀ (l : Addr) (ps : List Addr) (days : List (List Int)) (H' : Hp), (∀ r ∈ days, ∀ z ∈ r, In5 z) → llen days ≤ 200 → days.length ≤ 7 → NewLL H H' l ps days → Q (.ref l) H'
def sp_l_paid (K : PySem.W.Frag) (A : Ad) : Sp := fun vs H Q _ => ∃ (n o : Int) (R L : Addr) (S D W : List Int) (days : List (List Int)), vs = [.int n, .int o, .ref R, .ref L] ∧ LL K H R [S, D, W] ∧ LL K H L days ∧ Row5 S ∧ Row5 D ∧ Row5 W ∧
  (∀ r ∈ days, ∀ z ∈ r, In5 z) ∧ days.length ≤ 20 ∧ llen days ≤ 1000 ∧ ∀ v : Int, weekBest S D W days ≤ v → Q (.int v) H
/-- the s-th row of prices -/
def rowOf (ns : List Int) (most : Int) (first : Int) (s : Nat) : List Int := (List.range 5).map fun (k : Nat) => cell ns (first + 5 * (s : Int) + (k : Int)) % most
theorem rowOf_len (ns : List Int) (most first : Int) (s : Nat) : (rowOf ns most first s).length = 5 := by
  unfold rowOf
  rw [List.length_map, List.length_range]
theorem rowOf_ok {ns : List Int} {most first : Int} {s : Nat} (h : 0 < most) : Row5 (rowOf ns most first s) := ⟨rowOf_len _ _ _ _, fun x hx => by
  obtain ⟨k, _, rfl⟩ := List.mem_map.mp hx
  exact Int.emod_nonneg _ (by omega)⟩
theorem at_ref {addrs : List Addr} {i : Nat} {p : Addr} (h : addrs[i]? = some p) : atI (addrs.map V.ref) (0 + (i : Int)) = some (.ref p) := by
  rw [Int.zero_add]
  exact atI_nat (by rw [List.getElem?_map, h]; rfl)
theorem at_refi {addrs : List Addr} {i : Int} {p : Addr} (h0 : 0 ≤ i) (h : addrs[i.toNat]? = some p) : atI (addrs.map V.ref) i = some (.ref p) := atI_lt h0 (by rw [List.getElem?_map, h]; rfl)
theorem get_some {α : Type} {l : List α} {i : Nat} (h : i < l.length) : ∃ x, l[i]? = some x := ⟨l[i], List.getElem?_eq_getElem h⟩
theorem LLAt.get {K : PySem.W.Frag} {H : Hp} {a : Addr} {ps : List Addr} {days : List (List Int)} {i : Int} {r : List Int} (l : LLAt K H a ps days) (h0 : 0 ≤ i) (h : days[i.toNat]? = some r) : ∃ p, atI (ps.map V.ref) i = some (.ref p) ∧ H p = some (.lst (r.map V.int)) := by
  have hi : i.toNat < ps.length := by rw [l.len]; exact (List.getElem?_eq_some_iff.mp h).1
  obtain ⟨p, hp⟩ := get_some hi
  exact ⟨p, at_refi h0 hp, l.at_ _ _ _ hp h⟩
/-- one of some whole numbers by its place -/
theorem pick {ns : List Int} {i : Int} (h0 : 0 ≤ i) (h : i < ns.length) : ∃ m : Int, atI (ns.map V.int) i = some (.int m) ∧ m ∈ ns := ⟨_, atI_map h0 h, by
  rw [List.getD_eq_getElem?_getD, List.getElem?_eq_getElem (by omega)]
  exact List.getElem_mem _⟩
end FW

namespace FW
open PySem PySem.Spec PyProof.Rows L2
theorem rgc2 {i j : Int} (h0 : 0 ≤ i) (h1 : i < 1000) (h2 : -1000 ≤ j) (h3 : j < 1000) : ∃ n : Nat, RgC i j 2 n ∧ (∀ k : Nat, k < n → i + (k : Int) * 2 < j) ∧ n ≤ j.toNat := by
  have two : (2 : Int) > 0 := by decide
  by_cases c : i < j
  · have e : Builtin.Range.rangeSize i j 2 = (j - i - 1) / 2 + 1 := by
      unfold Builtin.Range.rangeSize
      rw [if_pos two, if_pos c]
    refine ⟨((j - i - 1) / 2 + 1).toNat, ⟨by decide, by decide, ?_, by rw [e]; omega⟩, fun k hk => by omega, by omega⟩
    unfold Builtin.Range.small
    rw [e, if_pos two]
    simp only [Bool.and_eq_true, Bool.or_eq_true, Builtin.Range.rangeFitsLong, beq_iff_eq, decide_eq_true_eq]
    omega
  · have e : Builtin.Range.rangeSize i j 2 = 0 := by
      unfold Builtin.Range.rangeSize
      rw [if_pos two, if_neg c]
    refine ⟨0, ⟨by decide, by decide, ?_, by rw [e]; rfl⟩, fun k hk => by omega, by omega⟩
    unfold Builtin.Range.small
    rw [e, if_pos two]
    simp only [Bool.and_eq_true, Bool.or_eq_true, Builtin.Range.rangeFitsLong, beq_iff_eq, decide_eq_true_eq]
    omega
end FW

/-! Lists of levels as data. -/
namespace FW
open PySem PySem.Spec PyProof.Rows L2
def lvD : Option (Int × Nat) → PyData
  | none => .none
  | some (c, _) => .int c
theorem dpAll_lv {K : PySem.W.Frag} {H : Hp} : ∀ F : Fnd, DpAll K H (F.map lvV) (F.map lvD)
  | [] => .nil
  | none :: F => .cons .non (dpAll_lv F)
  | some (c, u) :: F => .cons (.int c) (dpAll_lv F)
theorem dp_lv {K : PySem.W.Frag} {H : Hp} {a : Addr} {F : Fnd} (h : SqL K H a (F.map lvV)) : Dp K H (.ref a) (.list (F.map lvD)) := .lst h (dpAll_lv F)
theorem shp_lv (F : Fnd) : Shp 1 (.list (F.map lvD)) := Shp.list fun d hd => by
  obtain ⟨o, _, rfl⟩ := List.mem_map.mp hd
  cases o with
  | none => exact Shp.non 0
  | some x => exact Shp.int 0 _
theorem lv_same {F G : Fnd} (h : F.map (Option.map Prod.fst) = G.map (Option.map Prod.fst)) : F.map lvV = G.map lvV := by
  have e : ∀ o : Option (Int × Nat), lvV o = (match o.map Prod.fst with | none => V.non | some c => V.int c) := fun o => by
    cases o with
    | none => rfl
    | some x => rfl
  have : ∀ L : Fnd, L.map lvV = (L.map (Option.map Prod.fst)).map (fun o => match o with | none => V.non | some c => V.int c) := fun L => by
    rw [List.map_map]
    exact List.map_congr_left fun o _ => e o
  rw [this F, this G, h]
theorem at_lv {F : Fnd} {a : Nat} (h : a < F.length) : atI (F.map lvV) (a : Int) = some (lvV (fd F a)) := by
  refine atI_nat ?_
  rw [List.getElem?_map, List.getElem?_eq_getElem h]
  unfold fd
  rw [List.getD_eq_getElem?_getD, List.getElem?_eq_getElem h]
  rfl
end FW

namespace FW
open PySem PySem.Spec PyProof.Rows L2
def AllLk (n : Nat) (ls : List (Int × Int)) : Prop := ∀ q ∈ ls, LinkOk n q
def sp_l_links_by (K : PySem.W.Frag) (A : Ad) : Sp := fun vs H Q _ => ∃ (a : Addr) (ns : List Int) (n : Nat), vs = [.ref a, .int 5, .int (n : Nat)] ∧ SqL K H a (ns.map V.int) ∧ ns.length ≤ 63 ∧ n ≤ 9 ∧
  ∀ (l : Addr) (xs : List V) (ls : List (Int × Int)) (H' : Hp), AllLk n ls → ls.length ≤ 63 → Same H H' → H l = none → H' l = some (.lst xs) → IPairL H' xs ls → Q (.ref l) H'
def sp_l_wrong (K : PySem.W.Frag) (A : Ad) : Sp := fun vs H Q _ => ∃ (c : Int) (n : Nat), vs = [.int c, .int (n : Nat)] ∧ n ≤ 9 ∧ ∀ (t : Addr) (x y : Int) (H' : Hp), Same H H' → H' t = some (.tup [.int x, .int y]) → ¬ LinkOk n (x, y) → Q (.ref t) H'
def sp_l_made (K : PySem.W.Frag) (A : Ad) : Sp := fun vs H Q _ => ∃ (z l : Addr) (zones : List Int) (xs : List V) (ls : List (Int × Int)), vs = [.ref z, .ref l] ∧ SqL K H z (zones.map V.int) ∧ SqL K H l xs ∧ IPairL H xs ls ∧ zones.length ≤ 70 ∧ ls.length ≤ 300 ∧
  (AllLk zones.length ls → ∀ (T a b : Addr) (H' : Hp), H T = none → H a = none → H b = none → Same H H' → WebAt A H' T a b zones (ls.map natP) → Q (.ref T) H') ∧ (¬ AllLk zones.length ls → ∀ H', Same H H' → Q .non H')
def sp_l_any_refusal (K : PySem.W.Frag) (A : Ad) : Sp := fun vs H Q _ => ∃ (z l : Addr) (zones : List Int) (xs : List V) (ls : List (Int × Int)), vs = [.ref z, .ref l] ∧ SqL K H z (zones.map V.int) ∧ SqL K H l xs ∧ IPairL H xs ls ∧ zones.length ≤ 70 ∧ ls.length ≤ 300 ∧
  ¬ AllLk zones.length ls ∧ ∀ H', Same H H' → Q (.bl true) H'
/-- is a stop that is asked for not there -/
def lost (zones : List Int) (i s g : Int) : Prop := if i = 0 then ¬ InR zones s else ¬ (InR zones s ∧ InR zones g)
def sp_l_asked (K : PySem.W.Frag) (A : Ad) : Sp := fun vs H Q _ => ∃ (T : Addr) (zones : List Int) (links : List (Nat × Nat)) (i s g : Int), vs = [.ref T, .int i, .int s, .int g] ∧ Web A H T zones links ∧ ∀ (b : Bool) (H' : Hp), (b = true ↔ lost zones i s g) → Same H H' → Q (.bl b) H'
def sp_l_stop (K : PySem.W.Frag) (A : Ad) : Sp := fun vs H Q _ => ∃ (c : Int) (n : Nat), vs = [.int c, .int (n : Nat)] ∧ n ≤ 9 ∧ ∀ v : Int, Q (.int v) H
def sp_l_fields (K : PySem.W.Frag) (A : Ad) : Sp := fun vs H Q _ => ∃ (T a b z l : Addr) (zones : List Int) (xs : List V) (ls : List (Int × Int)), vs = [.ref T, .ref z, .ref l] ∧ WebAt A H T a b zones (ls.map natP) ∧ AllLk zones.length ls ∧ SqL K H z (zones.map V.int) ∧ SqL K H l xs ∧ IPairL H xs ls ∧ Q (.bl true) H
def sp_law (K : PySem.W.Frag) (A : Ad) : Sp := spLaw K
/-! ### pairs of whole numbers as data -/
def ipD (p : Int × Int) : PyData := .tuple [.int p.1, .int p.2]
theorem dpAll_ip {K : PySem.W.Frag} {H : Hp} : ∀ {xs : List V} {ps : List (Int × Int)}, IPairL H xs ps → DpAll K H xs (ps.map ipD)
  | _, _, .nil => .nil
  | _, (a, b) :: _, .cons ⟨q, e, h⟩ r => .cons (by rw [e]; exact .tup (SqT.of h) (.cons (.int _) (.cons (.int _) .nil))) (dpAll_ip r)
theorem dp_ip {K : PySem.W.Frag} {H : Hp} {a : Addr} {xs : List V} {ps : List (Int × Int)} (h : SqL K H a xs) (p : IPairL H xs ps) : Dp K H (.ref a) (.list (ps.map ipD)) := .lst h (dpAll_ip p)
theorem shp_ip (ps : List (Int × Int)) : Shp 2 (.list (ps.map ipD)) := Shp.list fun d hd => by
  obtain ⟨p, _, rfl⟩ := List.mem_map.mp hd
  refine Shp.tuple fun x hx => ?_
  rcases List.mem_cons.mp hx with e | hx
  · rw [e]; exact Shp.int 0 _
  · rw [List.mem_singleton.mp hx]; exact Shp.int 0 _
theorem ip_of {H : Hp} {n : Nat} : ∀ {xs : List V} {ls : List (Int × Int)}, AllLk n ls → PairL H xs (ls.map natP) → IPairL H xs ls
  | _, [], _, .nil => .nil
  | _, (x, y) :: ls, h, .cons ⟨q, e, hq⟩ r => by
    have h0 := h (x, y) List.mem_cons_self
    obtain ⟨_, h1, h2, _⟩ := h0
    have h1 : 0 ≤ x := h1
    have h2 : 0 ≤ y := h2
    refine .cons ⟨q, e, ?_⟩ (ip_of (fun q m => h q (List.mem_cons_of_mem _ m)) r)
    have e1 : ((natP (x, y)).1 : Int) = x := Int.toNat_of_nonneg h1
    have e2 : ((natP (x, y)).2 : Int) = y := Int.toNat_of_nonneg h2
    rw [hq, e1, e2]
theorem IPairL.len {H : Hp} {xs : List V} {ps : List (Int × Int)} (a : IPairL H xs ps) : xs.length = ps.length := Paired.length a
theorem IPairL.snoc {H : Hp} {xs : List V} {ps : List (Int × Int)} {q : Addr} {x y : Int} (l : IPairL H xs ps) (h : H q = some (.tup [.int x, .int y])) : IPairL H (xs ++ [.ref q]) (ps ++ [(x, y)]) := Paired.snoc l ⟨q, rfl, h⟩
theorem IPairL.app {H : Hp} : ∀ {xs ys : List V} {ps qs : List (Int × Int)}, IPairL H xs ps → IPairL H ys qs → IPairL H (xs ++ ys) (ps ++ qs)
  | _, _, _, _, .nil, b => b
  | _, _, _, _, .cons h r, b => .cons h (IPairL.app r b)
theorem IPairL.cut {H : Hp} : ∀ {xs : List V} {ps : List (Int × Int)} (i : Nat), IPairL H xs ps → IPairL H (xs.take i) (ps.take i) ∧ IPairL H (xs.drop i) (ps.drop i)
  | _, _, 0, l => ⟨.nil, l⟩
  | _, _, _ + 1, .nil => ⟨.nil, .nil⟩
  | _, _, i + 1, .cons h r => let ⟨a, b⟩ := IPairL.cut i r; ⟨.cons h a, b⟩
theorem IPairL.nt {H H' : Hp} (s : ∀ x us, H x = some (.tup us) → H' x = some (.tup us)) : ∀ {xs : List V} {ps : List (Int × Int)}, IPairL H xs ps → IPairL H' xs ps
  | _, _, .nil => .nil
  | _, _, .cons ⟨q, e, h⟩ r => .cons ⟨q, e, s _ _ h⟩ (IPairL.nt s r)
theorem PairL.nt {H H' : Hp} (s : ∀ x us, H x = some (.tup us) → H' x = some (.tup us)) : ∀ {xs : List V} {ps : List (Nat × Nat)}, PairL H xs ps → PairL H' xs ps
  | _, _, .nil => .nil
  | _, _, .cons ⟨q, e, h⟩ r => .cons ⟨q, e, s _ _ h⟩ (PairL.nt s r)
theorem dpAll_ix {K : PySem.W.Frag} {H : Hp} : ∀ {xs : List V} {ds : List PyData}, xs.length = ds.length → (∀ (i : Nat) x d, xs[i]? = some x → ds[i]? = some d → Dp K H x d) → DpAll K H xs ds
  | [], [], _, _ => .nil
  | [], _ :: _, h, _ => by simp at h
  | _ :: _, [], h, _ => by simp at h
  | x :: xs, d :: ds, h, f => .cons (f 0 x d rfl rfl) (dpAll_ix (by simpa using h) fun i a b h1 h2 => f (i + 1) a b h1 h2)
end FW

namespace FW
open PySem PySem.Spec PyProof.Rows L2
def N_l_cell_at : List Str := ["_law_script", "_law_k"]
def t_l_cell_at (K : PySem.W.Frag) (A : Ad) (E : XK) : TS :=
 tSeq (tIfS (tTest (tOp rLtI (tVar 1) (tCB (rLenS K) (tCons (tVar 0) (tNil))))) (tRet (tOp (rIxL K) (tVar 0) (tVar 1))) (tNext))
 (tRet (tC (.int 0)))
@[irreducible] def t_l_links_by_s3 (K : PySem.W.Frag) (A : Ad) (E : XK) : TS :=
 tRet (tVar 3)
@[irreducible] def t_l_links_by_s2 (K : PySem.W.Frag) (A : Ad) (E : XK) : TS :=
 tSeq (tFor (iRng3 (tCons (tVar 1) (tCons (tOp rSub (tCB rMin2 (tCons (tCB (rLenS K) (tCons (tVar 0) (tNil))) (tCons (tC (.int 200)) (tNil)))) (tC (.int 1))) (tCons (tC (.int 2)) (tNil))))) (gName 4) (tIfS (tTest (tOp rNe (tOp rModI (tOp (rIxL K) (tVar 0) (tVar 4)) (tVar 2)) (tOp rModI (tOp (rIxL K) (tVar 0) (tOp rAdd (tVar 4) (tC (.int 1)))) (tVar 2)))) (tDrop (tBM K "list" rAppend (tVar 3) (tCons (tTup (tCons (tOp rModI (tOp (rIxL K) (tVar 0) (tVar 4)) (tVar 2)) (tCons (tOp rModI (tOp (rIxL K) (tVar 0) (tOp rAdd (tVar 4) (tC (.int 1)))) (tVar 2)) (tNil)))) (tNil)))) (tNext)))
 (t_l_links_by_s3 K A E)
@[irreducible] def t_l_links_by_s1 (K : PySem.W.Frag) (A : Ad) (E : XK) : TS :=
 tSeq (tIfS (tTest (tOp rEq (tVar 2) (tC (.int 0)))) (tRet (tVar 3)) (tNext))
 (t_l_links_by_s2 K A E)
def N_l_links_by : List Str := ["_law_script", "_law_first", "_law_many", "_law_links", "_law_k"]
def t_l_links_by (K : PySem.W.Frag) (A : Ad) (E : XK) : TS :=
 tSeq (tAsg (tLst (tNil)) (gName 3))
 (t_l_links_by_s1 K A E)
@[irreducible] def t_l_wrong_s5 (K : PySem.W.Frag) (A : Ad) (E : XK) : TS :=
 tRet (tTup (tCons (tVar 3) (tCons (tVar 3) (tNil))))
@[irreducible] def t_l_wrong_s4 (K : PySem.W.Frag) (A : Ad) (E : XK) : TS :=
 tSeq (tIfS (tTest (tOp rEq (tOp rModI (tVar 0) (tC (.int 3))) (tC (.int 1)))) (tRet (tTup (tCons (tOp rSub (tUn rNeg (tC (.int 1))) (tVar 2)) (tCons (tVar 3) (tNil))))) (tNext))
 (t_l_wrong_s5 K A E)
@[irreducible] def t_l_wrong_s3 (K : PySem.W.Frag) (A : Ad) (E : XK) : TS :=
 tSeq (tIfS (tTest (tOp rEq (tOp rModI (tVar 0) (tC (.int 3))) (tC (.int 0)))) (tRet (tTup (tCons (tVar 3) (tCons (tOp rAdd (tOp rAdd (tVar 1) (tVar 2)) (tOp rModI (tOp rDivI (tVar 0) (tC (.int 24))) (tC (.int 2)))) (tNil))))) (tNext))
 (t_l_wrong_s4 K A E)
@[irreducible] def t_l_wrong_s2 (K : PySem.W.Frag) (A : Ad) (E : XK) : TS :=
 tSeq (tAsg (tOp rModI (tOp rDivI (tVar 0) (tC (.int 12))) (tCB rMax2 (tCons (tC (.int 1)) (tCons (tVar 1) (tNil))))) (gName 3))
 (t_l_wrong_s3 K A E)
@[irreducible] def t_l_wrong_s1 (K : PySem.W.Frag) (A : Ad) (E : XK) : TS :=
 tSeq (tIfS (tTest (tOp rEq (tOp rModI (tOp rDivI (tVar 0) (tC (.int 3))) (tC (.int 4))) (tC (.int 1)))) (tAsg (tOp rPowI (tC (.int 10)) (tC (.int 9))) (gName 2)) (tNext))
 (t_l_wrong_s2 K A E)
def N_l_wrong : List Str := ["_law_cell", "_law_many", "_law_far", "_law_stop_here"]
def t_l_wrong (K : PySem.W.Frag) (A : Ad) (E : XK) : TS :=
 tSeq (tAsg (tC (.int 0)) (gName 2))
 (t_l_wrong_s1 K A E)
def N_l_kind : List Str := ["_law_e", "_law_kinds"]
def t_l_kind (K : PySem.W.Frag) (A : Ad) (C a : Addr) (E : XK) : TS :=
 tSeq (tAsg (tLst (tCons (tCB (rIsEH K C a) (tCons (tVar 0) (tCons (tC (.ref A.c_BadLink)) (tNil)))) (tCons (tCB (rIsEH K C a) (tCons (tVar 0) (tCons (tC (.ref A.c_BadStop)) (tNil)))) (tCons (tCB (rIsEH K C a) (tCons (tVar 0) (tCons (tC (.ref A.c_NoWay)) (tNil)))) (tCons (tCB (rIsEH K C a) (tCons (tVar 0) (tCons (tC (.ref A.c_BadPrices)) (tNil)))) (tNil)))))) (gName 1))
 (tSeq (tAsg (tOp rCat (tVar 1) (tLst (tCons (tCB (rIsEH K C a) (tCons (tVar 0) (tCons (tC (.ref A.c_BadZones)) (tNil)))) (tCons (tCB (rIsEH K C a) (tCons (tVar 0) (tCons (tC (.ref A.c_PastDay)) (tNil)))) (tNil))))) (gName 1))
 (tSeq (tIfS (tOr (tNot (tB (tCB (rIsEH K C a) (tCons (tVar 0) (tCons (tC (.ty "ValueError")) (tNil)))))) (tTest (tOp rNe (tBM K "list" (rCountB K) (tVar 1) (tCons (tC (.bl true)) (tNil))) (tC (.int 1))))) (tRet (tUn rNeg (tC (.int 1)))) (tNext))
 (tRet (tBM K "list" (rIndex K) (tVar 1) (tCons (tC (.bl true)) (tNil))))))
def N_l_made : List Str := ["_law_zones", "_law_links"]
def t_l_made (K : PySem.W.Frag) (A : Ad) (E : XK) : TS :=
 tTryOnly K (.ref A.c_BadLink) (fun W => tRet (tMakeS A.c_Web (sp_Web_init K A) (WE W) (tCons (tVar 0) (tCons (tVar 1) (tNil))))) (fun _ _ _ => tRet (tC .non))
def N_l_any_refusal : List Str := ["_law_zones", "_law_links", "_law_e"]
def t_l_any_refusal (K : PySem.W.Frag) (A : Ad) (E : XK) : TS :=
 tSeq (tTryAs K (.ref A.c_FareError) 2 (fun W => tDrop (tMakeS A.c_Web (sp_Web_init K A) (WE W) (tCons (tVar 0) (tCons (tVar 1) (tNil))))) (fun a C => tRet (tOp rEq (tCallE (sp_l_kind K A) C a (tCons (tVar 2) (tNil))) (tC (.int 0)))))
 (tRet (tC (.bl false)))
@[irreducible] def t_l_asked_s1 (K : PySem.W.Frag) (A : Ad) (E : XK) : TS :=
 tRet (tC (.bl false))
def N_l_asked : List Str := ["_law_web", "_law_sort", "_law_start", "_law_goal", "_law_e"]
def t_l_asked (K : PySem.W.Frag) (A : Ad) (E : XK) : TS :=
 tSeq (tTryAs K (.ref A.c_FareError) 4 (fun W => tIfS (tTest (tOp rEq (tVar 1) (tC (.int 0)))) (tDrop (tMethS A.c_Web "levels" (sp_Web_levels K A) (WE W) (tVar 0) (tCons (tVar 2) (tNil)))) (tIfS (tTest (tOp rEq (tVar 1) (tC (.int 1)))) (tDrop (tMethS A.c_Web "fewest" (sp_Web_fewest K A) (WE W) (tVar 0) (tCons (tVar 2) (tCons (tVar 3) (tNil))))) (tDrop (tMethS A.c_Web "way" (sp_Web_way K A) (WE W) (tVar 0) (tCons (tVar 2) (tCons (tVar 3) (tNil))))))) (fun a C => tSeq (tIfS (tTest (tOp rEq (tCallE (sp_l_kind K A) C a (tCons (tVar 4) (tNil))) (tC (.int 2)))) (tRet (tC (.bl false))) (tNext))
 (tRet (tOrT K (tOp rEq (tCallE (sp_l_kind K A) C a (tCons (tVar 4) (tNil))) (tC (.int 1))) (tC .non)))))
 (t_l_asked_s1 K A E)
def N_l_stop : List Str := ["_law_cell", "_law_many"]
def t_l_stop (K : PySem.W.Frag) (A : Ad) (E : XK) : TS :=
 tSeq (tIfS (tTest (tOp rEq (tOp rModI (tVar 0) (tC (.int 4))) (tC (.int 1)))) (tRet (tOp rMulI (tOp rSub (tOp rMulI (tOp rModI (tOp rDivI (tVar 0) (tC (.int 4))) (tC (.int 2))) (tC (.int 2))) (tC (.int 1))) (tOp rAdd (tOp rPowI (tC (.int 10)) (tC (.int 9))) (tOp rModI (tOp rDivI (tVar 0) (tC (.int 8))) (tC (.int 100)))))) (tNext))
 (tRet (tOp rSub (tOp rModI (tOp rDivI (tVar 0) (tC (.int 4))) (tOp rAdd (tVar 1) (tC (.int 4)))) (tC (.int 2))))
@[irreducible] def t_l_fields_s2 (K : PySem.W.Frag) (A : Ad) (E : XK) : TS :=
 tRet (tAndV (tOp (rEqH K) (tFld K (tVar 0) "zones") (tVar 1)) (tOp (rEqH K) (tFld K (tVar 0) "links") (tVar 2)))
@[irreducible] def t_l_fields_s1 (K : PySem.W.Frag) (A : Ad) (E : XK) : TS :=
 tSeq (tFor (iList K (tFld K (tVar 0) "links")) (gName 3) (tIfS (tNot (tB (tIsi K (tVar 3) (.ty "tuple")))) (tRet (tC (.bl false))) (tNext)))
 (t_l_fields_s2 K A E)
def N_l_fields : List Str := ["_law_web", "_law_zones", "_law_links", "_law_link"]
def t_l_fields (K : PySem.W.Frag) (A : Ad) (E : XK) : TS :=
 tSeq (tIfS (tOr (tNot (tB (tIsi K (tFld K (tVar 0) "zones") (.ty "list")))) (tNot (tB (tIsi K (tFld K (tVar 0) "links") (.ty "list"))))) (tRet (tC (.bl false))) (tNext))
 (t_l_fields_s1 K A E)
@[irreducible] def t_law_b1_s1 (K : PySem.W.Frag) (A : Ad) (E : XK) : TS :=
 tAsg (tOp rAdd (tOp rPowI (tC (.int 10)) (tC (.int 9))) (tVar 8)) (gSub (tOp (rIxL K) (tVar 5) (tC (.int 0))) (tVar 8) rSetL)
@[irreducible] def t_law_b1 (K : PySem.W.Frag) (A : Ad) (E : XK) : TS :=
 tSeq (tDrop (tBM K "list" rAppend (tOp (rIxL K) (tVar 5) (tC (.int 1))) (tCons (tTup (tCons (tVar 8) (tCons (tC (.int 0)) (tNil)))) (tNil))))
 (t_law_b1_s1 K A E)
@[irreducible] def t_law_s17 (K : PySem.W.Frag) (A : Ad) (E : XK) : TS :=
 tRet (tC (.bl true))
@[irreducible] def t_law_s16 (K : PySem.W.Frag) (A : Ad) (E : XK) : TS :=
 tSeq (tFor (iRng1 (tCons (tC (.int 3)) (tNil))) (gName 12) (tIfS (tTest (tOp rNe (tCall (sp_l_asked K A) [] E0 (tCons (tVar 6) (tCons (tVar 12) (tCons (tVar 9) (tCons (tVar 10) (tNil)))))) (tOp (rIxL K) (tVar 11) (tCB rMin2 (tCons (tVar 12) (tCons (tC (.int 1)) (tNil))))))) (tRet (tC (.bl false))) (tNext)))
 (t_law_s17 K A E)
@[irreducible] def t_law_s15 (K : PySem.W.Frag) (A : Ad) (E : XK) : TS :=
 tSeq (tAsg (tLst (tCons (tOrV (tOp rLtI (tVar 9) (tC (.int 0))) (tOp rGeI (tVar 9) (tVar 1))) (tCons (tOrV (tOp rLtI (tVar 9) (tC (.int 0))) (tOrV (tOp rGeI (tVar 9) (tVar 1)) (tOrV (tOp rLtI (tVar 10) (tC (.int 0))) (tOp rGeI (tVar 10) (tVar 1))))) (tNil)))) (gName 11))
 (t_law_s16 K A E)
@[irreducible] def t_law_s14 (K : PySem.W.Frag) (A : Ad) (E : XK) : TS :=
 tSeq (tAsg (tCall (sp_l_stop K A) [] E0 (tCons (tCall (sp_l_cell_at K A) [] E0 (tCons (tVar 0) (tCons (tC (.int 4)) (tNil)))) (tCons (tVar 1) (tNil)))) (gName 10))
 (t_law_s15 K A E)
@[irreducible] def t_law_s13 (K : PySem.W.Frag) (A : Ad) (E : XK) : TS :=
 tSeq (tAsg (tCall (sp_l_stop K A) [] E0 (tCons (tCall (sp_l_cell_at K A) [] E0 (tCons (tVar 0) (tCons (tC (.int 3)) (tNil)))) (tCons (tVar 1) (tNil)))) (gName 9))
 (t_law_s14 K A E)
@[irreducible] def t_law_s12 (K : PySem.W.Frag) (A : Ad) (E : XK) : TS :=
 tSeq (tIfS (tOr (tNot (tB (tCall (sp_l_fields K A) [] E0 (tCons (tVar 6) (tCons (tVar 2) (tCons (tVar 3) (tNil))))))) (tTest (tOp (rNeH K) (tLc (iRng1 (tCons (tVar 1) (tNil))) (gName 8) (tYes) (tMeth A.c_Web "levels" (sp_Web_levels K A) [] E0 (tVar 6) (tCons (tVar 8) (tNil))) [8]) (tVar 7)))) (tRet (tC (.bl false))) (tNext))
 (t_law_s13 K A E)
@[irreducible] def t_law_s11 (K : PySem.W.Frag) (A : Ad) (E : XK) : TS :=
 tSeq (tFor (iRng2 (tCons (tC (.int 1)) (tCons (tVar 1) (tNil)))) (gName 8) (t_law_b1 K A E))
 (t_law_s12 K A E)
@[irreducible] def t_law_s10 (K : PySem.W.Frag) (A : Ad) (E : XK) : TS :=
 tSeq (tDrop (tBM K "list" rAppend (tOp (rIxL K) (tVar 5) (tC (.int 0))) (tCons (tC (.int 7)) (tNil))))
 (t_law_s11 K A E)
@[irreducible] def t_law_s9 (K : PySem.W.Frag) (A : Ad) (E : XK) : TS :=
 tSeq (tAsg (tLc (iRng1 (tCons (tVar 1) (tNil))) (gName 8) (tYes) (tMeth A.c_Web "levels" (sp_Web_levels K A) [] E0 (tVar 6) (tCons (tVar 8) (tNil))) [8]) (gName 7))
 (t_law_s10 K A E)
@[irreducible] def t_law_s8 (K : PySem.W.Frag) (A : Ad) (E : XK) : TS :=
 tSeq (tIfS (tOr (tNot (tB (tVar 4))) (tOr (tTest (tOp (rNeH K) (tOp (rIxL K) (tVar 5) (tC (.int 0))) (tVar 2))) (tTest (tOp (rNeH K) (tOp (rIxL K) (tVar 5) (tC (.int 1))) (tVar 3))))) (tRet (tC (.bl false))) (tNext))
 (t_law_s9 K A E)
@[irreducible] def t_law_s7 (K : PySem.W.Frag) (A : Ad) (E : XK) : TS :=
 tSeq (tIfS (tTest (tOp rIsN (tVar 6) (tC .non))) (tRet (tAndV (tNotV (tVar 4)) (tCall (sp_l_any_refusal K A) [] E0 (tCons (tCB (rListS K) (tCons (tVar 2) (tNil))) (tCons (tCB (rListS K) (tCons (tVar 3) (tNil))) (tNil)))))) (tNext))
 (t_law_s8 K A E)
@[irreducible] def t_law_s6 (K : PySem.W.Frag) (A : Ad) (E : XK) : TS :=
 tSeq (tAsg (tCall (sp_l_made K A) [] E0 (tCons (tOp (rIxL K) (tVar 5) (tC (.int 0))) (tCons (tOp (rIxL K) (tVar 5) (tC (.int 1))) (tNil)))) (gName 6))
 (t_law_s7 K A E)
@[irreducible] def t_law_s5 (K : PySem.W.Frag) (A : Ad) (E : XK) : TS :=
 tSeq (tAsg (tLst (tCons (tCB (rListS K) (tCons (tVar 2) (tNil))) (tCons (tCB (rListS K) (tCons (tVar 3) (tNil))) (tNil)))) (gName 5))
 (t_law_s6 K A E)
@[irreducible] def t_law_s4 (K : PySem.W.Frag) (A : Ad) (E : XK) : TS :=
 tSeq (tIfS (tNot (tB (tVar 4))) (tDrop (tBM K "list" rInsert (tVar 3) (tCons (tOp rModI (tOp rDivI (tCall (sp_l_cell_at K A) [] E0 (tCons (tVar 0) (tCons (tC (.int 1)) (tNil)))) (tC (.int 2))) (tOp rAdd (tCB (rLenS K) (tCons (tVar 3) (tNil))) (tC (.int 1)))) (tCons (tCall (sp_l_wrong K A) [] E0 (tCons (tCall (sp_l_cell_at K A) [] E0 (tCons (tVar 0) (tCons (tC (.int 2)) (tNil)))) (tCons (tVar 1) (tNil)))) (tNil))))) (tNext))
 (t_law_s5 K A E)
@[irreducible] def t_law_s3 (K : PySem.W.Frag) (A : Ad) (E : XK) : TS :=
 tSeq (tAsg (tOp rEq (tOp rModI (tCall (sp_l_cell_at K A) [] E0 (tCons (tVar 0) (tCons (tC (.int 1)) (tNil)))) (tC (.int 2))) (tC (.int 0))) (gName 4))
 (t_law_s4 K A E)
@[irreducible] def t_law_s2 (K : PySem.W.Frag) (A : Ad) (E : XK) : TS :=
 tSeq (tAsg (tCall (sp_l_links_by K A) [] E0 (tCons (tVar 0) (tCons (tC (.int 5)) (tCons (tVar 1) (tNil))))) (gName 3))
 (t_law_s3 K A E)
@[irreducible] def t_law_s1 (K : PySem.W.Frag) (A : Ad) (E : XK) : TS :=
 tSeq (tAsg (tLc (iRng1 (tCons (tVar 1) (tNil))) (gName 13) (tYes) (tCall (sp_l_cell_at K A) [] E0 (tCons (tVar 0) (tCons (tOp rAdd (tC (.int 5)) (tVar 13)) (tNil)))) [13]) (gName 2))
 (t_law_s2 K A E)
def N_law : List Str := ["_law_script", "_law_many", "_law_zones", "_law_links", "_law_good", "_law_handed", "_law_web", "_law_ahead", "_law_stop_here", "_law_start", "_law_goal", "_law_lost", "_law_sort", "_law_k"]
def t_law (K : PySem.W.Frag) (A : Ad) (E : XK) : TS :=
 tSeq (tAsg (tOp rModI (tCall (sp_l_cell_at K A) [] E0 (tCons (tVar 0) (tCons (tC (.int 0)) (tNil)))) (tC (.int 10))) (gName 1))
 (t_law_s1 K A E)
end FW

namespace FW
open PySem PySem.Spec PyProof.Rows L2
section
variable {K : PySem.W.Frag} {A : Ad} {C a : Addr} {vs : List V} {H : Hp} {Q : VK} {E : XK}
theorem rd_kind_0 (X : IsX K A C true false false false false false) (q : ∀ H', Same H H' → Q (.int 0) H') : t_l_kind K A C a E { nx := fun _ H' => Q .non H', rt := Q } (start N_l_kind [.ref a]) H := by
  have x1 := X.l
  have x2 := X.s
  have x3 := X.n
  have x4 := X.p
  have x5 := X.z
  have x6 := X.d
  have x7 := X.v
  unfold t_l_kind
  walk_at "rd"
  intro u hu
  have s1 : Same H (upd H u (.lst [.bl true, .bl false, .bl false, .bl false])) := Same.new hu
  have u1 : upd H u (.lst [.bl true, .bl false, .bl false, .bl false]) u = some (.lst [.bl true, .bl false, .bl false, .bl false]) := upd_same
  generalize upd H u (.lst [.bl true, .bl false, .bl false, .bl false]) = H1 at *
  walk_at "rd"
  intro v hv
  have s2 : Same H1 (upd H1 v (.lst [.bl false, .bl false])) := Same.new hv
  have v1 : upd H1 v (.lst [.bl false, .bl false]) v = some (.lst [.bl false, .bl false]) := upd_same
  generalize upd H1 v (.lst [.bl false, .bl false]) = H2 at *
  have u2 := s2 _ _ u1
  walk_at "rd"
  intro y hy
  have s3 : Same H2 (upd H2 y (.lst ([.bl true, .bl false, .bl false, .bl false] ++ [.bl false, .bl false]))) := Same.new hy
  have y1 : upd H2 y (.lst ([.bl true, .bl false, .bl false, .bl false] ++ [.bl false, .bl false])) y = some (.lst [.bl true, .bl false, .bl false, .bl false, .bl false, .bl false]) := upd_same
  generalize upd H2 y (.lst ([.bl true, .bl false, .bl false, .bl false] ++ [.bl false, .bl false])) = H3 at *
  walk_at "rd"
  refine ⟨(rfl : ([V.bl true, V.bl false, V.bl false, V.bl false, V.bl false, V.bl false] : List V)[(0 : Nat)]? = some (V.bl true)), rfl, fun m z' hm hz' => ?_, ?_⟩
  · exact absurd hm (Nat.not_lt_zero _)
  exact q _ ((s1.trans s2).trans s3)
theorem rd_kind_1 (X : IsX K A C false true false false false false) (q : ∀ H', Same H H' → Q (.int 1) H') : t_l_kind K A C a E { nx := fun _ H' => Q .non H', rt := Q } (start N_l_kind [.ref a]) H := by
  have x1 := X.l
  have x2 := X.s
  have x3 := X.n
  have x4 := X.p
  have x5 := X.z
  have x6 := X.d
  have x7 := X.v
  unfold t_l_kind
  walk_at "rd"
  intro u hu
  have s1 : Same H (upd H u (.lst [.bl false, .bl true, .bl false, .bl false])) := Same.new hu
  have u1 : upd H u (.lst [.bl false, .bl true, .bl false, .bl false]) u = some (.lst [.bl false, .bl true, .bl false, .bl false]) := upd_same
  generalize upd H u (.lst [.bl false, .bl true, .bl false, .bl false]) = H1 at *
  walk_at "rd"
  intro v hv
  have s2 : Same H1 (upd H1 v (.lst [.bl false, .bl false])) := Same.new hv
  have v1 : upd H1 v (.lst [.bl false, .bl false]) v = some (.lst [.bl false, .bl false]) := upd_same
  generalize upd H1 v (.lst [.bl false, .bl false]) = H2 at *
  have u2 := s2 _ _ u1
  walk_at "rd"
  intro y hy
  have s3 : Same H2 (upd H2 y (.lst ([.bl false, .bl true, .bl false, .bl false] ++ [.bl false, .bl false]))) := Same.new hy
  have y1 : upd H2 y (.lst ([.bl false, .bl true, .bl false, .bl false] ++ [.bl false, .bl false])) y = some (.lst [.bl false, .bl true, .bl false, .bl false, .bl false, .bl false]) := upd_same
  generalize upd H2 y (.lst ([.bl false, .bl true, .bl false, .bl false] ++ [.bl false, .bl false])) = H3 at *
  walk_at "rd"
  refine ⟨(rfl : ([V.bl false, V.bl true, V.bl false, V.bl false, V.bl false, V.bl false] : List V)[(1 : Nat)]? = some (V.bl true)), rfl, fun m z' hm hz' => ?_, ?_⟩
  · match m, hm, hz' with
    | 0, _, hz' => cases hz'; rfl
  exact q _ ((s1.trans s2).trans s3)
theorem rd_kind_2 (X : IsX K A C false false true false false false) (q : ∀ H', Same H H' → Q (.int 2) H') : t_l_kind K A C a E { nx := fun _ H' => Q .non H', rt := Q } (start N_l_kind [.ref a]) H := by
  have x1 := X.l
  have x2 := X.s
  have x3 := X.n
  have x4 := X.p
  have x5 := X.z
  have x6 := X.d
  have x7 := X.v
  unfold t_l_kind
  walk_at "rd"
  intro u hu
  have s1 : Same H (upd H u (.lst [.bl false, .bl false, .bl true, .bl false])) := Same.new hu
  have u1 : upd H u (.lst [.bl false, .bl false, .bl true, .bl false]) u = some (.lst [.bl false, .bl false, .bl true, .bl false]) := upd_same
  generalize upd H u (.lst [.bl false, .bl false, .bl true, .bl false]) = H1 at *
  walk_at "rd"
  intro v hv
  have s2 : Same H1 (upd H1 v (.lst [.bl false, .bl false])) := Same.new hv
  have v1 : upd H1 v (.lst [.bl false, .bl false]) v = some (.lst [.bl false, .bl false]) := upd_same
  generalize upd H1 v (.lst [.bl false, .bl false]) = H2 at *
  have u2 := s2 _ _ u1
  walk_at "rd"
  intro y hy
  have s3 : Same H2 (upd H2 y (.lst ([.bl false, .bl false, .bl true, .bl false] ++ [.bl false, .bl false]))) := Same.new hy
  have y1 : upd H2 y (.lst ([.bl false, .bl false, .bl true, .bl false] ++ [.bl false, .bl false])) y = some (.lst [.bl false, .bl false, .bl true, .bl false, .bl false, .bl false]) := upd_same
  generalize upd H2 y (.lst ([.bl false, .bl false, .bl true, .bl false] ++ [.bl false, .bl false])) = H3 at *
  walk_at "rd"
  refine ⟨(rfl : ([V.bl false, V.bl false, V.bl true, V.bl false, V.bl false, V.bl false] : List V)[(2 : Nat)]? = some (V.bl true)), rfl, fun m z' hm hz' => ?_, ?_⟩
  · match m, hm, hz' with
    | 0, _, hz' => cases hz'; rfl
    | 1, _, hz' => cases hz'; rfl
  exact q _ ((s1.trans s2).trans s3)
theorem rd_kind_3 (X : IsX K A C false false false true false false) (q : ∀ H', Same H H' → Q (.int 3) H') : t_l_kind K A C a E { nx := fun _ H' => Q .non H', rt := Q } (start N_l_kind [.ref a]) H := by
  have x1 := X.l
  have x2 := X.s
  have x3 := X.n
  have x4 := X.p
  have x5 := X.z
  have x6 := X.d
  have x7 := X.v
  unfold t_l_kind
  walk_at "rd"
  intro u hu
  have s1 : Same H (upd H u (.lst [.bl false, .bl false, .bl false, .bl true])) := Same.new hu
  have u1 : upd H u (.lst [.bl false, .bl false, .bl false, .bl true]) u = some (.lst [.bl false, .bl false, .bl false, .bl true]) := upd_same
  generalize upd H u (.lst [.bl false, .bl false, .bl false, .bl true]) = H1 at *
  walk_at "rd"
  intro v hv
  have s2 : Same H1 (upd H1 v (.lst [.bl false, .bl false])) := Same.new hv
  have v1 : upd H1 v (.lst [.bl false, .bl false]) v = some (.lst [.bl false, .bl false]) := upd_same
  generalize upd H1 v (.lst [.bl false, .bl false]) = H2 at *
  have u2 := s2 _ _ u1
  walk_at "rd"
  intro y hy
  have s3 : Same H2 (upd H2 y (.lst ([.bl false, .bl false, .bl false, .bl true] ++ [.bl false, .bl false]))) := Same.new hy
  have y1 : upd H2 y (.lst ([.bl false, .bl false, .bl false, .bl true] ++ [.bl false, .bl false])) y = some (.lst [.bl false, .bl false, .bl false, .bl true, .bl false, .bl false]) := upd_same
  generalize upd H2 y (.lst ([.bl false, .bl false, .bl false, .bl true] ++ [.bl false, .bl false])) = H3 at *
  walk_at "rd"
  refine ⟨(rfl : ([V.bl false, V.bl false, V.bl false, V.bl true, V.bl false, V.bl false] : List V)[(3 : Nat)]? = some (V.bl true)), rfl, fun m z' hm hz' => ?_, ?_⟩
  · match m, hm, hz' with
    | 0, _, hz' => cases hz'; rfl
    | 1, _, hz' => cases hz'; rfl
    | 2, _, hz' => cases hz'; rfl
  exact q _ ((s1.trans s2).trans s3)
theorem rd_kind_4 (X : IsX K A C false false false false true false) (q : ∀ H', Same H H' → Q (.int 4) H') : t_l_kind K A C a E { nx := fun _ H' => Q .non H', rt := Q } (start N_l_kind [.ref a]) H := by
  have x1 := X.l
  have x2 := X.s
  have x3 := X.n
  have x4 := X.p
  have x5 := X.z
  have x6 := X.d
  have x7 := X.v
  unfold t_l_kind
  walk_at "rd"
  intro u hu
  have s1 : Same H (upd H u (.lst [.bl false, .bl false, .bl false, .bl false])) := Same.new hu
  have u1 : upd H u (.lst [.bl false, .bl false, .bl false, .bl false]) u = some (.lst [.bl false, .bl false, .bl false, .bl false]) := upd_same
  generalize upd H u (.lst [.bl false, .bl false, .bl false, .bl false]) = H1 at *
  walk_at "rd"
  intro v hv
  have s2 : Same H1 (upd H1 v (.lst [.bl true, .bl false])) := Same.new hv
  have v1 : upd H1 v (.lst [.bl true, .bl false]) v = some (.lst [.bl true, .bl false]) := upd_same
  generalize upd H1 v (.lst [.bl true, .bl false]) = H2 at *
  have u2 := s2 _ _ u1
  walk_at "rd"
  intro y hy
  have s3 : Same H2 (upd H2 y (.lst ([.bl false, .bl false, .bl false, .bl false] ++ [.bl true, .bl false]))) := Same.new hy
  have y1 : upd H2 y (.lst ([.bl false, .bl false, .bl false, .bl false] ++ [.bl true, .bl false])) y = some (.lst [.bl false, .bl false, .bl false, .bl false, .bl true, .bl false]) := upd_same
  generalize upd H2 y (.lst ([.bl false, .bl false, .bl false, .bl false] ++ [.bl true, .bl false])) = H3 at *
  walk_at "rd"
  refine ⟨(rfl : ([V.bl false, V.bl false, V.bl false, V.bl false, V.bl true, V.bl false] : List V)[(4 : Nat)]? = some (V.bl true)), rfl, fun m z' hm hz' => ?_, ?_⟩
  · match m, hm, hz' with
    | 0, _, hz' => cases hz'; rfl
    | 1, _, hz' => cases hz'; rfl
    | 2, _, hz' => cases hz'; rfl
    | 3, _, hz' => cases hz'; rfl
  exact q _ ((s1.trans s2).trans s3)
theorem rd_kind_5 (X : IsX K A C false false false false false true) (q : ∀ H', Same H H' → Q (.int 5) H') : t_l_kind K A C a E { nx := fun _ H' => Q .non H', rt := Q } (start N_l_kind [.ref a]) H := by
  have x1 := X.l
  have x2 := X.s
  have x3 := X.n
  have x4 := X.p
  have x5 := X.z
  have x6 := X.d
  have x7 := X.v
  unfold t_l_kind
  walk_at "rd"
  intro u hu
  have s1 : Same H (upd H u (.lst [.bl false, .bl false, .bl false, .bl false])) := Same.new hu
  have u1 : upd H u (.lst [.bl false, .bl false, .bl false, .bl false]) u = some (.lst [.bl false, .bl false, .bl false, .bl false]) := upd_same
  generalize upd H u (.lst [.bl false, .bl false, .bl false, .bl false]) = H1 at *
  walk_at "rd"
  intro v hv
  have s2 : Same H1 (upd H1 v (.lst [.bl false, .bl true])) := Same.new hv
  have v1 : upd H1 v (.lst [.bl false, .bl true]) v = some (.lst [.bl false, .bl true]) := upd_same
  generalize upd H1 v (.lst [.bl false, .bl true]) = H2 at *
  have u2 := s2 _ _ u1
  walk_at "rd"
  intro y hy
  have s3 : Same H2 (upd H2 y (.lst ([.bl false, .bl false, .bl false, .bl false] ++ [.bl false, .bl true]))) := Same.new hy
  have y1 : upd H2 y (.lst ([.bl false, .bl false, .bl false, .bl false] ++ [.bl false, .bl true])) y = some (.lst [.bl false, .bl false, .bl false, .bl false, .bl false, .bl true]) := upd_same
  generalize upd H2 y (.lst ([.bl false, .bl false, .bl false, .bl false] ++ [.bl false, .bl true])) = H3 at *
  walk_at "rd"
  refine ⟨(rfl : ([V.bl false, V.bl false, V.bl false, V.bl false, V.bl false, V.bl true] : List V)[(5 : Nat)]? = some (V.bl true)), rfl, fun m z' hm hz' => ?_, ?_⟩
  · match m, hm, hz' with
    | 0, _, hz' => cases hz'; rfl
    | 1, _, hz' => cases hz'; rfl
    | 2, _, hz' => cases hz'; rfl
    | 3, _, hz' => cases hz'; rfl
    | 4, _, hz' => cases hz'; rfl
  exact q _ ((s1.trans s2).trans s3)
theorem rd_l_kind (h : sp_l_kind K A C a vs H Q E) : t_l_kind K A C a E { nx := fun _ H' => Q .non H', rt := Q } (start N_l_kind vs) H := by
  obtain ⟨j, rfl, hj, X, q⟩ := h
  match j, hj, X, q with
  | 0, _, X, q => exact rd_kind_0 X q
  | 1, _, X, q => exact rd_kind_1 X q
  | 2, _, X, q => exact rd_kind_2 X q
  | 3, _, X, q => exact rd_kind_3 X q
  | 4, _, X, q => exact rd_kind_4 X q
  | 5, _, X, q => exact rd_kind_5 X q
end
end FW

namespace FW
open PySem PySem.Spec PyProof.Rows L2
section
variable {K : PySem.W.Frag} {A : Ad} {vs : List V} {H : Hp} {Q : VK} {E : XK}
theorem rd_l_links_by (h : sp_l_links_by K A vs H Q E) : t_l_links_by K A E { nx := fun _ H' => Q .non H', rt := Q } (start N_l_links_by vs) H := by
  obtain ⟨a, ns, n, rfl, hS, hl, n9, q⟩ := h
  unfold t_l_links_by
  walk_at "rd"
  intro R hR
  have s1 : Same H (upd H R (.lst [])) := Same.new hR
  have sd1 : Same H (del (upd H R (.lst [])) R) := by rw [del_new hR]; exact Same.refl _
  have r1 : upd H R (.lst []) R = some (.lst []) := upd_same
  generalize upd H R (.lst []) = H1 at *
  show t_l_links_by_s1 K A E _ [some (.ref a), some (.int 5), some (.int (n : Nat)), some (.ref R), none] H1
  unfold t_l_links_by_s1
  walk_at "rd"
  refine ite_d (fun c0 => ?_) (fun c0 => ?_)
  · walk_at "rd"
    exact q R [] [] H1 (fun x m => by cases m) (Nat.zero_le _) s1 hR r1 .nil
  have n1 : 1 ≤ n := by
    have : ¬ (n : Int) = 0 := fun z => c0 (congrArg V.int z)
    omega
  show t_l_links_by_s2 K A E _ [some (.ref a), some (.int 5), some (.int (n : Nat)), some (.ref R), none] H1
  unfold t_l_links_by_s2
  have hS1 := s1.seq hS
  obtain ⟨J, hJ, hJ2⟩ : ∃ J : Int, (if (200 : Int) < ((ns.map V.int).length : Int) then 200 else ((ns.map V.int).length : Int)) - 1 = J ∧ J = (ns.length : Int) - 1 := by
    refine ⟨_, rfl, ?_⟩
    rw [List.length_map, if_neg (by omega)]
  have all0 : AllLk n [] := fun x m => by cases m
  obtain ⟨nn, rg, rk, rn⟩ := rgc2 (i := 5) (j := J) (by omega) (by omega) (by omega) (by omega)
  have rg' : RgC 5 ((if (200 : Int) < ((ns.map V.int).length : Int) then 200 else ((ns.map V.int).length : Int)) - 1) 2 nn := by rw [hJ]; exact rg
  walk_at "rd"
  refine for_rangeC (lo := 5) (c := 2) (n := nn) (fun i σ H' => Hold (∃ (o4 : Option V) (xs : List V) (ls : List (Int × Int)), σ = [some (.ref a), some (.int 5), some (.int (n : Nat)), some (.ref R), o4] ∧ Same H (del H' R) ∧ H' R = some (.lst xs) ∧ IPairL (del H' R) xs ls ∧ AllLk n ls ∧ ls.length ≤ i)) ⟨none, [], [], rfl, sd1, r1, .nil, all0, Nat.le_refl _⟩ ?_ ?_
  · rintro i σ H' hi ⟨o4, xs, ls, rfl, s, r, lp, ok, hps⟩
    have k1 := rk i hi
    have hS2 := (s.trans (del_sub _ _)).seq hS
    have e1 : atI (ns.map V.int) (5 + (i : Int) * 2) = some (.int (cell ns (5 + (i : Int) * 2))) := atI_map (by omega) (by omega)
    have e2 : atI (ns.map V.int) (5 + (i : Int) * 2 + 1) = some (.int (cell ns (5 + (i : Int) * 2 + 1))) := atI_map (by omega) (by omega)
    generalize cell ns (5 + (i : Int) * 2) = x at *
    generalize cell ns (5 + (i : Int) * 2 + 1) = y at *
    have x0 : 0 ≤ x % (n : Int) := Int.emod_nonneg _ (by omega)
    have x1 : x % (n : Int) < n := Int.emod_lt_of_pos _ (by omega)
    have y0 : 0 ≤ y % (n : Int) := Int.emod_nonneg _ (by omega)
    have y1 : y % (n : Int) < n := Int.emod_lt_of_pos _ (by omega)
    have lx : xs.length ≤ 100 := by rw [lp.len]; omega
    walk_at "rd"
    refine ite_n (fun c => ?_) (fun c => ?_)
    · walk_at "rd"
      intro t ht
      have s2 : Same H' (upd H' t (.tup [.int (x % (n : Int)), .int (y % (n : Int))])) := Same.new ht
      have t1 : upd H' t (.tup [.int (x % (n : Int)), .int (y % (n : Int))]) t = some (.tup [.int (x % (n : Int)), .int (y % (n : Int))]) := upd_same
      have ntR : t ≠ R := fun e => by rw [e, r] at ht; cases ht
      generalize upd H' t (.tup [.int (x % (n : Int)), .int (y % (n : Int))]) = H2 at *
      have r2 := s2 _ _ r
      walk_at "rd"
      refine ⟨_, xs ++ [.ref t], ls ++ [(x % (n : Int), y % (n : Int))], rfl, ?_, upd_same, ?_, fun p m => ?_, by simp; omega⟩
      · rw [del_upd]
        exact s.trans (s2.del2 R)
      · rw [del_upd]
        refine (lp.same (s2.del2 R)).snoc ?_
        rw [del_ne ntR, t1]
      · rcases List.mem_append.mp m with m | m
        · exact ok p m
        · rw [List.mem_singleton.mp m]
          exact ⟨fun e => c (congrArg V.int e), x0, y0, x1, y1⟩
    · exact ⟨_, xs, ls, rfl, s, r, lp, ok, by omega⟩
  · rintro σ H' ⟨o4, xs, ls, rfl, s, r, lp, ok, hps⟩
    unfold t_l_links_by_s3
    exact ⟨_, rfl, q R xs ls H' ok (by omega) (s.trans (del_sub _ _)) hR r (lp.same (del_sub _ _))⟩
theorem rd_l_wrong (h : sp_l_wrong K A vs H Q E) : t_l_wrong K A E { nx := fun _ H' => Q .non H', rt := Q } (start N_l_wrong vs) H := by
  obtain ⟨c, n, rfl, n9, q⟩ := h
  have fin : ∀ far : Int, 0 ≤ far → t_l_wrong_s2 K A E { nx := fun _ H' => Q .non H', rt := Q } [some (.int c), some (.int (n : Nat)), some (.int far), none] H := by
    intro far hf
    have hm : (0 : Int) < (if ((n : Nat) : Int) > 1 then ((n : Nat) : Int) else 1) := by split <;> omega
    have y0 : 0 ≤ c / 24 % 2 := Int.emod_nonneg _ (by decide)
    unfold t_l_wrong_s2
    walk_at "rd"
    show t_l_wrong_s3 K A E _ [some (.int c), some (.int (n : Nat)), some (.int far), some (.int (c / 12 % (if ((n : Nat) : Int) > 1 then ((n : Nat) : Int) else 1)))] H
    unfold t_l_wrong_s3
    walk_at "rd"
    refine ite_d (fun _ => ?_) (fun _ => ?_)
    · walk_at "rd"
      intro t ht
      refine q t _ _ _ (Same.new ht) upd_same ?_
      rintro ⟨_, _, _, _, z⟩
      have z : (n : Int) + far + c / 24 % 2 < (n : Int) := z
      omega
    · show t_l_wrong_s4 K A E _ _ H
      unfold t_l_wrong_s4
      walk_at "rd"
      refine ite_d (fun _ => ?_) (fun _ => ?_)
      · walk_at "rd"
        intro t ht
        refine q t _ _ _ (Same.new ht) upd_same ?_
        rintro ⟨_, z, _⟩
        have z : 0 ≤ -1 - far := z
        omega
      · show t_l_wrong_s5 K A E _ _ H
        unfold t_l_wrong_s5
        walk_at "rd"
        intro t ht
        refine q t _ _ _ (Same.new ht) upd_same ?_
        rintro ⟨z, _⟩
        exact z rfl
  unfold t_l_wrong
  walk_at "rd"
  show t_l_wrong_s1 K A E _ [some (.int c), some (.int (n : Nat)), some (.int 0), none] H
  unfold t_l_wrong_s1
  walk_at "rd"
  refine ite_d (fun _ => ?_) (fun _ => ?_)
  · walk_at "rd"
    exact fin (10 ^ (9 : Int).toNat) (by decide)
  · exact fin 0 (Int.le_refl _)
theorem rd_l_stop (h : sp_l_stop K A vs H Q E) : t_l_stop K A E { nx := fun _ H' => Q .non H', rt := Q } (start N_l_stop vs) H := by
  obtain ⟨c, n, rfl, n9, q⟩ := h
  unfold t_l_stop
  have x0 : 0 ≤ c / 4 % 2 := Int.emod_nonneg _ (by decide)
  have x1 : c / 4 % 2 < 2 := Int.emod_lt_of_pos _ (by decide)
  walk_at "rd"
  refine ite_d (fun _ => ?_) (fun _ => ?_)
  · walk_at "rd"
    exact q _
  · walk_at "rd"
    exact q _
theorem rd_l_made (O : OkW K A) (x1 : PySem.W.exmOne K (.ref A.c_BadLink) (.ref A.c_BadLink) = some true) (h : sp_l_made K A vs H Q E) : t_l_made K A E { nx := fun _ H' => Q .non H', rt := Q } (start N_l_made vs) H := by
  obtain ⟨z, l, zones, xs, ls, rfl, hz, hl, hp, hn, hL, k1, k2⟩ := h
  unfold t_l_made
  refine ⟨_, rfl, _, rfl, fun T dx nT nd nex => ?_⟩
  have sN : Same H (upd (upd H dx (.own T)) T (.ins A.c_Web dx [])) := (Same.new nd).mut nT
  refine ⟨T, dx, z, l, zones, xs, ls, rfl, upd_same, sN.seq hz, sN.seq hl, hp.same sN, hn, hL, fun good a b H' w na nb kp => ?_, fun bad => ?_⟩
  · exact ⟨rfl, k1 good T a b H' nT (sN.free na) (sN.free nb) (fun x o e => kp x o (sN x o e) (ne_of_none e nT)) w⟩
  · exact ⟨true, x1, fun _ a ha => k2 bad _ sN, fun z => nomatch z⟩
theorem rd_l_any_refusal (O : OkW K A) (X : IsX K A A.c_BadLink true false false false false false) (h : sp_l_any_refusal K A vs H Q E) : t_l_any_refusal K A E { nx := fun _ H' => Q .non H', rt := Q } (start N_l_any_refusal vs) H := by
  obtain ⟨z, l, zones, xs, ls, rfl, hz, hl, hp, hn, hL, bad, q⟩ := h
  unfold t_l_any_refusal
  refine ⟨_, rfl, _, rfl, fun T dx nT nd nex => ?_⟩
  have sN : Same H (upd (upd H dx (.own T)) T (.ins A.c_Web dx [])) := (Same.new nd).mut nT
  refine ⟨T, dx, z, l, zones, xs, ls, rfl, upd_same, sN.seq hz, sN.seq hl, hp.same sN, hn, hL, fun good => absurd good bad, fun _ => was X.x X.c fun a ha => ?_⟩
  refine ⟨_, rfl, 0, rfl, by decide, X, fun H1 s1 => ?_⟩
  walk_at "rd"
  exact q H1 (sN.trans s1)
end
end FW

namespace FW
open PySem PySem.Spec PyProof.Rows L2
section
variable {K : PySem.W.Frag} {A : Ad} {vs : List V} {H : Hp} {Q : VK} {E : XK}
theorem rd_l_fields (O : OkW K A) (h : sp_l_fields K A vs H Q E) : t_l_fields K A E { nx := fun _ H' => Q .non H', rt := Q } (start N_l_fields vs) H := by
  obtain ⟨T, a, b, z, l, zones, xs, ls, rfl, w, all, hz, hl, hp, q⟩ := h
  obtain ⟨dx, ob⟩ := w.ob
  have wz := w.hz
  obtain ⟨ys, wl, wp⟩ := w.hl
  have cl := O.cl
  have nZ := O.nZ
  have nL := O.nL
  have e1 := webF_z a b
  have e2 := webF_l a b
  unfold t_l_fields
  walk_at "rd"
  show t_l_fields_s1 K A E _ [some (.ref T), some (.ref z), some (.ref l), none] H
  unfold t_l_fields_s1
  walk_at "rd"
  refine for_list (K := K) (a := b) (xs := ys) (fun i σ H' => Hold (∃ o : Option V, σ = [some (.ref T), some (.ref z), some (.ref l), o] ∧ H' = H)) ⟨none, rfl, rfl⟩ (fun i σ H' _ ⟨_, _, e⟩ => by rw [e]; exact SqL.of wl) ?_ ?_
  · rintro i x σ H' hx ⟨o, rfl, rfl⟩
    obtain ⟨u, v, t, hi, rfl, ht⟩ := wp.get hx
    walk_at "rd"
    exact ⟨_, rfl, rfl⟩
  · rintro σ H' ⟨o, rfl, rfl⟩
    unfold t_l_fields_s2
    walk_at "rd"
    refine eqD_yes (dp_ints (SqL.of wz)) (dp_ints hz) (shp_ints _) (by decide) ?_
    walk_at "rd"
    exact eqD_yes (dp_ip (SqL.of wl) (ip_of all wp)) (dp_ip hl hp) (shp_ip _) (by decide) q
theorem rd_asked_stop {T a : Addr} {i s g : Int} {Dn : Ends} (X : IsX K A A.c_BadStop false true false false false false) (q : ∀ H', Same H H' → Dn.rt (.bl true) H') :
    (tSeq (tIfS (tTest (tOp rEq (tCallE (sp_l_kind K A) A.c_BadStop a (tCons (tVar 4) (tNil))) (tC (.int 2)))) (tRet (tC (.bl false))) (tNext))
      (tRet (tOrT K (tOp rEq (tCallE (sp_l_kind K A) A.c_BadStop a (tCons (tVar 4) (tNil))) (tC (.int 1))) (tC .non)))) Dn [some (.ref T), some (.int i), some (.int s), some (.int g), some (.ref a)] H := by
  refine ⟨_, rfl, 1, rfl, by decide, X, fun H1 s1 => ?_⟩
  walk_at "rd1"
  walk_at "rd1"
  walk_at "rd1"
  refine ⟨_, rfl, 1, rfl, by decide, X, fun H2 s2 => ?_⟩
  walk_at "rd"
  exact q H2 (s1.trans s2)
theorem rd_asked_way {T a : Addr} {i s g : Int} {Dn : Ends} (X : IsX K A A.c_NoWay false false true false false false) (q : ∀ H', Same H H' → Dn.rt (.bl false) H') :
    (tSeq (tIfS (tTest (tOp rEq (tCallE (sp_l_kind K A) A.c_NoWay a (tCons (tVar 4) (tNil))) (tC (.int 2)))) (tRet (tC (.bl false))) (tNext))
      (tRet (tOrT K (tOp rEq (tCallE (sp_l_kind K A) A.c_NoWay a (tCons (tVar 4) (tNil))) (tC (.int 1))) (tC .non)))) Dn [some (.ref T), some (.int i), some (.int s), some (.int g), some (.ref a)] H := by
  refine ⟨_, rfl, 2, rfl, by decide, X, fun H1 s1 => ?_⟩
  walk_at "rd"
  exact q H1 s1
theorem rd_l_asked (O : OkW K A) (XS : IsX K A A.c_BadStop false true false false false false) (XN : IsX K A A.c_NoWay false false true false false false) (h : sp_l_asked K A vs H Q E) : t_l_asked K A E { nx := fun _ H' => Q .non H', rt := Q } (start N_l_asked vs) H := by
  obtain ⟨T, zones, links, i, s, g, rfl, w, q⟩ := h
  obtain ⟨a', b', wa⟩ := id w
  obtain ⟨dx, ob⟩ := wa.ob
  have cl := O.cl
  have no1 : (webF a' b').lookup ("levels" : Str) = none := webF_no a' b' (by decide +kernel) (by decide +kernel)
  have no2 : (webF a' b').lookup ("fewest" : Str) = none := webF_no a' b' (by decide +kernel) (by decide +kernel)
  have no3 : (webF a' b').lookup ("way" : Str) = none := webF_no a' b' (by decide +kernel) (by decide +kernel)
  have fine : ∀ H1, ¬ lost zones i s g → Same H H1 → Q (.bl false) H1 := fun H1 hl s1 => q false H1 ⟨fun z => (by cases z), fun z => absurd z hl⟩ s1
  have gone : ∀ H1, lost zones i s g → Same H H1 → Q (.bl true) H1 := fun H1 hl s1 => q true H1 ⟨fun _ => hl, fun _ => rfl⟩ s1
  unfold t_l_asked
  walk_at "rd"
  refine ite_d (fun c => ?_) (fun c => ?_)
  · have c : i = 0 := V.int.inj c
    have lo : lost zones i s g ↔ ¬ InR zones s := by unfold lost; rw [if_pos c]
    refine ⟨_, rfl, T, dx, _, rfl, ob, no1, _, rfl, T, zones, links, s, rfl, w, fun iz l F H1 s1 _ _ _ => ?_, fun nz => was XS.x XS.c fun a ha => rd_asked_stop XS fun H' s' => gone H' (lo.mpr nz) s'⟩
    show t_l_asked_s1 K A E _ _ H1
    unfold t_l_asked_s1
    exact fine H1 (fun z => lo.mp z iz) s1
  have c0 : ¬ i = 0 := fun z => c (congrArg V.int z)
  have lo : lost zones i s g ↔ ¬ (InR zones s ∧ InR zones g) := by unfold lost; rw [if_neg c0]
  walk_at "rd"
  refine ite_d (fun c => ?_) (fun c => ?_)
  · refine ⟨_, rfl, T, dx, _, rfl, ob, no2, _, rfl, _, rfl, T, zones, links, s, g, rfl, w, fun iz ig F H1 s1 r => ⟨fun c u e => ?_, fun e => was XN.x XN.c fun a ha => rd_asked_way XN fun H' s' => fine H' (fun z => lo.mp z ⟨iz, ig⟩) (s1.trans s')⟩, fun nz => was XS.x XS.c fun a ha => rd_asked_stop XS fun H' s' => gone H' (lo.mpr nz) s'⟩
    show t_l_asked_s1 K A E _ _ H1
    unfold t_l_asked_s1
    exact fine H1 (fun z => lo.mp z ⟨iz, ig⟩) s1
  · refine ⟨_, rfl, T, dx, _, rfl, ob, no3, _, rfl, _, rfl, T, zones, links, s, g, rfl, w, fun iz ig F H1 s1 r => ⟨fun e l H2 row s2 _ _ _ _ _ _ _ => ?_, fun e => was XN.x XN.c fun a ha => rd_asked_way XN fun H' s' => fine H' (fun z => lo.mp z ⟨iz, ig⟩) (s1.trans s')⟩, fun nz => was XS.x XS.c fun a ha => rd_asked_stop XS fun H' s' => gone H' (lo.mpr nz) s'⟩
    show t_l_asked_s1 K A E _ _ H2
    unfold t_l_asked_s1
    exact fine H2 (fun z => lo.mp z ⟨iz, ig⟩) (s1.trans s2)
end
end FW

namespace FW
open PySem PySem.Spec PyProof.Rows L2
section
variable {K : PySem.W.Frag} {A : Ad} {vs : List V} {H : Hp} {Q : VK} {E : XK}
theorem rd_l_cell_at (h : sp_l_cell_at K A vs H Q E) : t_l_cell_at K A E { nx := fun _ H' => Q .non H', rt := Q } (start N_l_cell_at vs) H := by
  obtain ⟨a, ns, k, rfl, hS, h0, q⟩ := h
  unfold t_l_cell_at
  walk_at "rd"
  rw [List.length_map]
  refine ite_d (fun c => ?_) (fun c => ?_)
  · have e : atI (ns.map V.int) k = some (.int (cell ns k)) := atI_map h0 c
    walk_at "rd"
    exact q
  · have e : cell ns k = 0 := by
      unfold cell
      rw [List.getD_eq_getElem?_getD, List.getElem?_eq_none (by omega)]
      rfl
    rw [e] at q
    exact q
end
end FW

namespace FW
open PySem PySem.Spec PyProof.Rows L2
theorem lc_rangeP2 {lo : Int} {n : Nat} {g : TG} {tt : TT} {te : TE} {vs : List Nat} {σ : L2.St} {H1 : Hp} {D : Addr} {Qd : Hp → Prop} (hD : H1 D = none) (hn : n ≤ 50000) (P : Nat → V → Hp → Prop) (hP : ∀ i y H H', P i y H → Same H H' → P i y H')
    (hs : ∀ (i : Nat) (H' : Hp), i < n → Same H1 H' → H' D ≠ none → ∀ (G : V → Hp → Prop) (N : Hp → Prop), (∀ y H'', P i y (del H'' D) → Same H' H'' → G y H'') →
      g (.int (lo + i)) (wipe σ vs) H' fun σ2 H2 => wipe σ2 vs = wipe σ vs ∧ tt σ2 H2 fun b H3 => if b = true then te σ2 H3 G else N H3)
    (hd : ∀ H'' ys, Same H1 (del H'' D) → H'' D = some (.lst ys) → ys.length = n → (∀ (i : Nat) y, ys[i]? = some y → P i y (del H'' D)) → Qd H'') :
    ∃ W : Nat → Nat → Hp → Prop, (∃ m, W 0 m (upd H1 D (.lst []))) ∧ ∀ i m H, W i m H →
      ((Itr lo n).stop i H ∧ Qd H) ∨ ((Itr lo n).go i H ∧ ∃ Nx : Hp → Prop, (∀ H', Nx H' → ∃ m', m' < m ∧ W (i + 1) m' H') ∧ ∀ x H', (Itr lo n).yld i H x H' → g x (wipe σ vs) H' fun σ2 H2 => wipe σ2 vs = wipe σ vs ∧ tt σ2 H2 fun b H3 =>
        if b = true then te σ2 H3 fun y H4 => ∃ acc, H4 D = some (.lst acc) ∧ acc.length < sizeLine ∧ Nx (upd H4 D (.lst (acc ++ [y]))) else Nx H3) := by
  refine lc_range (fun i H' => Same H1 (del H' D) ∧ ∃ ys, H' D = some (.lst ys) ∧ ys.length = i ∧ ∀ (j : Nat) y, ys[j]? = some y → P j y (del H' D)) ⟨by rw [del_new hD]; exact Same.refl _, [], upd_same, rfl, fun j y h => by simp at h⟩ (fun i H' hi ⟨p1, ys, p2, p3, p4⟩ => ?_) (fun H' ⟨p1, ys, p2, p3, p4⟩ => hd H' ys p1 p2 p3 p4)
  refine hs i H' hi (p1.trans (del_sub _ _)) (by rw [p2]; intro z; cases z) _ _ (fun y H'' hy s => ⟨_, s _ _ p2, small_lt (by omega), p1.trans (by rw [del_upd]; exact s.del2 D), ys ++ [y], upd_same, by simp [p3], fun j z hz => ?_⟩)
  rw [del_upd]
  by_cases e : j < ys.length
  · rw [List.getElem?_append_left e] at hz
    exact hP _ _ _ _ (p4 j z hz) (s.del2 D)
  · rw [List.getElem?_append_right (by omega)] at hz
    have e0 : j - ys.length = 0 := by
      cases q : j - ys.length with
      | zero => rfl
      | succ m => rw [q] at hz; simp at hz
    rw [e0] at hz
    have ez : y = z := Option.some.inj hz
    have ej : j = i := by omega
    rw [← ez, ej]
    exact hy
theorem Rch.sameV {zones : List Int} {links : List (Nat × Nat)} {start : Nat} {F G : Fnd} (hF : Rch zones links start F) (hG : Rch zones links start G) : F.map lvV = G.map lvV := lv_same (hF.same hG)
section
variable {K : PySem.W.Frag} {A : Ad} {vs : List V} {H : Hp} {Q : VK} {E : XK}
theorem rd_law13 {T a : Addr} {o2 o3 o4 o5 o7 o8 : Option V} {n : Nat} {ns zones : List Int} {links : List (Nat × Nat)} {Dn : Ends} (hS : SqL K H a (ns.map V.int)) (w : Web A H T zones links) (hn : zones.length = n) (n9 : n ≤ 9) (q : ∀ H', Dn.rt (.bl true) H') :
    t_law_s13 K A E Dn [some (.ref a), some (.int (n : Nat)), o2, o3, o4, o5, some (.ref T), o7, o8, none, none, none, none, none] H := by
  unfold t_law_s13
  walk_at "rd"
  intro s
  show t_law_s14 K A E Dn [some (.ref a), some (.int (n : Nat)), o2, o3, o4, o5, some (.ref T), o7, o8, some (.int s), none, none, none, none] H
  unfold t_law_s14
  walk_at "rd"
  intro g
  show t_law_s15 K A E Dn [some (.ref a), some (.int (n : Nat)), o2, o3, o4, o5, some (.ref T), o7, o8, some (.int s), some (.int g), none, none, none] H
  unfold t_law_s15
  have inS : InR zones s ↔ (0 ≤ s ∧ s < (n : Int)) := by unfold InR; rw [hn]
  have inG : InR zones g ↔ (0 ≤ g ∧ g < (n : Int)) := by unfold InR; rw [hn]
  have fin : ∀ (b1 b2 : Bool) (L : Addr) (H1 : Hp), (b1 = true ↔ ¬ InR zones s) → (b2 = true ↔ ¬ (InR zones s ∧ InR zones g)) → Same H H1 → H1 L = some (.lst [.bl b1, .bl b2]) →
      t_law_s16 K A E Dn [some (.ref a), some (.int (n : Nat)), o2, o3, o4, o5, some (.ref T), o7, o8, some (.int s), some (.int g), some (.ref L), none, none] H1 := by
    intro b1 b2 L H1 h1 h2 s1 hL
    unfold t_law_s16
    walk_at "rd"
    refine for_range (lo := 0) (fun i σ H' => Hold (∃ (o12 : Option V), σ = [some (.ref a), some (.int (n : Nat)), o2, o3, o4, o5, some (.ref T), o7, o8, some (.int s), some (.int g), some (.ref L), o12, none] ∧ Same H1 H')) ⟨none, rfl, Same.refl _⟩ ?_ ?_
    · rintro i σ H' hi ⟨o12, rfl, s2⟩
      have hi : i < 3 := hi
      have w2 := (w.same s1).same s2
      have hL2 := s2 _ _ hL
      refine ⟨_, rfl, _, rfl, _, rfl, _, rfl, T, zones, links, 0 + (i : Int), s, g, rfl, w2, fun b H3 hb s3 => ?_⟩
      have hL3 := s3 _ _ hL2
      have hat : atI ([.bl b1, .bl b2] : List V) (if (1 : Int) < 0 + (i : Int) then 1 else 0 + (i : Int)) = some (.bl b) := by
        by_cases c : i = 0
        · subst c
          have e : b = b1 := by
            rw [Bool.eq_iff_iff, hb, h1]
            unfold lost
            rw [if_pos (show (0 : Int) + ((0 : Nat) : Int) = 0 from rfl)]
          rw [e]
          rfl
        · have e : b = b2 := by
            rw [Bool.eq_iff_iff, hb, h2]
            unfold lost
            rw [if_neg (by omega)]
          rw [e]
          have e1 : (if (1 : Int) < 0 + (i : Int) then (1 : Int) else 0 + (i : Int)) = 1 := by split <;> omega
          rw [e1]
          rfl
      walk_at "rd"
      exact ⟨_, rfl, s2.trans s3⟩
    · rintro σ H' ⟨o12, rfl, s2⟩
      unfold t_law_s17
      exact q H'
  walk_at "rd"
  refine ite_d (fun c => ?_) (fun c => ?_)
  · have c' : s < 0 := c
    have ns : ¬ InR zones s := fun z => by have := z.1; omega
    walk_at "rd"
    intro L hL
    exact fin true true L _ ⟨fun _ => ns, fun _ => rfl⟩ ⟨fun _ => fun z => ns z.1, fun _ => rfl⟩ (Same.new hL) upd_same
  · have c' : ¬ s < 0 := c
    walk_at "rd"
    refine ite_d (fun c2 => ?_) (fun c2 => ?_)
    · have c2' : (n : Int) ≤ s := c2
      have ns : ¬ InR zones s := fun z => by have := (inS.mp z).2; omega
      walk_at "rd"
      intro L hL
      exact fin _ true L _ ⟨fun _ => ns, fun _ => decide_eq_true c2⟩ ⟨fun _ => fun z => ns z.1, fun _ => rfl⟩ (Same.new hL) upd_same
    · have c2' : ¬ (n : Int) ≤ s := c2
      have ys : InR zones s := inS.mpr ⟨by omega, by omega⟩
      walk_at "rd"
      refine ite_d (fun c3 => ?_) (fun c3 => ?_)
      · have c3' : g < 0 := c3
        have ng : ¬ InR zones g := fun z => by have := z.1; omega
        walk_at "rd"
        intro L hL
        exact fin _ true L _ ⟨fun z => absurd (of_decide_eq_true z) c2, fun z => absurd ys z⟩ ⟨fun _ => fun z => ng z.2, fun _ => rfl⟩ (Same.new hL) upd_same
      · have c3' : ¬ g < 0 := c3
        walk_at "rd"
        intro L hL
        refine fin _ _ L _ ⟨fun z => absurd (of_decide_eq_true z) c2, fun z => absurd ys z⟩ ⟨fun z => ?_, fun z => ?_⟩ (Same.new hL) upd_same
        · have z : (n : Int) ≤ g := of_decide_eq_true z
          exact fun y => by have := (inG.mp y.2).2; omega
        · refine decide_eq_true ?_
          show (n : Int) ≤ g
          by_cases e : (n : Int) ≤ g
          · exact e
          · exact absurd ⟨ys, inG.mpr ⟨by omega, by omega⟩⟩ z
end
end FW

namespace FW
open PySem PySem.Spec PyProof.Rows L2
section
variable {K : PySem.W.Frag} {A : Ad} {vs : List V} {H : Hp} {Q : VK} {E : XK}
/-- each value is a list of levels from the stop of its place -/
def LevP (zones : List Int) (links : List (Nat × Nat)) (i : Nat) (y : V) (H : Hp) : Prop := ∃ (l : Addr) (F : Fnd), y = .ref l ∧ H l = some (.lst (F.map lvV)) ∧ Rch zones links i F
theorem levP_same {zones : List Int} {links : List (Nat × Nat)} (i : Nat) (y : V) (H H' : Hp) (h : LevP zones links i y H) (s : Same H H') : LevP zones links i y H' := let ⟨l, F, e, h, r⟩ := h; ⟨l, F, e, s _ _ h, r⟩
/-- told again: the same data -/
theorem lev_data {zones : List Int} {links : List (Nat × Nat)} {n : Nat} {x1 x2 : List V} {d1 d2 : Addr} (h1 : SqL K H d1 x1) (h2 : SqL K H d2 x2) (l1 : x1.length = n) (l2 : x2.length = n) (p1 : ∀ (i : Nat) y, x1[i]? = some y → LevP zones links i y H) (p2 : ∀ (i : Nat) y, x2[i]? = some y → LevP zones links i y H) :
    ∃ ds : List PyData, Dp K H (.ref d1) (.list ds) ∧ Dp K H (.ref d2) (.list ds) ∧ Shp 2 (.list ds) := by
  have ex : ∀ i : Nat, ∃ F : Fnd, i < n → ∃ (l : Addr), x1[i]? = some (.ref l) ∧ H l = some (.lst (F.map lvV)) ∧ Rch zones links i F := fun i => by
    by_cases c : i < n
    · obtain ⟨y, hy⟩ := get_some (l := x1) (i := i) (by omega)
      obtain ⟨l, F, e, h, r⟩ := p1 i y hy
      exact ⟨F, fun _ => ⟨l, by rw [hy, e], h, r⟩⟩
    · exact ⟨[], fun z => absurd z c⟩
  let G : Nat → Fnd := fun i => Classical.choose (ex i)
  have hG : ∀ i, i < n → ∃ (l : Addr), x1[i]? = some (.ref l) ∧ H l = some (.lst ((G i).map lvV)) ∧ Rch zones links i (G i) := fun i => Classical.choose_spec (ex i)
  have at_ : ∀ (i : Nat) d, ((List.range n).map fun i => PyData.list ((G i).map lvD))[i]? = some d → i < n ∧ d = .list ((G i).map lvD) := fun i d h => by
    rw [List.getElem?_map] at h
    obtain ⟨k, hk, e⟩ := Option.map_eq_some_iff.mp h
    obtain ⟨hi, e2⟩ := List.getElem?_eq_some_iff.mp hk
    rw [List.length_range] at hi
    rw [List.getElem_range] at e2
    subst e2
    exact ⟨hi, e.symm⟩
  refine ⟨(List.range n).map fun i => PyData.list ((G i).map lvD), .lst h1 (dpAll_ix (by rw [List.length_map, List.length_range, l1]) fun i x d hx hd => ?_), .lst h2 (dpAll_ix (by rw [List.length_map, List.length_range, l2]) fun i x d hx hd => ?_), ?_⟩
  · obtain ⟨hi, rfl⟩ := at_ i d hd
    obtain ⟨l, e, h, r⟩ := hG i hi
    rw [hx] at e
    cases e
    exact dp_lv (SqL.of h)
  · obtain ⟨hi, rfl⟩ := at_ i d hd
    obtain ⟨_, _, _, r1⟩ := hG i hi
    obtain ⟨l, F, rfl, h, r⟩ := p2 i x hx
    rw [r.sameV r1] at h
    exact dp_lv (SqL.of h)
  · refine Shp.list fun d hd => ?_
    obtain ⟨i, _, rfl⟩ := List.mem_map.mp hd
    exact shp_lv _
theorem dels_updJ {G : Hp} {hs : List Addr} {x : Addr} {o : HO} (h : x ∈ hs) : dels (upd G x o) hs = dels G hs := by
  funext b
  by_cases c : b ∈ hs
  · rw [dels_in c, dels_in c]
  · rw [dels_out c, dels_out c, upd_ne (fun z => c (by rw [z]; exact h))]
theorem rd_law12 (O : OkW K A) {T a b s0 Z L D : Addr} {o4 o5 o8 : Option V} {n : Nat} {ns zones : List Int} {lxs xs : List V} {ls : List (Int × Int)} {Dn : Ends} (hS : SqL K H s0 (ns.map V.int)) (w : WebAt A H T a b zones (ls.map natP)) (all : AllLk zones.length ls) (hn : zones.length = n) (n9 : n ≤ 9) (hz : SqL K H Z (zones.map V.int)) (hl : SqL K H L lxs) (hp : IPairL H lxs ls)
    (hD : SqL K H D xs) (xl : xs.length = n) (pD : ∀ (i : Nat) y, xs[i]? = some y → LevP zones (ls.map natP) i y H) (q : ∀ H', Dn.rt (.bl true) H') :
    t_law_s12 K A E Dn [some (.ref s0), some (.int (n : Nat)), some (.ref Z), some (.ref L), o4, o5, some (.ref T), some (.ref D), o8, none, none, none, none, none] H := by
  unfold t_law_s12
  refine ⟨_, rfl, _, rfl, _, rfl, T, a, b, Z, L, zones, lxs, ls, rfl, w, all, hz, hl, hp, ?_⟩
  obtain ⟨dx, ob⟩ := w.ob
  have cl := O.cl
  have no1 : (webF a b).lookup ("levels" : Str) = none := webF_no a b (by decide +kernel) (by decide +kernel)
  walk_at "rd"
  intro D2 hD2
  refine lc_rangeP2 hD2 (by omega) (LevP zones (ls.map natP)) levP_same ?_ ?_
  · intro i H1 hi s1 hne G N hG
    have hi : i < n := by omega
    have ob1 := s1 _ _ ob
    have w1 : Web A H1 T zones (ls.map natP) := ⟨_, _, w.same s1⟩
    walk_at "rd"
    refine ⟨fun _ l F H2 s2 hl0 hl2 r => ?_, fun c => absurd ⟨by omega, by omega⟩ c⟩
    have e0 : (0 + (i : Int)).toNat = i := by omega
    rw [e0] at r
    refine hG _ _ ⟨l, F, rfl, ?_, r⟩ s2
    rw [del_ne (fun z => by rw [z] at hl0; exact hne hl0)]
    exact hl2
  · intro H1 ys s1 d1 yl pys
    have s1' := s1.trans (del_sub _ _)
    have yl : ys.length = n := by omega
    obtain ⟨ds, g1, g2, g3⟩ := lev_data (K := K) (SqL.of d1) (s1'.seq hD) yl xl (fun i y h => levP_same i y _ _ (pys i y h) (del_sub _ _)) (fun i y h => levP_same i y _ _ (pD i y h) s1')
    refine ⟨_, rfl, neD_no g1 g2 g3 (by decide) ?_⟩
    walk_at "rd"
    exact rd_law13 (s1'.seq hS) ⟨_, _, w.same s1'⟩ hn n9 q
theorem rd_law8 (O : OkW K A) {T a b s0 Z L z2 l2 Hd : Addr} {n : Nat} {ns zones : List Int} {lxs : List V} {ls : List (Int × Int)} {Dn : Ends} (n9 : n ≤ 9) (ll : ls.length ≤ 100)
    (hz2 : H z2 = some (.lst (zones.map V.int))) (hl2 : H l2 = some (.lst lxs)) (nzl : z2 ≠ l2) (hS : SqL K (dels H [z2, l2]) s0 (ns.map V.int)) (w : WebAt A (dels H [z2, l2]) T a b zones (ls.map natP)) (all : AllLk zones.length ls) (hn : zones.length = n)
    (hz : SqL K (dels H [z2, l2]) Z (zones.map V.int)) (hl : SqL K (dels H [z2, l2]) L lxs) (hp : IPairL (dels H [z2, l2]) lxs ls) (hH : dels H [z2, l2] Hd = some (.lst [.ref z2, .ref l2])) (q : ∀ H', Dn.rt (.bl true) H') :
    t_law_s8 K A E Dn [some (.ref s0), some (.int (n : Nat)), some (.ref Z), some (.ref L), some (.bl true), some (.ref Hd), some (.ref T), none, none, none, none, none, none, none] H := by
  unfold t_law_s8
  have sub := dels_sub H [z2, l2]
  have hHH := sub _ _ hH
  have hzH := sub.seq hz
  have hlH := sub.seq hl
  have hpH := hp.same sub
  have a0 : atI ([.ref z2, .ref l2] : List V) 0 = some (.ref z2) := rfl
  have a1 : atI ([.ref z2, .ref l2] : List V) 1 = some (.ref l2) := rfl
  walk_at "rd"
  refine neD_no (dp_ints (SqL.of hz2)) (dp_ints hzH) (shp_ints _) (by decide) ?_
  walk_at "rd"
  refine neD_no (dp_ip (SqL.of hl2) hpH) (dp_ip hlH hpH) (shp_ip _) (by decide) ?_
  walk_at "rd"
  show t_law_s9 K A E Dn [some (.ref s0), some (.int (n : Nat)), some (.ref Z), some (.ref L), some (.bl true), some (.ref Hd), some (.ref T), none, none, none, none, none, none, none] H
  unfold t_law_s9
  obtain ⟨dx, obB⟩ := w.ob
  have ob := sub _ _ obB
  have wH := w.same sub
  have cl := O.cl
  have no1 : (webF a b).lookup ("levels" : Str) = none := webF_no a b (by decide +kernel) (by decide +kernel)
  walk_at "rd"
  intro D hD
  refine lc_rangeP2 hD (by omega) (fun i y G => LevP zones (ls.map natP) i y (dels G [z2, l2])) (fun i y G G' h s => levP_same i y _ _ h (s.dels2 _)) ?_ ?_
  · intro i H1 hi s1 hne G N hG
    have hi : i < n := by omega
    have ob1 := s1 _ _ ob
    have w1 : Web A H1 T zones (ls.map natP) := ⟨_, _, wH.same s1⟩
    have hz1 := s1 _ _ hz2
    have hl1 := s1 _ _ hl2
    walk_at "rd"
    refine ⟨fun _ l F H2 s2 hl0 hl2' r => ?_, fun c => absurd ⟨by omega, by omega⟩ c⟩
    have e0 : (0 + (i : Int)).toNat = i := by omega
    rw [e0] at r
    refine hG _ _ ⟨l, F, rfl, ?_, r⟩ s2
    rw [dels_out (fun m => by
      rcases List.mem_cons.mp m with e | m
      · rw [e, hz1] at hl0; cases hl0
      · rw [List.mem_singleton.mp m, hl1] at hl0; cases hl0), del_ne (fun z => by rw [z] at hl0; exact hne hl0)]
    exact hl2'
  · intro H1 xs s1 d1 xl px
    have xl : xs.length = n := by omega
    have s1' := s1.trans (del_sub _ _)
    have nDz : D ≠ z2 := fun e => by rw [e, hz2] at hD; cases hD
    have nDl : D ≠ l2 := fun e => by rw [e, hl2] at hD; cases hD
    have sB := s1'.dels2 [z2, l2]
    have dB : dels H1 [z2, l2] D = some (.lst xs) := by
      rw [dels_out (fun m => by
        rcases List.mem_cons.mp m with e | m
        · exact nDz e
        · exact nDl (List.mem_singleton.mp m))]
      exact d1
    have hz1 := s1' _ _ hz2
    have hl1 := s1' _ _ hl2
    have pB : ∀ (i : Nat) y, xs[i]? = some y → LevP zones (ls.map natP) i y (dels H1 [z2, l2]) := fun i y h => levP_same i y _ _ (px i y h) ((del_sub _ _).dels2 _)
    have hH1 := s1' _ _ hHH
    show t_law_s10 K A E Dn [some (.ref s0), some (.int (n : Nat)), some (.ref Z), some (.ref L), some (.bl true), some (.ref Hd), some (.ref T), some (.ref D), none, none, none, none, none, none] H1
    unfold t_law_s10
    have zl9 : zones.length ≤ 9 := by omega
    walk_at "rd"
    have lx := hp.len
    show t_law_s11 K A E Dn [some (.ref s0), some (.int (n : Nat)), some (.ref Z), some (.ref L), some (.bl true), some (.ref Hd), some (.ref T), some (.ref D), none, none, none, none, none, none] (upd H1 z2 (.lst (zones.map V.int ++ [.int 7])))
    have hz3 : upd H1 z2 (.lst (zones.map V.int ++ [.int 7])) z2 = some (.lst ((zones ++ [7]).map V.int)) := by rw [upd_same, List.map_append]; rfl
    have hl3 : upd H1 z2 (.lst (zones.map V.int ++ [.int 7])) l2 = some (.lst lxs) := by rw [upd_ne (fun z => nzl z.symm)]; exact hl1
    have eB : dels (upd H1 z2 (.lst (zones.map V.int ++ [.int 7]))) [z2, l2] = dels H1 [z2, l2] := dels_updJ List.mem_cons_self
    generalize upd H1 z2 (.lst (zones.map V.int ++ [.int 7])) = H3 at *
    have sB3 : Same (dels H1 [z2, l2]) (dels H3 [z2, l2]) := by rw [eB]; exact Same.refl _
    have hHB := sB _ _ hH
    unfold t_law_s11
    walk_at "rd"
    refine for_range (lo := 1) (fun i σ H' => Hold (∃ (o8 : Option V) (ys : List Int) (lx : List V), σ = [some (.ref s0), some (.int (n : Nat)), some (.ref Z), some (.ref L), some (.bl true), some (.ref Hd), some (.ref T), some (.ref D), o8, none, none, none, none, none] ∧
      H' z2 = some (.lst (ys.map V.int)) ∧ ys.length = n + 1 ∧ H' l2 = some (.lst lx) ∧ lx.length ≤ 100 + i ∧ Same (dels H1 [z2, l2]) (dels H' [z2, l2]))) ⟨none, zones ++ [7], lxs, rfl, hz3, by rw [List.length_append, hn]; rfl, hl3, by omega, sB3⟩ ?_ ?_
    · rintro i σ H' hi ⟨o8, ys, lx, rfl, g1, g2, g3, g4, g5⟩
      have hi : i < ((n : Int) - 1).toNat := hi
      have hH' := (dels_sub _ _) _ _ (g5 _ _ hHB)
      unfold t_law_b1
      walk_at "rd"
      intro t ht
      have st : Same H' (upd H' t (.tup [.int (1 + (i : Int)), .int 0])) := Same.new ht
      have g1' := st _ _ g1
      have g3' := st _ _ g3
      have hHt := st _ _ hH'
      have g5' := g5.trans (st.dels2 _)
      generalize upd H' t (.tup [.int (1 + (i : Int)), .int 0]) = H4 at *
      walk_at "rd"
      have eI : ixN (ys.map V.int).length (1 + (i : Int)) = some (1 + (i : Int)).toNat := by
        rw [List.length_map, g2]
        unfold ixN
        rw [if_pos (by omega), if_pos (by omega)]
      have k1 : upd H4 l2 (.lst (lx ++ [.ref t])) z2 = some (.lst (ys.map V.int)) := by rw [upd_ne nzl]; exact g1'
      have k2 : upd H4 l2 (.lst (lx ++ [.ref t])) Hd = some (.lst [.ref z2, .ref l2]) := by
        have nH : Hd ≠ l2 := fun e => by
          have := (dels_get hH).2
          rw [e] at this
          exact this (by simp)
        rw [upd_ne nH]
        exact hHt
      have k3 : upd H4 l2 (.lst (lx ++ [.ref t])) l2 = some (.lst (lx ++ [.ref t])) := upd_same
      have eB4 : dels (upd H4 l2 (.lst (lx ++ [.ref t]))) [z2, l2] = dels H4 [z2, l2] := dels_updJ (by simp)
      show t_law_b1_s1 K A E _ [some (.ref s0), some (.int (n : Nat)), some (.ref Z), some (.ref L), some (.bl true), some (.ref Hd), some (.ref T), some (.ref D), some (.int (1 + (i : Int))), none, none, none, none, none] (upd H4 l2 (.lst (lx ++ [.ref t])))
      generalize upd H4 l2 (.lst (lx ++ [.ref t])) = H5 at *
      unfold t_law_b1_s1
      walk_at "rd"
      refine ⟨_, ys.set (1 + (i : Int)).toNat (10 ^ (9 : Int).toNat + (1 + (i : Int))), lx ++ [.ref t], rfl, ?_, by rw [List.length_set]; exact g2, ?_, by rw [List.length_append, List.length_singleton]; omega, ?_⟩
      · rw [upd_same, List.map_set]
      · rw [upd_ne (fun z => nzl z.symm)]
        exact k3
      · rw [dels_updJ List.mem_cons_self, eB4]
        exact g5'
    · rintro σ H' ⟨o8, ys, lx, rfl, g1, g2, g3, g4, g5⟩
      have s9 := sB.trans g5
      have s9' := s9.trans (dels_sub _ _)
      have g5' := g5.trans (dels_sub _ _)
      exact rd_law12 O (s9'.seq hS) (w.same s9') all hn n9 (s9'.seq hz) (s9'.seq hl) (hp.same s9') (g5'.seq (SqL.of dB)) xl (fun i y h => levP_same i y _ _ (pB i y h) g5') q
theorem rd_law5 (O : OkW K A) {s0 Z L : Addr} {n : Nat} {ns zones : List Int} {lxs : List V} {ls : List (Int × Int)} {good : Bool} {Dn : Ends} (n9 : n ≤ 9) (ll : ls.length ≤ 100) (hS : SqL K H s0 (ns.map V.int)) (hn : zones.length = n) (hz : H Z = some (.lst (zones.map V.int))) (hl : H L = some (.lst lxs)) (hp : IPairL H lxs ls)
    (hg : good = true ↔ AllLk n ls) (q : ∀ H', Dn.rt (.bl true) H') :
    t_law_s5 K A E Dn [some (.ref s0), some (.int (n : Nat)), some (.ref Z), some (.ref L), some (.bl good), none, none, none, none, none, none, none, none, none] H := by
  unfold t_law_s5
  have lx := hp.len
  walk_at "rd"
  intro z2 nz2
  have s1 : Same H (upd H z2 (.lst (zones.map V.int))) := Same.new nz2
  have g1 : upd H z2 (.lst (zones.map V.int)) z2 = some (.lst (zones.map V.int)) := upd_same
  generalize upd H z2 (.lst (zones.map V.int)) = H1 at *
  have hl1 := s1 _ _ hl
  walk_at "rd"
  intro l2 nl2
  have s2 : Same H1 (upd H1 l2 (.lst lxs)) := Same.new nl2
  have g2 : upd H1 l2 (.lst lxs) l2 = some (.lst lxs) := upd_same
  have nzl : z2 ≠ l2 := fun e => by rw [e] at g1; rw [g1] at nl2; cases nl2
  generalize upd H1 l2 (.lst lxs) = H2 at *
  walk_at "rd"
  intro Hd nHd
  have s3 : Same H2 (upd H2 Hd (.lst [.ref z2, .ref l2])) := Same.new nHd
  have g3 : upd H2 Hd (.lst [.ref z2, .ref l2]) Hd = some (.lst [.ref z2, .ref l2]) := upd_same
  generalize upd H2 Hd (.lst [.ref z2, .ref l2]) = H3 at *
  have z3 := s3 _ _ (s2 _ _ g1)
  have l3 := s3 _ _ g2
  have nHz : Hd ≠ z2 := fun e => by rw [e] at nHd; rw [s2 _ _ g1] at nHd; cases nHd
  have nHl : Hd ≠ l2 := fun e => by rw [e] at nHd; rw [g2] at nHd; cases nHd
  have s03 := (s1.trans s2).trans s3
  have nl2H : H l2 = none := s1.free nl2
  show t_law_s6 K A E Dn [some (.ref s0), some (.int (n : Nat)), some (.ref Z), some (.ref L), some (.bl good), some (.ref Hd), none, none, none, none, none, none, none, none] H3
  unfold t_law_s6
  have a0 : atI ([.ref z2, .ref l2] : List V) 0 = some (.ref z2) := rfl
  have a1 : atI ([.ref z2, .ref l2] : List V) 1 = some (.ref l2) := rfl
  have gq := SqL.of (K := K) g3
  refine ⟨_, rfl, Hd, _, _, _, rfl, rfl, gq, a0, _, rfl, Hd, _, _, _, rfl, rfl, gq, a1, z2, l2, zones, lxs, ls, rfl, SqL.of z3, SqL.of l3, hp.same s03, by omega, by omega, fun all T a b H4 nT na nb s4 w => ?_, fun bad H4 s4 => ?_⟩
  · have eg : good = true := hg.mpr (by rw [← hn]; exact all)
    subst eg
    show t_law_s7 K A E Dn [some (.ref s0), some (.int (n : Nat)), some (.ref Z), some (.ref L), some (.bl true), some (.ref Hd), some (.ref T), none, none, none, none, none, none, none] H4
    unfold t_law_s7
    walk_at "rd"
    have sd : Same H (dels H4 [z2, l2]) := (s03.trans s4).delsN fun x m => by
      rcases List.mem_cons.mp m with e | m
      · rw [e]; exact nz2
      · rw [List.mem_singleton.mp m]; exact nl2H
    have z4 := s4 _ _ z3
    have l4 := s4 _ _ l3
    have out : ∀ x : Addr, H3 x = none → x ∉ [z2, l2] := fun x hx m => by
      rcases List.mem_cons.mp m with e | m
      · rw [e, z3] at hx; cases hx
      · rw [List.mem_singleton.mp m, l3] at hx; cases hx
    have wB : WebAt A (dels H4 [z2, l2]) T a b zones (ls.map natP) := by
      obtain ⟨⟨dx, ob⟩, wz, ⟨ys, wl, wp⟩, ok⟩ := w
      refine ⟨⟨dx, by rw [dels_out (out T nT)]; exact ob⟩, by rw [dels_out (out a na)]; exact wz, ⟨ys, by rw [dels_out (out b nb)]; exact wl, PairL.nt (fun x us hx => ?_) wp⟩, ok⟩
      rw [dels_out (fun m => by
        rcases List.mem_cons.mp m with e | m
        · rw [e, z4] at hx; cases hx
        · rw [List.mem_singleton.mp m, l4] at hx; cases hx)]
      exact hx
    refine rd_law8 O n9 ll z4 l4 nzl (sd.seq hS) wB all hn (sd.seq (SqL.of hz)) (sd.seq (SqL.of hl)) (hp.same sd) ?_ q
    rw [dels_out (fun m => by
      rcases List.mem_cons.mp m with e | m
      · exact nHz e
      · exact nHl (List.mem_singleton.mp m))]
    exact s4 _ _ g3
  · have eg : good = false := by
      cases good with
      | false => rfl
      | true => exact absurd (hg.mp rfl) (by rw [← hn]; exact bad)
    subst eg
    show t_law_s7 K A E Dn [some (.ref s0), some (.int (n : Nat)), some (.ref Z), some (.ref L), some (.bl false), some (.ref Hd), some .non, none, none, none, none, none, none, none] H4
    unfold t_law_s7
    have s04 := s03.trans s4
    have hz4 := s04 _ _ hz
    have hl4 := s04 _ _ hl
    have hp4 := hp.same s04
    walk_at "rd"
    intro z5 nz5
    have s5 : Same H4 (upd H4 z5 (.lst (zones.map V.int))) := Same.new nz5
    have e5 : upd H4 z5 (.lst (zones.map V.int)) z5 = some (.lst (zones.map V.int)) := upd_same
    generalize upd H4 z5 (.lst (zones.map V.int)) = H5 at *
    have hl5 := s5 _ _ hl4
    walk_at "rd"
    intro l6 nl6
    have s6 : Same H5 (upd H5 l6 (.lst lxs)) := Same.new nl6
    have e6 : upd H5 l6 (.lst lxs) l6 = some (.lst lxs) := upd_same
    generalize upd H5 l6 (.lst lxs) = H6 at *
    have e56 := s6 _ _ e5
    refine ⟨z5, l6, zones, lxs, ls, rfl, SqL.of e56, SqL.of e6, hp4.same (s5.trans s6), by omega, by omega, bad, fun H7 s7 => q H7⟩
theorem rd_law (O : OkW K A) (h : sp_law K A vs H Q E) : t_law K A E { nx := fun _ H' => Q .non H', rt := Q } (start N_law vs) H := by
  obtain ⟨a, ns, rfl, hS, hl, q⟩ := h
  unfold t_law
  walk_at "rd"
  have b0 : 0 ≤ cell ns 0 % 10 := Int.emod_nonneg _ (by decide)
  have b1 : cell ns 0 % 10 < 10 := Int.emod_lt_of_pos _ (by decide)
  obtain ⟨n, en⟩ : ∃ n : Nat, cell ns 0 % 10 = (n : Int) := ⟨(cell ns 0 % 10).toNat, by omega⟩
  have n9 : n ≤ 9 := by omega
  show t_law_s1 K A E _ [some (.ref a), some (.int (cell ns 0 % 10)), none, none, none, none, none, none, none, none, none, none, none, none] H
  rw [en]
  clear b0 b1 en
  show t_law_s1 K A E _ [some (.ref a), some (.int (n : Nat)), none, none, none, none, none, none, none, none, none, none, none, none] H
  unfold t_law_s1
  walk_at "rd"
  intro Z hZ
  refine lc_rangeF hZ (by omega) (fun k => some (V.int (cell ns (5 + (k : Int))))) ?_ ?_
  · intro k H2 hk s2 G N2 hG hN
    walk_at "rd"
    rw [Int.zero_add]
    exact hG _ _ rfl (Same.refl _)
  · intro H1 s1 z1
    rw [fm_some] at z1
    have z1 : H1 Z = some (.lst (((List.range n).map fun (k : Nat) => cell ns (5 + (k : Int))).map V.int)) := by rw [z1, List.map_map]; rfl
    have hzl : ((List.range n).map fun (k : Nat) => cell ns (5 + (k : Int))).length = n := by rw [List.length_map, List.length_range]
    generalize ((List.range n).map fun (k : Nat) => cell ns (5 + (k : Int))) = zones at *
    have s1' := s1.trans (del_sub _ _)
    have hS1 := s1'.seq hS
    show t_law_s2 K A E _ [some (.ref a), some (.int (n : Nat)), some (.ref Z), none, none, none, none, none, none, none, none, none, none, none] H1
    unfold t_law_s2
    walk_at "rd"
    intro L xs ls H2 all hll s2 hL0 hL hp
    have lx := hp.len
    have hS2 := s2.seq hS1
    have z2 := s2 _ _ z1
    show t_law_s3 K A E _ [some (.ref a), some (.int (n : Nat)), some (.ref Z), some (.ref L), none, none, none, none, none, none, none, none, none, none] H2
    unfold t_law_s3
    walk_at "rd"
    show t_law_s4 K A E _ [some (.ref a), some (.int (n : Nat)), some (.ref Z), some (.ref L), some (.bl (decide (V.int (cell ns 1 % 2) = V.int 0))), none, none, none, none, none, none, none, none, none] H2
    generalize decide (V.int (cell ns 1 % 2) = V.int 0) = good at *
    unfold t_law_s4
    cases good with
    | true =>
      walk_at "rd"
      exact rd_law5 O n9 (by omega) hS2 hzl z2 hL hp ⟨fun _ => all, fun _ => rfl⟩ q
    | false =>
      have z0 : 0 ≤ cell ns 1 / 2 % ((xs.length : Int) + 1) := Int.emod_nonneg _ (by omega)
      have zb : cell ns 1 / 2 % ((xs.length : Int) + 1) < (xs.length : Int) + 1 := Int.emod_lt_of_pos _ (by omega)
      have zm : (0 : Int) < (xs.length : Int) + 1 := by omega
      walk_at "rd"
      intro t x y H3 s3 ht bad
      have zc : cell ns 1 / 2 % ((xs.length : Int) + 1) < 2 ^ 63 := by omega
      have hL3 := s3 _ _ hL
      have hp3 := hp.same s3
      have hS3 := s3.seq hS2
      have z3 := s3 _ _ z2
      walk_at "rd"
      generalize (cell ns 1 / 2 % ((xs.length : Int) + 1)).toNat = j at *
      obtain ⟨c1, c2⟩ := hp3.cut j
      have hp4 : IPairL H3 (xs.take j ++ [.ref t] ++ xs.drop j) (ls.take j ++ [(x, y)] ++ ls.drop j) := (c1.snoc ht).app c2
      have bad4 : ¬ AllLk n (ls.take j ++ [(x, y)] ++ ls.drop j) := fun h => bad (h (x, y) (by simp))
      have len4 : (ls.take j ++ [(x, y)] ++ ls.drop j).length ≤ 100 := by
        rw [List.length_append, List.length_append, List.length_take, List.length_drop, List.length_singleton]
        omega
      have sU : Same H (upd H3 L (.lst (xs.take j ++ [.ref t] ++ xs.drop j))) := ((s1'.trans s2).trans s3).mut (s1'.free hL0)
      have nZL : Z ≠ L := fun e => by rw [← e] at hL0; rw [z1] at hL0; cases hL0
      have z4 : upd H3 L (.lst (xs.take j ++ [.ref t] ++ xs.drop j)) Z = some (.lst (zones.map V.int)) := by rw [upd_ne nZL]; exact z3
      have hp5 : IPairL (upd H3 L (.lst (xs.take j ++ [.ref t] ++ xs.drop j))) (xs.take j ++ [.ref t] ++ xs.drop j) (ls.take j ++ [(x, y)] ++ ls.drop j) := IPairL.nt (fun u us hu => by rw [upd_ne (ne_of hu hL3 (by intro z; cases z))]; exact hu) hp4
      exact rd_law5 O n9 len4 (sU.seq hS) hzl z4 upd_same hp5 ⟨fun e => (by cases e), fun e => absurd e bad4⟩ q
end
end FW

namespace FW
open PySem PySem.Spec PyProof.Rows L2
theorem units65 {k : Nat} {A : Around} (r : Room k A) : A.units + 65 < cLine := by
  have h := r.un
  omega
def topS (i : Nat) : Stmt := PySem.Challenge.pw_fareweb_k05_stops_that_are_not_there.main.body.getD i (.Pass ⟨0, 0, 0, 0⟩)
abbrev s_Web_init : Stmt := inClass (topS 9) 0
abbrev s_Web_need : Stmt := inClass (topS 9) 1
abbrev s_Web_beside : Stmt := inClass (topS 9) 2
abbrev s_Web_spread : Stmt := inClass (topS 9) 3
abbrev s_Web_reached : Stmt := inClass (topS 9) 4
abbrev s_Web_levels : Stmt := inClass (topS 9) 5
abbrev s_Web_fewest : Stmt := inClass (topS 9) 6
abbrev s_Web_way : Stmt := inClass (topS 9) 7
abbrev s_l_cell_at : Stmt := topS 11
abbrev s_l_links_by : Stmt := topS 12
abbrev s_l_wrong : Stmt := topS 13
abbrev s_l_kind : Stmt := topS 14
abbrev s_l_made : Stmt := topS 15
abbrev s_l_any_refusal : Stmt := topS 16
abbrev s_l_asked : Stmt := topS 17
abbrev s_l_stop : Stmt := topS 18
abbrev s_l_fields : Stmt := topS 19
abbrev s_law : Stmt := topS 20
theorem sc_Web_init : FnScope N_Web_init ["self", "zones", "links"] (defScope s_Web_init) := ⟨rfl, rfl, rfl, by decide +kernel, rfl, by decide +kernel, by decide +kernel⟩
theorem sc_Web_need : FnScope N_Web_need ["self", "stop"] (defScope s_Web_need) := ⟨rfl, rfl, rfl, by decide +kernel, rfl, by decide +kernel, by decide +kernel⟩
theorem sc_Web_beside : FnScope N_Web_beside ["self", "stop"] (defScope s_Web_beside) := ⟨rfl, rfl, rfl, by decide +kernel, rfl, by decide +kernel, by decide +kernel⟩
theorem sc_Web_spread : FnScope N_Web_spread ["self", "found", "layer", "count"] (defScope s_Web_spread) := ⟨rfl, rfl, rfl, by decide +kernel, rfl, by decide +kernel, by decide +kernel⟩
theorem sc_Web_reached : FnScope N_Web_reached ["self", "start"] (defScope s_Web_reached) := ⟨rfl, rfl, rfl, by decide +kernel, rfl, by decide +kernel, by decide +kernel⟩
theorem sc_Web_levels : FnScope N_Web_levels ["self", "start"] (defScope s_Web_levels) := ⟨rfl, rfl, rfl, by decide +kernel, rfl, by decide +kernel, by decide +kernel⟩
theorem sc_Web_fewest : FnScope N_Web_fewest ["self", "start", "goal"] (defScope s_Web_fewest) := ⟨rfl, rfl, rfl, by decide +kernel, rfl, by decide +kernel, by decide +kernel⟩
theorem sc_Web_way : FnScope N_Web_way ["self", "start", "goal"] (defScope s_Web_way) := ⟨rfl, rfl, rfl, by decide +kernel, rfl, by decide +kernel, by decide +kernel⟩
theorem sc_l_cell_at : FnScope N_l_cell_at ["_law_script", "_law_k"] (defScope s_l_cell_at) := ⟨rfl, rfl, rfl, by decide +kernel, rfl, by decide +kernel, by decide +kernel⟩
theorem sc_l_links_by : FnScope N_l_links_by ["_law_script", "_law_first", "_law_many"] (defScope s_l_links_by) := ⟨rfl, rfl, rfl, by decide +kernel, rfl, by decide +kernel, by decide +kernel⟩
theorem sc_l_wrong : FnScope N_l_wrong ["_law_cell", "_law_many"] (defScope s_l_wrong) := ⟨rfl, rfl, rfl, by decide +kernel, rfl, by decide +kernel, by decide +kernel⟩
theorem sc_l_kind : FnScope N_l_kind ["_law_e"] (defScope s_l_kind) := ⟨rfl, rfl, rfl, by decide +kernel, rfl, by decide +kernel, by decide +kernel⟩
theorem sc_l_made : FnScope N_l_made ["_law_zones", "_law_links"] (defScope s_l_made) := ⟨rfl, rfl, rfl, by decide +kernel, rfl, by decide +kernel, by decide +kernel⟩
theorem sc_l_any_refusal : FnScope N_l_any_refusal ["_law_zones", "_law_links"] (defScope s_l_any_refusal) := ⟨rfl, rfl, rfl, by decide +kernel, rfl, by decide +kernel, by decide +kernel⟩
theorem sc_l_asked : FnScope N_l_asked ["_law_web", "_law_sort", "_law_start", "_law_goal"] (defScope s_l_asked) := ⟨rfl, rfl, rfl, by decide +kernel, rfl, by decide +kernel, by decide +kernel⟩
theorem sc_l_stop : FnScope N_l_stop ["_law_cell", "_law_many"] (defScope s_l_stop) := ⟨rfl, rfl, rfl, by decide +kernel, rfl, by decide +kernel, by decide +kernel⟩
theorem sc_l_fields : FnScope N_l_fields ["_law_web", "_law_zones", "_law_links"] (defScope s_l_fields) := ⟨rfl, rfl, rfl, by decide +kernel, rfl, by decide +kernel, by decide +kernel⟩
theorem sc_law : FnScope N_law ["_law_script"] (defScope s_law) := ⟨rfl, rfl, rfl, by decide +kernel, rfl, by decide +kernel, by decide +kernel⟩
structure Txt (K : PySem.W.Frag) (mg : Str → Option Value) (A : Ad) where
  a_Web_init : Addr
  d_Web_init : FuncData
  F_Web_init : Fun K "__init__" "Web.__init__" s_Web_init a_Web_init d_Web_init
  b_Web_init : Binds K d_Web_init ["self", "zones", "links"] []
  M_Web : Mk K A.c_Web a_Web_init
  a_Web_need : Addr
  d_Web_need : FuncData
  F_Web_need : Fun K "need" "Web.need" s_Web_need a_Web_need d_Web_need
  b_Web_need : Binds K d_Web_need ["self", "stop"] []
  h_Web_need : Meth K A.c_Web "need" a_Web_need
  a_Web_beside : Addr
  d_Web_beside : FuncData
  F_Web_beside : Fun K "beside" "Web.beside" s_Web_beside a_Web_beside d_Web_beside
  b_Web_beside : Binds K d_Web_beside ["self", "stop"] []
  h_Web_beside : Meth K A.c_Web "beside" a_Web_beside
  a_Web_spread : Addr
  d_Web_spread : FuncData
  F_Web_spread : Fun K "spread" "Web.spread" s_Web_spread a_Web_spread d_Web_spread
  b_Web_spread : Binds K d_Web_spread ["self", "found", "layer", "count"] []
  h_Web_spread : Meth K A.c_Web "spread" a_Web_spread
  a_Web_reached : Addr
  d_Web_reached : FuncData
  F_Web_reached : Fun K "reached" "Web.reached" s_Web_reached a_Web_reached d_Web_reached
  b_Web_reached : Binds K d_Web_reached ["self", "start"] []
  h_Web_reached : Meth K A.c_Web "reached" a_Web_reached
  a_Web_levels : Addr
  d_Web_levels : FuncData
  F_Web_levels : Fun K "levels" "Web.levels" s_Web_levels a_Web_levels d_Web_levels
  b_Web_levels : Binds K d_Web_levels ["self", "start"] []
  h_Web_levels : Meth K A.c_Web "levels" a_Web_levels
  a_Web_fewest : Addr
  d_Web_fewest : FuncData
  F_Web_fewest : Fun K "fewest" "Web.fewest" s_Web_fewest a_Web_fewest d_Web_fewest
  b_Web_fewest : Binds K d_Web_fewest ["self", "start", "goal"] []
  h_Web_fewest : Meth K A.c_Web "fewest" a_Web_fewest
  a_Web_way : Addr
  d_Web_way : FuncData
  F_Web_way : Fun K "way" "Web.way" s_Web_way a_Web_way d_Web_way
  b_Web_way : Binds K d_Web_way ["self", "start", "goal"] []
  h_Web_way : Meth K A.c_Web "way" a_Web_way
  a_l_cell_at : Addr
  d_l_cell_at : FuncData
  F_l_cell_at : Fun K "_law_cell_at" "_law_cell_at" s_l_cell_at a_l_cell_at d_l_cell_at
  b_l_cell_at : Binds K d_l_cell_at ["_law_script", "_law_k"] []
  g_l_cell_at : mg "_law_cell_at" = some (.ref a_l_cell_at)
  k_l_cell_at : PySem.W.keepIn K (.ref a_l_cell_at) = true
  a_l_links_by : Addr
  d_l_links_by : FuncData
  F_l_links_by : Fun K "_law_links_by" "_law_links_by" s_l_links_by a_l_links_by d_l_links_by
  b_l_links_by : Binds K d_l_links_by ["_law_script", "_law_first", "_law_many"] []
  g_l_links_by : mg "_law_links_by" = some (.ref a_l_links_by)
  k_l_links_by : PySem.W.keepIn K (.ref a_l_links_by) = true
  a_l_wrong : Addr
  d_l_wrong : FuncData
  F_l_wrong : Fun K "_law_wrong" "_law_wrong" s_l_wrong a_l_wrong d_l_wrong
  b_l_wrong : Binds K d_l_wrong ["_law_cell", "_law_many"] []
  g_l_wrong : mg "_law_wrong" = some (.ref a_l_wrong)
  k_l_wrong : PySem.W.keepIn K (.ref a_l_wrong) = true
  a_l_kind : Addr
  d_l_kind : FuncData
  F_l_kind : Fun K "_law_kind" "_law_kind" s_l_kind a_l_kind d_l_kind
  b_l_kind : Binds K d_l_kind ["_law_e"] []
  g_l_kind : mg "_law_kind" = some (.ref a_l_kind)
  k_l_kind : PySem.W.keepIn K (.ref a_l_kind) = true
  a_l_made : Addr
  d_l_made : FuncData
  F_l_made : Fun K "_law_made" "_law_made" s_l_made a_l_made d_l_made
  b_l_made : Binds K d_l_made ["_law_zones", "_law_links"] []
  g_l_made : mg "_law_made" = some (.ref a_l_made)
  k_l_made : PySem.W.keepIn K (.ref a_l_made) = true
  a_l_any_refusal : Addr
  d_l_any_refusal : FuncData
  F_l_any_refusal : Fun K "_law_any_refusal" "_law_any_refusal" s_l_any_refusal a_l_any_refusal d_l_any_refusal
  b_l_any_refusal : Binds K d_l_any_refusal ["_law_zones", "_law_links"] []
  g_l_any_refusal : mg "_law_any_refusal" = some (.ref a_l_any_refusal)
  k_l_any_refusal : PySem.W.keepIn K (.ref a_l_any_refusal) = true
  a_l_asked : Addr
  d_l_asked : FuncData
  F_l_asked : Fun K "_law_asked" "_law_asked" s_l_asked a_l_asked d_l_asked
  b_l_asked : Binds K d_l_asked ["_law_web", "_law_sort", "_law_start", "_law_goal"] []
  g_l_asked : mg "_law_asked" = some (.ref a_l_asked)
  k_l_asked : PySem.W.keepIn K (.ref a_l_asked) = true
  a_l_stop : Addr
  d_l_stop : FuncData
  F_l_stop : Fun K "_law_stop" "_law_stop" s_l_stop a_l_stop d_l_stop
  b_l_stop : Binds K d_l_stop ["_law_cell", "_law_many"] []
  g_l_stop : mg "_law_stop" = some (.ref a_l_stop)
  k_l_stop : PySem.W.keepIn K (.ref a_l_stop) = true
  a_l_fields : Addr
  d_l_fields : FuncData
  F_l_fields : Fun K "_law_fields" "_law_fields" s_l_fields a_l_fields d_l_fields
  b_l_fields : Binds K d_l_fields ["_law_web", "_law_zones", "_law_links"] []
  g_l_fields : mg "_law_fields" = some (.ref a_l_fields)
  k_l_fields : PySem.W.keepIn K (.ref a_l_fields) = true
  a_law : Addr
  d_law : FuncData
  F_law : Fun K "law" "law" s_law a_law d_law
  b_law : Binds K d_law ["_law_script"] []
  g_law : mg "law" = some (.ref a_law)
  k_law : PySem.W.keepIn K (.ref a_law) = true
  L_Web : Cls K A.c_Web
  g_Web : mg "Web" = some (.ref A.c_Web)
  n_Web_links : NoAttr K A.c_Web "links"
  n_Web_zones : NoAttr K A.c_Web "zones"
  z_ValueError : mg "ValueError" = none
  z_isinstance : mg "isinstance" = none
  z_len : mg "len" = none
  z_list : mg "list" = none
  z_max : mg "max" = none
  z_min : mg "min" = none
  z_range : mg "range" = none
  z_reversed : mg "reversed" = none
  z_tuple : mg "tuple" = none
  g_FareError : mg "FareError" = some (.ref A.c_FareError)
  x_FareError : PySem.W.excIn K A.c_FareError [.type "ValueError", .type "Exception", .type "BaseException", .type "object"] "ValueError.__new__" = true
  k_FareError : PySem.W.keepIn K (.ref A.c_FareError) = true
  y_FareError : PySem.W.subIn K (.ref A.c_FareError) (.type "BaseException") = some true
  t_FareError : PySem.W.typeIn K (.ref A.c_FareError) = some (.type "type")
  g_BadLink : mg "BadLink" = some (.ref A.c_BadLink)
  x_BadLink : PySem.W.excIn K A.c_BadLink [.type "ValueError", .type "Exception", .type "BaseException", .type "object"] "ValueError.__new__" = true
  k_BadLink : PySem.W.keepIn K (.ref A.c_BadLink) = true
  y_BadLink : PySem.W.subIn K (.ref A.c_BadLink) (.type "BaseException") = some true
  t_BadLink : PySem.W.typeIn K (.ref A.c_BadLink) = some (.type "type")
  g_BadStop : mg "BadStop" = some (.ref A.c_BadStop)
  x_BadStop : PySem.W.excIn K A.c_BadStop [.type "ValueError", .type "Exception", .type "BaseException", .type "object"] "ValueError.__new__" = true
  k_BadStop : PySem.W.keepIn K (.ref A.c_BadStop) = true
  y_BadStop : PySem.W.subIn K (.ref A.c_BadStop) (.type "BaseException") = some true
  t_BadStop : PySem.W.typeIn K (.ref A.c_BadStop) = some (.type "type")
  g_NoWay : mg "NoWay" = some (.ref A.c_NoWay)
  x_NoWay : PySem.W.excIn K A.c_NoWay [.type "ValueError", .type "Exception", .type "BaseException", .type "object"] "ValueError.__new__" = true
  k_NoWay : PySem.W.keepIn K (.ref A.c_NoWay) = true
  y_NoWay : PySem.W.subIn K (.ref A.c_NoWay) (.type "BaseException") = some true
  t_NoWay : PySem.W.typeIn K (.ref A.c_NoWay) = some (.type "type")
  g_BadPrices : mg "BadPrices" = some (.ref A.c_BadPrices)
  x_BadPrices : PySem.W.excIn K A.c_BadPrices [.type "ValueError", .type "Exception", .type "BaseException", .type "object"] "ValueError.__new__" = true
  k_BadPrices : PySem.W.keepIn K (.ref A.c_BadPrices) = true
  y_BadPrices : PySem.W.subIn K (.ref A.c_BadPrices) (.type "BaseException") = some true
  t_BadPrices : PySem.W.typeIn K (.ref A.c_BadPrices) = some (.type "type")
  g_BadZones : mg "BadZones" = some (.ref A.c_BadZones)
  x_BadZones : PySem.W.excIn K A.c_BadZones [.type "ValueError", .type "Exception", .type "BaseException", .type "object"] "ValueError.__new__" = true
  k_BadZones : PySem.W.keepIn K (.ref A.c_BadZones) = true
  y_BadZones : PySem.W.subIn K (.ref A.c_BadZones) (.type "BaseException") = some true
  t_BadZones : PySem.W.typeIn K (.ref A.c_BadZones) = some (.type "type")
  g_PastDay : mg "PastDay" = some (.ref A.c_PastDay)
  x_PastDay : PySem.W.excIn K A.c_PastDay [.type "ValueError", .type "Exception", .type "BaseException", .type "object"] "ValueError.__new__" = true
  k_PastDay : PySem.W.keepIn K (.ref A.c_PastDay) = true
  y_PastDay : PySem.W.subIn K (.ref A.c_PastDay) (.type "BaseException") = some true
  t_PastDay : PySem.W.typeIn K (.ref A.c_PastDay) = some (.type "type")
  e1_BadLink : PySem.W.exmOne K (.ref A.c_BadLink) (.ref A.c_BadLink) = some true
  I_BadLink : IsX K A A.c_BadLink true false false false false false
  I_BadStop : IsX K A A.c_BadStop false true false false false false
  I_NoWay : IsX K A A.c_NoWay false false true false false false
theorem Txt.okW {K : PySem.W.Frag} {mg : Str → Option Value} {A : Ad} (T : Txt K mg A) : OkW K A := ⟨T.L_Web, T.n_Web_zones, T.n_Web_links⟩
section
variable {P : Program} {w : World} {K : PySem.W.Frag} {mg : Str → Option Value} {base : Heap} {A : Ad}
theorem ok_Web_init (T : Txt K mg A) : FnOk P w K mg base (L2.CX P w) 1 T.a_Web_init T.d_Web_init ["self", "zones", "links"] (sp_Web_init K A) := by
  refine T.F_Web_init.okX sc_Web_init (by unfold sp_Web_init; walk_at "len") (fun cdv B outer s H vs Q E hr h => ⟨t_Web_init K A E, ?_, rd_Web_init T.okW h⟩)
  unfold t_Web_init t_Web_init_s1 t_Web_init_s2
  exact pss_cons (ps_for (passes_of rfl) rfl (pi_list (pv 2)) (pg_tup rfl (pgs_cons (pg_name (i := 3) sc_Web_init.nd rfl (by first | exact Or.inl rfl | exact Or.inr rfl)) (pgs_cons (pg_name (i := 4) sc_Web_init.nd rfl (by first | exact Or.inl rfl | exact Or.inr rfl)) (pgs_nil)))) (pss_one (ps_if (PW.pt (pw_or (pt_cmpR op_eq (pv 3) (pv 4) (nomark _)) (pw_or (pt_cmpR op_lt (pe_callB (call_min2 rfl) (by rfl) T.z_min (by decide +kernel) (pa_cons (pv 3) (pa_cons (pv 4) (pa_nil)))) (pe_int) (nomark _)) (pw_or1 (pt_cmpR op_ge (pe_callB (call_max2 rfl) (by rfl) T.z_max (by decide +kernel) (pa_cons (pv 3) (pa_cons (pv 4) (pa_nil)))) (pe_callB call_len_seq (by rfl) T.z_len (by decide +kernel) (pa_cons (pv 1) (pa_nil))) (nomark _)))))) (pss_one (ps_raise rfl (takes_of rfl rfl rfl rfl) (pmk_own PySem.F.excBase_ValueError T.x_BadLink T.g_BadLink T.k_BadLink (raises_own T.y_BadLink T.t_BadLink) (by exact rfl)))) (pss_nil))))  (pss_cons (ps_fld (pv 0) (pe_callTy call_list_of (by rfl) T.z_list (by decide +kernel) (pa_cons (pv 1) (pa_nil))) rfl)  (pss_one (ps_fld (pv 0) (pe_lc (own := [("one", 3), ("other", 4)]) rfl sc_Web_init.nd (pi_list (pv 2)) (blkOk_by (N := N_Web_init) (sc := defScope s_Web_init) (by decide +kernel)) (fun _ _ _ _ _ => pg_tup rfl (pgs_cons (pg_name (i := 3) sc_Web_init.nd rfl (by first | exact Or.inl rfl | exact Or.inr rfl)) (pgs_cons (pg_name (i := 4) sc_Web_init.nd rfl (by first | exact Or.inl rfl | exact Or.inr rfl)) (pgs_nil)))) (fun _ _ _ _ _ => pts_nil) (fun _ _ _ _ _ => pe_tup (pa_cons (pv 3) (pa_cons (pv 4) (pa_nil))))) rfl)))
theorem ok_Web_need (T : Txt K mg A) : FnOk P w K mg base (L2.CX P w) 1 T.a_Web_need T.d_Web_need ["self", "stop"] (sp_Web_need K A) := by
  refine T.F_Web_need.okX sc_Web_need (by unfold sp_Web_need; walk_at "len") (fun cdv B outer s H vs Q E hr h => ⟨t_Web_need K A E, ?_, rd_Web_need T.okW h⟩)
  exact pss_one (ps_if (PW.pt (pw_or (pt_cmpR op_lt (pv 1) (pe_int) (nomark _)) (pw_or1 (pt_cmpR op_ge (pv 1) (pe_callB call_len_seq (by rfl) T.z_len (by decide +kernel) (pa_cons (pe_fld (pv 0) rfl) (pa_nil))) (nomark _))))) (pss_one (ps_raise rfl (takes_of rfl rfl rfl rfl) (pmk_own PySem.F.excBase_ValueError T.x_BadStop T.g_BadStop T.k_BadStop (raises_own T.y_BadStop T.t_BadStop) (by exact rfl)))) (pss_nil))
theorem ok_Web_beside (T : Txt K mg A) : FnOk P w K mg base (L2.CX P w) 1 T.a_Web_beside T.d_Web_beside ["self", "stop"] (sp_Web_beside K A) := by
  refine T.F_Web_beside.okX sc_Web_beside (by unfold sp_Web_beside; walk_at "len") (fun cdv B outer s H vs Q E hr h => ⟨t_Web_beside K A E, ?_, rd_Web_beside T.okW h⟩)
  exact pss_cons (ps_set (i := 2) sc_Web_beside.nd rfl (by first | exact Or.inl rfl | exact Or.inr rfl) (pe_lst pa_nil))  (pss_cons (ps_for (passes_of rfl) rfl (pi_list (pe_fld (pv 0) rfl)) (pg_tup rfl (pgs_cons (pg_name (i := 3) sc_Web_beside.nd rfl (by first | exact Or.inl rfl | exact Or.inr rfl)) (pgs_cons (pg_name (i := 4) sc_Web_beside.nd rfl (by first | exact Or.inl rfl | exact Or.inr rfl)) (pgs_nil)))) (pss_cons (ps_if (pt_cmpR op_eq (pv 3) (pv 1) (nomark _)) (pss_one (ps_expr (pe_bm PySem.F.plainAttrs_list PySem.F.slot_list_append PySem.F.type_list_append mt_append (pv 2) (pa_cons (pv 4) (pa_nil))))) (pss_nil))  (pss_one (ps_if (pt_cmpR op_eq (pv 4) (pv 1) (nomark _)) (pss_one (ps_expr (pe_bm PySem.F.plainAttrs_list PySem.F.slot_list_append PySem.F.type_list_append mt_append (pv 2) (pa_cons (pv 3) (pa_nil))))) (pss_nil)))))  (pss_one (ps_ret (pv 2))))
theorem ok_Web_spread (T : Txt K mg A) : FnOk P w K mg base (L2.CX P w) 2 T.a_Web_spread T.d_Web_spread ["self", "found", "layer", "count"] (sp_Web_spread K A) := by
  refine T.F_Web_spread.okX sc_Web_spread (by unfold sp_Web_spread; walk_at "len") (fun cdv B outer s H vs Q E hr h => ⟨t_Web_spread K A E, ?_, rd_Web_spread T.okW h⟩)
  unfold t_Web_spread t_Web_spread_s1 t_Web_spread_s2 t_Web_spread_s3 t_Web_spread_b1 t_Web_spread_b1_s1 t_Web_spread_b1_s2
  exact pss_cons (ps_set (i := 4) sc_Web_spread.nd rfl (by first | exact Or.inl rfl | exact Or.inr rfl) (pe_lst pa_nil))  (pss_cons (ps_set (i := 5) sc_Web_spread.nd rfl (by first | exact Or.inl rfl | exact Or.inr rfl) (pe_callTy call_list_of (by rfl) T.z_list (by decide +kernel) (pa_cons (pv 2) (pa_nil))))  (pss_cons (ps_while (passes_of rfl) (pt_truth (pv 5) (by intro _; rfl)) (pss_cons (ps_set (i := 6) sc_Web_spread.nd rfl (by first | exact Or.inl rfl | exact Or.inr rfl) (pe_bm0 PySem.F.plainAttrs_list PySem.F.slot_list_pop PySem.F.type_list_pop mt_pop (pv 5)))  (pss_cons (ps_set (i := 7) sc_Web_spread.nd rfl (by first | exact Or.inl rfl | exact Or.inr rfl) (pe_ix ix_tup (pv 6) (pe_int) (fun _ _ => rfl)))  (pss_one (ps_if (pt_cmpR op_isN (pe_ix ix_list (pv 1) (pv 7) (fun _ _ => rfl)) (pe_non) (nomark _)) (pss_cons (ps_asg (pe_tup (pa_cons (pv 3) (pa_cons (pe_ix ix_tup (pv 6) (pe_int) (fun _ _ => rfl)) (pa_nil)))) (pg_sub (pv 1) (pv 7) set_list))  (pss_one (ps_for (passes_of rfl) rfl (pi_list (pe_meth (pv 0) T.L_Web T.h_Web_beside (ok_Web_beside T) (hr.mono (by decide)) T.b_Web_beside .nil passL (pa_cons (pv 7) (pa_nil)))) (pg_name (i := 8) sc_Web_spread.nd rfl (by first | exact Or.inl rfl | exact Or.inr rfl)) (pss_one (ps_if (pt_cmpR op_eq (pe_ix ix_list (pe_fld (pv 0) rfl) (pv 8) (fun _ _ => rfl)) (pe_ix ix_list (pe_fld (pv 0) rfl) (pv 7) (fun _ _ => rfl)) (nomark _)) (pss_one (ps_expr (pe_bm PySem.F.plainAttrs_list PySem.F.slot_list_append PySem.F.type_list_append mt_append (pv 5) (pa_cons (pe_tup (pa_cons (pv 8) (pa_cons (pv 7) (pa_nil)))) (pa_nil))))) (pss_one (ps_expr (pe_bm PySem.F.plainAttrs_list PySem.F.slot_list_append PySem.F.type_list_append mt_append (pv 4) (pa_cons (pe_tup (pa_cons (pv 8) (pa_cons (pv 7) (pa_nil)))) (pa_nil)))))))))) (pss_nil))))))  (pss_one (ps_ret (pe_lc (own := [("pair", 6)]) rfl sc_Web_spread.nd (pi_list (pv 4)) (blkOk_by (N := N_Web_spread) (sc := defScope s_Web_spread) (by decide +kernel)) (fun _ _ _ _ _ => pg_name (i := 6) sc_Web_spread.nd rfl (by first | exact Or.inl rfl | exact Or.inr rfl)) (fun _ _ _ _ _ => pts_one (pt_cmpR op_isN (pe_ix ix_list (pv 1) (pe_ix ix_tup (pv 6) (pe_int) (fun _ _ => rfl)) (fun _ _ => rfl)) (pe_non) (nomark _))) (fun _ _ _ _ _ => pv 6))))))
theorem ok_Web_reached (T : Txt K mg A) : FnOk P w K mg base (L2.CX P w) 3 T.a_Web_reached T.d_Web_reached ["self", "start"] (sp_Web_reached K A) := by
  refine T.F_Web_reached.okX sc_Web_reached (by unfold sp_Web_reached; walk_at "len") (fun cdv B outer s H vs Q E hr h => ⟨t_Web_reached K A E, ?_, rd_Web_reached T.okW h⟩)
  unfold t_Web_reached t_Web_reached_s1 t_Web_reached_s2 t_Web_reached_s3 t_Web_reached_s4 t_Web_reached_s5 t_Web_reached_b1 t_Web_reached_b1_s1
  exact pss_cons (ps_expr (pe_meth (pv 0) T.L_Web T.h_Web_need (ok_Web_need T) (hr.mono (by decide)) T.b_Web_need .nil (passes_call (takes_of rfl rfl rfl rfl) (fun _ _ _ _ h => h)) (pa_cons (pv 1) (pa_nil))))  (pss_cons (ps_setLc (i := 2) (own := [("zone", 5)]) rfl sc_Web_reached.nd rfl rfl (sw_true rfl rfl rfl (by decide +kernel)) (pi_list (pe_fld (pv 0) rfl)) (blkOk_by (N := N_Web_reached) (sc := defScope s_Web_reached) (by decide +kernel)) (fun _ _ _ _ _ => pg_name (i := 5) sc_Web_reached.nd rfl (by first | exact Or.inl rfl | exact Or.inr rfl)) (fun _ _ _ _ _ => pts_nil) (fun _ _ _ _ _ => pe_non))  (pss_cons (ps_set (i := 3) sc_Web_reached.nd rfl (by first | exact Or.inl rfl | exact Or.inr rfl) (pe_lst (pa_cons (pe_tup (pa_cons (pv 1) (pa_cons (pv 1) (pa_nil)))) (pa_nil))))  (pss_cons (ps_set (i := 4) sc_Web_reached.nd rfl (by first | exact Or.inl rfl | exact Or.inr rfl) (pe_int))  (pss_cons (ps_while (passes_of rfl) (pt_truth (pv 3) (by intro _; rfl)) (pss_cons (ps_set (i := 3) sc_Web_reached.nd rfl (by first | exact Or.inl rfl | exact Or.inr rfl) (pe_meth (pv 0) T.L_Web T.h_Web_spread (ok_Web_spread T) (hr.mono (by decide)) T.b_Web_spread .nil passL (pa_cons (pv 2) (pa_cons (pv 3) (pa_cons (pv 4) (pa_nil))))))  (pss_one (ps_set (i := 4) sc_Web_reached.nd rfl (by first | exact Or.inl rfl | exact Or.inr rfl) (pe_op op_add (pv 4) (pe_int))))))  (pss_one (ps_ret (pv 2)))))))
theorem ok_Web_levels (T : Txt K mg A) : FnOk P w K mg base (L2.CX P w) 4 T.a_Web_levels T.d_Web_levels ["self", "start"] (sp_Web_levels K A) := by
  refine T.F_Web_levels.okX sc_Web_levels (by unfold sp_Web_levels; walk_at "len") (fun cdv B outer s H vs Q E hr h => ⟨t_Web_levels K A E, ?_, rd_Web_levels T.okW h⟩)
  exact pss_one (ps_ret (pe_lc (own := [("pair", 2)]) rfl sc_Web_levels.nd (pi_list (pe_meth (pv 0) T.L_Web T.h_Web_reached (ok_Web_reached T) (hr.mono (by decide)) T.b_Web_reached .nil (passes_call (takes_of rfl rfl rfl rfl) (fun _ _ _ _ h => h)) (pa_cons (pv 1) (pa_nil)))) (blkOk_by (N := N_Web_levels) (sc := defScope s_Web_levels) (by decide +kernel)) (fun _ _ _ _ _ => pg_name (i := 2) sc_Web_levels.nd rfl (by first | exact Or.inl rfl | exact Or.inr rfl)) (fun _ _ _ _ _ => pts_nil) (fun _ _ _ _ _ => pe_ifExp (pt_cmpR op_isN (pv 2) (pe_non) (nomark _)) (pe_non) (pe_ix ix_tup (pv 2) (pe_int) (fun _ _ => rfl)))))
theorem ok_Web_fewest (T : Txt K mg A) : FnOk P w K mg base (L2.CX P w) 5 T.a_Web_fewest T.d_Web_fewest ["self", "start", "goal"] (sp_Web_fewest K A) := by
  refine T.F_Web_fewest.okX sc_Web_fewest (by unfold sp_Web_fewest; walk_at "len") (fun cdv B outer s H vs Q E hr h => ⟨t_Web_fewest K A E, ?_, rd_Web_fewest T.okW h⟩)
  exact pss_cons (ps_expr (pe_meth (pv 0) T.L_Web T.h_Web_need (ok_Web_need T) (hr.mono (by decide)) T.b_Web_need .nil (passes_call (takes_of rfl rfl rfl rfl) (fun _ _ _ _ h => h)) (pa_cons (pv 2) (pa_nil))))  (pss_cons (ps_set (i := 3) sc_Web_fewest.nd rfl (by first | exact Or.inl rfl | exact Or.inr rfl) (pe_ix ix_list (pe_meth (pv 0) T.L_Web T.h_Web_levels (ok_Web_levels T) (hr.mono (by decide)) T.b_Web_levels .nil (passes_call (takes_of rfl rfl rfl rfl) (fun _ _ _ _ h => h)) (pa_cons (pv 1) (pa_nil))) (pv 2) (fun _ _ => rfl)))  (pss_cons (ps_if (pt_cmpR op_isN (pv 3) (pe_non) (nomark _)) (pss_one (ps_raise rfl (takes_of rfl rfl rfl rfl) (pmk_own PySem.F.excBase_ValueError T.x_NoWay T.g_NoWay T.k_NoWay (raises_own T.y_NoWay T.t_NoWay) (by exact rfl)))) (pss_nil))  (pss_one (ps_ret (pv 3)))))
theorem ok_Web_way (T : Txt K mg A) : FnOk P w K mg base (L2.CX P w) 4 T.a_Web_way T.d_Web_way ["self", "start", "goal"] (sp_Web_way K A) := by
  refine T.F_Web_way.okX sc_Web_way (by unfold sp_Web_way; walk_at "len") (fun cdv B outer s H vs Q E hr h => ⟨t_Web_way K A E, ?_, rd_Web_way T.okW h⟩)
  unfold t_Web_way t_Web_way_s1 t_Web_way_s2 t_Web_way_s3 t_Web_way_s4 t_Web_way_s5
  exact pss_cons (ps_expr (pe_meth (pv 0) T.L_Web T.h_Web_need (ok_Web_need T) (hr.mono (by decide)) T.b_Web_need .nil (passes_call (takes_of rfl rfl rfl rfl) (fun _ _ _ _ h => h)) (pa_cons (pv 2) (pa_nil))))  (pss_cons (ps_set (i := 3) sc_Web_way.nd rfl (by first | exact Or.inl rfl | exact Or.inr rfl) (pe_meth (pv 0) T.L_Web T.h_Web_reached (ok_Web_reached T) (hr.mono (by decide)) T.b_Web_reached .nil (passes_call (takes_of rfl rfl rfl rfl) (fun _ _ _ _ h => h)) (pa_cons (pv 1) (pa_nil))))  (pss_cons (ps_if (pt_cmpR op_isN (pe_ix ix_list (pv 3) (pv 2) (fun _ _ => rfl)) (pe_non) (nomark _)) (pss_one (ps_raise rfl (takes_of rfl rfl rfl rfl) (pmk_own PySem.F.excBase_ValueError T.x_NoWay T.g_NoWay T.k_NoWay (raises_own T.y_NoWay T.t_NoWay) (by exact rfl)))) (pss_nil))  (pss_cons (ps_set (i := 4) sc_Web_way.nd rfl (by first | exact Or.inl rfl | exact Or.inr rfl) (pe_lst (pa_cons (pv 2) (pa_nil))))  (pss_cons (ps_while (passes_of rfl) (pt_cmpR op_ne (pe_ix ix_list (pv 4) (pe_un un_neg (pe_int)) (fun _ _ => rfl)) (pv 1) (nomark _)) (pss_one (ps_expr (pe_bm PySem.F.plainAttrs_list PySem.F.slot_list_append PySem.F.type_list_append mt_append (pv 4) (pa_cons (pe_ix ix_tup (pe_ix ix_list (pv 3) (pe_ix ix_list (pv 4) (pe_un un_neg (pe_int)) (fun _ _ => rfl)) (fun _ _ => rfl)) (pe_int) (fun _ _ => rfl)) (pa_nil))))))  (pss_one (ps_ret (pe_listRev rfl (by rfl) T.z_list (by rfl) T.z_reversed (pv 4))))))))
theorem ok_l_cell_at (T : Txt K mg A) : FnOk P w K mg base (L2.CX P w) 1 T.a_l_cell_at T.d_l_cell_at ["_law_script", "_law_k"] (sp_l_cell_at K A) := by
  refine T.F_l_cell_at.okX sc_l_cell_at (by unfold sp_l_cell_at; walk_at "len") (fun cdv B outer s H vs Q E hr h => ⟨t_l_cell_at K A E, ?_, rd_l_cell_at h⟩)
  exact pss_cons (ps_if (pt_cmpR op_lt (pv 1) (pe_callB call_len_seq (by rfl) T.z_len (by decide +kernel) (pa_cons (pv 0) (pa_nil))) (nomark _)) (pss_one (ps_ret (pe_ix ix_list (pv 0) (pv 1) (fun _ _ => rfl)))) (pss_nil))  (pss_one (ps_ret (pe_int)))
theorem ok_l_links_by (T : Txt K mg A) : FnOk P w K mg base (L2.CX P w) 1 T.a_l_links_by T.d_l_links_by ["_law_script", "_law_first", "_law_many"] (sp_l_links_by K A) := by
  refine T.F_l_links_by.okX sc_l_links_by (by unfold sp_l_links_by; walk_at "len") (fun cdv B outer s H vs Q E hr h => ⟨t_l_links_by K A E, ?_, rd_l_links_by h⟩)
  unfold t_l_links_by t_l_links_by_s1 t_l_links_by_s2 t_l_links_by_s3
  exact pss_cons (ps_set (i := 3) sc_l_links_by.nd rfl (by first | exact Or.inl rfl | exact Or.inr rfl) (pe_lst pa_nil))  (pss_cons (ps_if (pt_cmpR op_eq (pv 2) (pe_int) (nomark _)) (pss_one (ps_ret (pv 3))) (pss_nil))  (pss_cons (ps_for (passes_of rfl) rfl (pi_range3 (by rfl) T.z_range (pa_cons (pv 1) (pa_cons (pe_op op_sub (pe_callB (call_min2 rfl) (by rfl) T.z_min (by decide +kernel) (pa_cons (pe_callB call_len_seq (by rfl) T.z_len (by decide +kernel) (pa_cons (pv 0) (pa_nil))) (pa_cons (pe_int) (pa_nil)))) (pe_int)) (pa_cons (pe_int) (pa_nil))))) (pg_name (i := 4) sc_l_links_by.nd rfl (by first | exact Or.inl rfl | exact Or.inr rfl)) (pss_one (ps_if (pt_cmpR op_ne (pe_op op_mod (pe_ix ix_list (pv 0) (pv 4) (fun _ _ => rfl)) (pv 2)) (pe_op op_mod (pe_ix ix_list (pv 0) (pe_op op_add (pv 4) (pe_int)) (fun _ _ => rfl)) (pv 2)) (nomark _)) (pss_one (ps_expr (pe_bm PySem.F.plainAttrs_list PySem.F.slot_list_append PySem.F.type_list_append mt_append (pv 3) (pa_cons (pe_tup (pa_cons (pe_op op_mod (pe_ix ix_list (pv 0) (pv 4) (fun _ _ => rfl)) (pv 2)) (pa_cons (pe_op op_mod (pe_ix ix_list (pv 0) (pe_op op_add (pv 4) (pe_int)) (fun _ _ => rfl)) (pv 2)) (pa_nil)))) (pa_nil))))) (pss_nil))))  (pss_one (ps_ret (pv 3)))))
theorem ok_l_wrong (T : Txt K mg A) : FnOk P w K mg base (L2.CX P w) 1 T.a_l_wrong T.d_l_wrong ["_law_cell", "_law_many"] (sp_l_wrong K A) := by
  refine T.F_l_wrong.okX sc_l_wrong (by unfold sp_l_wrong; walk_at "len") (fun cdv B outer s H vs Q E hr h => ⟨t_l_wrong K A E, ?_, rd_l_wrong h⟩)
  unfold t_l_wrong t_l_wrong_s1 t_l_wrong_s2 t_l_wrong_s3 t_l_wrong_s4 t_l_wrong_s5
  exact pss_cons (ps_set (i := 2) sc_l_wrong.nd rfl (by first | exact Or.inl rfl | exact Or.inr rfl) (pe_int))  (pss_cons (ps_if (pt_cmpR op_eq (pe_op op_mod (pe_op op_fdiv (pv 0) (pe_int)) (pe_int)) (pe_int) (nomark _)) (pss_one (ps_set (i := 2) sc_l_wrong.nd rfl (by first | exact Or.inl rfl | exact Or.inr rfl) (pe_op op_pow (pe_int) (pe_int)))) (pss_nil))  (pss_cons (ps_set (i := 3) sc_l_wrong.nd rfl (by first | exact Or.inl rfl | exact Or.inr rfl) (pe_op op_mod (pe_op op_fdiv (pv 0) (pe_int)) (pe_callB (call_max2 rfl) (by rfl) T.z_max (by decide +kernel) (pa_cons (pe_int) (pa_cons (pv 1) (pa_nil))))))  (pss_cons (ps_if (pt_cmpR op_eq (pe_op op_mod (pv 0) (pe_int)) (pe_int) (nomark _)) (pss_one (ps_ret (pe_tup (pa_cons (pv 3) (pa_cons (pe_op op_add (pe_op op_add (pv 1) (pv 2)) (pe_op op_mod (pe_op op_fdiv (pv 0) (pe_int)) (pe_int))) (pa_nil)))))) (pss_nil))  (pss_cons (ps_if (pt_cmpR op_eq (pe_op op_mod (pv 0) (pe_int)) (pe_int) (nomark _)) (pss_one (ps_ret (pe_tup (pa_cons (pe_op op_sub (pe_un un_neg (pe_int)) (pv 2)) (pa_cons (pv 3) (pa_nil)))))) (pss_nil))  (pss_one (ps_ret (pe_tup (pa_cons (pv 3) (pa_cons (pv 3) (pa_nil))))))))))
theorem ok_l_kind (T : Txt K mg A) : FnE P w K mg base (L2.CX P w) 1 T.a_l_kind T.d_l_kind ["_law_e"] (sp_l_kind K A) := by
  refine fn_okE T.F_l_kind sc_l_kind (by unfold sp_l_kind; intro C a; walk_at "len") (fun cdv B ov s H vs Q E C pe cc zc fl h => ⟨t_l_kind K A C pe.1 E, ?_, rd_l_kind h⟩)
  have mem : pe ∈ [pe] := List.mem_singleton_self _
  exact pss_cons (ps_set (i := 1) sc_l_kind.nd rfl (by first | exact Or.inl rfl | exact Or.inr rfl) (pe_lst (pa_cons (pe_callB (call_isH2 mem cc zc fl) (by rfl) T.z_isinstance (by decide +kernel) (pa_cons (pv 0) (pa_cons (pe_glob (v := .ref A.c_BadLink) rfl T.g_BadLink rfl) (pa_nil)))) (pa_cons (pe_callB (call_isH2 mem cc zc fl) (by rfl) T.z_isinstance (by decide +kernel) (pa_cons (pv 0) (pa_cons (pe_glob (v := .ref A.c_BadStop) rfl T.g_BadStop rfl) (pa_nil)))) (pa_cons (pe_callB (call_isH2 mem cc zc fl) (by rfl) T.z_isinstance (by decide +kernel) (pa_cons (pv 0) (pa_cons (pe_glob (v := .ref A.c_NoWay) rfl T.g_NoWay rfl) (pa_nil)))) (pa_cons (pe_callB (call_isH2 mem cc zc fl) (by rfl) T.z_isinstance (by decide +kernel) (pa_cons (pv 0) (pa_cons (pe_glob (v := .ref A.c_BadPrices) rfl T.g_BadPrices rfl) (pa_nil)))) (pa_nil)))))))  (pss_cons (ps_set (i := 1) sc_l_kind.nd rfl (by first | exact Or.inl rfl | exact Or.inr rfl) (pe_op op_cat (pv 1) (pe_lst (pa_cons (pe_callB (call_isH2 mem cc zc fl) (by rfl) T.z_isinstance (by decide +kernel) (pa_cons (pv 0) (pa_cons (pe_glob (v := .ref A.c_BadZones) rfl T.g_BadZones rfl) (pa_nil)))) (pa_cons (pe_callB (call_isH2 mem cc zc fl) (by rfl) T.z_isinstance (by decide +kernel) (pa_cons (pv 0) (pa_cons (pe_glob (v := .ref A.c_PastDay) rfl T.g_PastDay rfl) (pa_nil)))) (pa_nil))))))  (pss_cons (ps_if (PW.pt (pw_or (pt_not (pt_val (pe_callB (call_isH2 mem cc zc fl) (by rfl) T.z_isinstance (by decide +kernel) (pa_cons (pv 0) (pa_cons (pe_bltn (v := .ty "ValueError") (by rfl) T.z_ValueError (by decide +kernel) rfl) (pa_nil)))))) (pw_or1 (pt_cmpR op_ne (pe_bm PySem.F.plainAttrs_list PySem.F.slot_list_count PySem.F.type_list_count mt_countB (pv 1) (pa_cons (pe_bl) (pa_nil))) (pe_int) (nomark _))))) (pss_one (ps_ret (pe_un un_neg (pe_int)))) (pss_nil))  (pss_one (ps_ret (pe_bm PySem.F.plainAttrs_list PySem.F.slot_list_index PySem.F.type_list_index mt_index (pv 1) (pa_cons (pe_bl) (pa_nil)))))))
theorem ok_l_made (T : Txt K mg A) : FnOk P w K mg base (L2.CX P w) 3 T.a_l_made T.d_l_made ["_law_zones", "_law_links"] (sp_l_made K A) := by
  refine T.F_l_made.okX sc_l_made (by unfold sp_l_made; walk_at "len") (fun cdv B outer s H vs Q E hr h => ⟨t_l_made K A E, ?_, rd_l_made T.okW T.e1_BadLink h⟩)
  exact pss_one (ps_try_only (tb := fun W => tRet (tMakeS A.c_Web (sp_Web_init K A) (WE W) (tCons (tVar 0) (tCons (tVar 1) (tNil))))) (ts := fun _ _ _ => tRet (tC .non)) (Wout := fun _ _ _ _ => False) rfl rfl ⟨rfl, by decide, Or.inl T.g_BadLink⟩ takes0 (fun W pn xe tk _ => pss_one (ps_ret (pe_makeS T.M_Web (ok_Web_init T) (hr.mono (by decide)) (by rfl) T.g_Web T.b_Web_init (fun σ => passAt tk σ) (pa_cons (pv 0) (pa_cons (pv 1) (pa_nil)))))) (fun a oe cls d pn _ _ => pss_one (ps_ret (pe_non))))
theorem ok_l_any_refusal (T : Txt K mg A) : FnOk P w K mg base (L2.CX P w) 3 T.a_l_any_refusal T.d_l_any_refusal ["_law_zones", "_law_links"] (sp_l_any_refusal K A) := by
  refine T.F_l_any_refusal.okX sc_l_any_refusal (by unfold sp_l_any_refusal; walk_at "len") (fun cdv B outer s H vs Q E hr h => ⟨t_l_any_refusal K A E, ?_, rd_l_any_refusal T.okW T.I_BadLink h⟩)
  exact pss_cons (ps_try_as (i := 2) (tb := fun W => tDrop (tMakeS A.c_Web (sp_Web_init K A) (WE W) (tCons (tVar 0) (tCons (tVar 1) (tNil))))) (ts := fun a cls d => tExc K cls d (fun C => tRet (tOp rEq (tCallE (sp_l_kind K A) C a (tCons (tVar 2) (tNil))) (tC (.int 0))))) (Wout := fun _ _ _ _ => False) rfl rfl sc_l_any_refusal.nd rfl rfl ⟨rfl, by decide, Or.inl T.g_FareError⟩ takes0 (fun W pn xe tk _ => pss_one (ps_expr (pe_makeS T.M_Web (ok_Web_init T) (hr.mono (by decide)) (by rfl) T.g_Web T.b_Web_init (fun σ => passAt tk σ) (pa_cons (pv 0) (pa_cons (pv 1) (pa_nil)))))) (fun a oe cls d pn hz hf => pss_exc fun C e1 e2 hC => pss_one (ps_ret (pe_cmpR op_eq (pe_callE (pe := (a, oe)) (by exact List.mem_cons_self) hC (by rw [← e1, ← e2]; exact hz) hf (ok_l_kind T) (roomM (hr.mono (by decide))) (by rfl) T.g_l_kind T.k_l_kind T.b_l_kind passL (pa_cons (pv 2) (pa_nil))) (pe_int) (nomark _)))))  (pss_one (ps_ret (pe_bl)))
theorem ok_l_asked (T : Txt K mg A) : FnOk P w K mg base (L2.CX P w) 6 T.a_l_asked T.d_l_asked ["_law_web", "_law_sort", "_law_start", "_law_goal"] (sp_l_asked K A) := by
  refine T.F_l_asked.okX sc_l_asked (by unfold sp_l_asked; walk_at "len") (fun cdv B outer s H vs Q E hr h => ⟨t_l_asked K A E, ?_, rd_l_asked T.okW T.I_BadStop T.I_NoWay h⟩)
  unfold t_l_asked t_l_asked_s1
  exact pss_cons (ps_try_as (i := 4) (tb := fun W => tIfS (tTest (tOp rEq (tVar 1) (tC (.int 0)))) (tDrop (tMethS A.c_Web "levels" (sp_Web_levels K A) (WE W) (tVar 0) (tCons (tVar 2) (tNil)))) (tIfS (tTest (tOp rEq (tVar 1) (tC (.int 1)))) (tDrop (tMethS A.c_Web "fewest" (sp_Web_fewest K A) (WE W) (tVar 0) (tCons (tVar 2) (tCons (tVar 3) (tNil))))) (tDrop (tMethS A.c_Web "way" (sp_Web_way K A) (WE W) (tVar 0) (tCons (tVar 2) (tCons (tVar 3) (tNil))))))) (ts := fun a cls d => tExc K cls d (fun C => tSeq (tIfS (tTest (tOp rEq (tCallE (sp_l_kind K A) C a (tCons (tVar 4) (tNil))) (tC (.int 2)))) (tRet (tC (.bl false))) (tNext))  (tRet (tOrT K (tOp rEq (tCallE (sp_l_kind K A) C a (tCons (tVar 4) (tNil))) (tC (.int 1))) (tC .non))))) (Wout := fun _ _ _ _ => False) rfl rfl sc_l_asked.nd rfl rfl ⟨rfl, by decide, Or.inl T.g_FareError⟩ takes0 (fun W pn xe tk _ => pss_one (ps_if (pt_cmpR op_eq (pv 1) (pe_int) (nomark _)) (pss_one (ps_expr (pe_methS (pv 0) T.L_Web T.h_Web_levels (ok_Web_levels T) (hr.mono (by decide)) T.b_Web_levels (fun σ => passAt tk σ) (pa_cons (pv 2) (pa_nil))))) (pss_one (ps_if (pt_cmpR op_eq (pv 1) (pe_int) (nomark _)) (pss_one (ps_expr (pe_methS (pv 0) T.L_Web T.h_Web_fewest (ok_Web_fewest T) (hr.mono (by decide)) T.b_Web_fewest (fun σ => passAt tk σ) (pa_cons (pv 2) (pa_cons (pv 3) (pa_nil)))))) (pss_one (ps_expr (pe_methS (pv 0) T.L_Web T.h_Web_way (ok_Web_way T) (hr.mono (by decide)) T.b_Web_way (fun σ => passAt tk σ) (pa_cons (pv 2) (pa_cons (pv 3) (pa_nil)))))))))) (fun a oe cls d pn hz hf => pss_exc fun C e1 e2 hC => pss_cons (ps_if (pt_cmpR op_eq (pe_callE (pe := (a, oe)) (by exact List.mem_cons_self) hC (by rw [← e1, ← e2]; exact hz) hf (ok_l_kind T) (roomM (hr.mono (by decide))) (by rfl) T.g_l_kind T.k_l_kind T.b_l_kind passL (pa_cons (pv 4) (pa_nil))) (pe_int) (nomark _)) (pss_one (ps_ret (pe_bl))) (pss_nil))  (pss_one (ps_ret (pe_orT (pe_cmpR op_eq (pe_callE (pe := (a, oe)) (by exact List.mem_cons_self) hC (by rw [← e1, ← e2]; exact hz) hf (ok_l_kind T) (roomM (hr.mono (by decide))) (by rfl) T.g_l_kind T.k_l_kind T.b_l_kind passL (pa_cons (pv 4) (pa_nil))) (pe_int) (nomark _)) (pe_one (pe_non)))))))  (pss_one (ps_ret (pe_bl)))
theorem ok_l_stop (T : Txt K mg A) : FnOk P w K mg base (L2.CX P w) 1 T.a_l_stop T.d_l_stop ["_law_cell", "_law_many"] (sp_l_stop K A) := by
  refine T.F_l_stop.okX sc_l_stop (by unfold sp_l_stop; walk_at "len") (fun cdv B outer s H vs Q E hr h => ⟨t_l_stop K A E, ?_, rd_l_stop h⟩)
  exact pss_cons (ps_if (pt_cmpR op_eq (pe_op op_mod (pv 0) (pe_int)) (pe_int) (nomark _)) (pss_one (ps_ret (pe_op op_mul (pe_op op_sub (pe_op op_mul (pe_op op_mod (pe_op op_fdiv (pv 0) (pe_int)) (pe_int)) (pe_int)) (pe_int)) (pe_op op_add (pe_op op_pow (pe_int) (pe_int)) (pe_op op_mod (pe_op op_fdiv (pv 0) (pe_int)) (pe_int)))))) (pss_nil))  (pss_one (ps_ret (pe_op op_sub (pe_op op_mod (pe_op op_fdiv (pv 0) (pe_int)) (pe_op op_add (pv 1) (pe_int))) (pe_int))))
theorem ok_l_fields (T : Txt K mg A) : FnOk P w K mg base (L2.CX P w) 1 T.a_l_fields T.d_l_fields ["_law_web", "_law_zones", "_law_links"] (sp_l_fields K A) := by
  refine T.F_l_fields.okX sc_l_fields (by unfold sp_l_fields; walk_at "len") (fun cdv B outer s H vs Q E hr h => ⟨t_l_fields K A E, ?_, rd_l_fields T.okW h⟩)
  unfold t_l_fields t_l_fields_s1 t_l_fields_s2
  exact pss_cons (ps_if (PW.pt (pw_or (pt_not (pt_val (pe_callB call_isH (by rfl) T.z_isinstance (by decide +kernel) (pa_cons (pe_fld (pv 0) rfl) (pa_cons (pe_bltn (v := .ty "list") (by rfl) T.z_list (by decide +kernel) rfl) (pa_nil)))))) (pw_or1 (pt_not (pt_val (pe_callB call_isH (by rfl) T.z_isinstance (by decide +kernel) (pa_cons (pe_fld (pv 0) rfl) (pa_cons (pe_bltn (v := .ty "list") (by rfl) T.z_list (by decide +kernel) rfl) (pa_nil))))))))) (pss_one (ps_ret (pe_bl))) (pss_nil))  (pss_cons (ps_for (passes_of rfl) rfl (pi_list (pe_fld (pv 0) rfl)) (pg_name (i := 3) sc_l_fields.nd rfl (by first | exact Or.inl rfl | exact Or.inr rfl)) (pss_one (ps_if (pt_not (pt_val (pe_callB call_isH (by rfl) T.z_isinstance (by decide +kernel) (pa_cons (pv 3) (pa_cons (pe_bltn (v := .ty "tuple") (by rfl) T.z_tuple (by decide +kernel) rfl) (pa_nil)))))) (pss_one (ps_ret (pe_bl))) (pss_nil))))  (pss_one (ps_ret (pe_and (pe_cmpR (op_eqH (hr.units)) (pe_fld (pv 0) rfl) (pv 1) (nomark _)) (pe_one (pe_cmpR (op_eqH (hr.units)) (pe_fld (pv 0) rfl) (pv 2) (nomark _)))))))
theorem ok_law (T : Txt K mg A) : FnOk P w K mg base (L2.CX P w) 7 T.a_law T.d_law ["_law_script"] (sp_law K A) := by
  refine T.F_law.okX sc_law (by unfold sp_law; walk_at "len") (fun cdv B outer s H vs Q E hr h => ⟨t_law K A E, ?_, rd_law T.okW h⟩)
  unfold t_law t_law_s1 t_law_s2 t_law_s3 t_law_s4 t_law_s5 t_law_s6 t_law_s7 t_law_s8 t_law_s9 t_law_s10 t_law_s11 t_law_s12 t_law_s13 t_law_s14 t_law_s15 t_law_s16 t_law_s17 t_law_b1 t_law_b1_s1
  exact pss_cons (ps_set (i := 1) sc_law.nd rfl (by first | exact Or.inl rfl | exact Or.inr rfl) (pe_op op_mod (pe_call (ok_l_cell_at T) (hr.mono (by decide)) (by rfl) T.g_l_cell_at T.k_l_cell_at T.b_l_cell_at .nil passL (pa_cons (pv 0) (pa_cons (pe_int) (pa_nil)))) (pe_int)))  (pss_cons (ps_setLc (i := 2) (own := [("_law_k", 13)]) rfl sc_law.nd rfl rfl (sw_true rfl rfl rfl (by decide +kernel)) (pi_range1 (by rfl) T.z_range (pa_cons (pv 1) (pa_nil))) (blkOk_by (N := N_law) (sc := defScope s_law) (by decide +kernel)) (fun _ _ _ _ _ => pg_name (i := 13) sc_law.nd rfl (by first | exact Or.inl rfl | exact Or.inr rfl)) (fun _ _ _ _ _ => pts_nil) (fun _ _ _ _ _ => pe_call (ok_l_cell_at T) (hr.mono (by decide)) (by rfl) T.g_l_cell_at T.k_l_cell_at T.b_l_cell_at .nil passL (pa_cons (pv 0) (pa_cons (pe_op op_add (pe_int) (pv 13)) (pa_nil)))))  (pss_cons (ps_set (i := 3) sc_law.nd rfl (by first | exact Or.inl rfl | exact Or.inr rfl) (pe_call (ok_l_links_by T) (hr.mono (by decide)) (by rfl) T.g_l_links_by T.k_l_links_by T.b_l_links_by .nil passL (pa_cons (pv 0) (pa_cons (pe_int) (pa_cons (pv 1) (pa_nil))))))  (pss_cons (ps_set (i := 4) sc_law.nd rfl (by first | exact Or.inl rfl | exact Or.inr rfl) (pe_cmpR op_eq (pe_op op_mod (pe_call (ok_l_cell_at T) (hr.mono (by decide)) (by rfl) T.g_l_cell_at T.k_l_cell_at T.b_l_cell_at .nil passL (pa_cons (pv 0) (pa_cons (pe_int) (pa_nil)))) (pe_int)) (pe_int) (nomark _)))  (pss_cons (ps_if (pt_not (pt_val (pv 4))) (pss_one (ps_expr (pe_bm PySem.F.plainAttrs_list PySem.F.slot_list_insert PySem.F.type_list_insert mt_ins (pv 3) (pa_cons (pe_op op_mod (pe_op op_fdiv (pe_call (ok_l_cell_at T) (hr.mono (by decide)) (by rfl) T.g_l_cell_at T.k_l_cell_at T.b_l_cell_at .nil passL (pa_cons (pv 0) (pa_cons (pe_int) (pa_nil)))) (pe_int)) (pe_op op_add (pe_callB call_len_seq (by rfl) T.z_len (by decide +kernel) (pa_cons (pv 3) (pa_nil))) (pe_int))) (pa_cons (pe_call (ok_l_wrong T) (hr.mono (by decide)) (by rfl) T.g_l_wrong T.k_l_wrong T.b_l_wrong .nil passL (pa_cons (pe_call (ok_l_cell_at T) (hr.mono (by decide)) (by rfl) T.g_l_cell_at T.k_l_cell_at T.b_l_cell_at .nil passL (pa_cons (pv 0) (pa_cons (pe_int) (pa_nil)))) (pa_cons (pv 1) (pa_nil)))) (pa_nil)))))) (pss_nil))  (pss_cons (ps_set (i := 5) sc_law.nd rfl (by first | exact Or.inl rfl | exact Or.inr rfl) (pe_lst (pa_cons (pe_callTy call_list_of (by rfl) T.z_list (by decide +kernel) (pa_cons (pv 2) (pa_nil))) (pa_cons (pe_callTy call_list_of (by rfl) T.z_list (by decide +kernel) (pa_cons (pv 3) (pa_nil))) (pa_nil)))))  (pss_cons (ps_set (i := 6) sc_law.nd rfl (by first | exact Or.inl rfl | exact Or.inr rfl) (pe_call (ok_l_made T) (hr.mono (by decide)) (by rfl) T.g_l_made T.k_l_made T.b_l_made .nil passL (pa_cons (pe_ix ix_list (pv 5) (pe_int) (fun _ _ => rfl)) (pa_cons (pe_ix ix_list (pv 5) (pe_int) (fun _ _ => rfl)) (pa_nil)))))  (pss_cons (ps_if (pt_cmpR op_isN (pv 6) (pe_non) (nomark _)) (pss_one (ps_ret (pe_and (pe_not (pv 4)) (pe_one (pe_call (ok_l_any_refusal T) (hr.mono (by decide)) (by rfl) T.g_l_any_refusal T.k_l_any_refusal T.b_l_any_refusal .nil passL (pa_cons (pe_callTy call_list_of (by rfl) T.z_list (by decide +kernel) (pa_cons (pv 2) (pa_nil))) (pa_cons (pe_callTy call_list_of (by rfl) T.z_list (by decide +kernel) (pa_cons (pv 3) (pa_nil))) (pa_nil)))))))) (pss_nil))  (pss_cons (ps_if (PW.pt (pw_or (pt_not (pt_val (pv 4))) (pw_or (pt_cmpR (op_neH (hr.units)) (pe_ix ix_list (pv 5) (pe_int) (fun _ _ => rfl)) (pv 2) (nomark _)) (pw_or1 (pt_cmpR (op_neH (hr.units)) (pe_ix ix_list (pv 5) (pe_int) (fun _ _ => rfl)) (pv 3) (nomark _)))))) (pss_one (ps_ret (pe_bl))) (pss_nil))  (pss_cons (ps_setLc (i := 7) (own := [("_law_stop_here", 8)]) rfl sc_law.nd rfl rfl (sw_true rfl rfl rfl (by decide +kernel)) (pi_range1 (by rfl) T.z_range (pa_cons (pv 1) (pa_nil))) (blkOk_by (N := N_law) (sc := defScope s_law) (by decide +kernel)) (fun _ _ _ _ _ => pg_name (i := 8) sc_law.nd rfl (by first | exact Or.inl rfl | exact Or.inr rfl)) (fun _ _ _ _ _ => pts_nil) (fun _ _ _ _ _ => pe_meth (pv 6) T.L_Web T.h_Web_levels (ok_Web_levels T) (hr.mono (by decide)) T.b_Web_levels .nil passL (pa_cons (pv 8) (pa_nil))))  (pss_cons (ps_expr (pe_bm PySem.F.plainAttrs_list PySem.F.slot_list_append PySem.F.type_list_append mt_append (pe_ix ix_list (pv 5) (pe_int) (fun _ _ => rfl)) (pa_cons (pe_int) (pa_nil))))  (pss_cons (ps_for (passes_of rfl) rfl (pi_range2 (by rfl) T.z_range (pa_cons (pe_int) (pa_cons (pv 1) (pa_nil)))) (pg_name (i := 8) sc_law.nd rfl (by first | exact Or.inl rfl | exact Or.inr rfl)) (pss_cons (ps_expr (pe_bm PySem.F.plainAttrs_list PySem.F.slot_list_append PySem.F.type_list_append mt_append (pe_ix ix_list (pv 5) (pe_int) (fun _ _ => rfl)) (pa_cons (pe_tup (pa_cons (pv 8) (pa_cons (pe_int) (pa_nil)))) (pa_nil))))  (pss_one (ps_asg (pe_op op_add (pe_op op_pow (pe_int) (pe_int)) (pv 8)) (pg_sub (pe_ix ix_list (pv 5) (pe_int) (fun _ _ => rfl)) (pv 8) set_list)))))  (pss_cons (ps_if (PW.pt (pw_or (pt_not (pt_val (pe_call (ok_l_fields T) (hr.mono (by decide)) (by rfl) T.g_l_fields T.k_l_fields T.b_l_fields .nil passL (pa_cons (pv 6) (pa_cons (pv 2) (pa_cons (pv 3) (pa_nil))))))) (pw_or1 (pt_cmpR (op_neH (hr.units)) (pe_lc (own := [("_law_stop_here", 8)]) rfl sc_law.nd (pi_range1 (by rfl) T.z_range (pa_cons (pv 1) (pa_nil))) (blkOk_by (N := N_law) (sc := defScope s_law) (by decide +kernel)) (fun _ _ _ _ _ => pg_name (i := 8) sc_law.nd rfl (by first | exact Or.inl rfl | exact Or.inr rfl)) (fun _ _ _ _ _ => pts_nil) (fun _ _ _ _ _ => pe_meth (pv 6) T.L_Web T.h_Web_levels (ok_Web_levels T) (hr.mono (by decide)) T.b_Web_levels .nil passL (pa_cons (pv 8) (pa_nil)))) (pv 7) (nomark _))))) (pss_one (ps_ret (pe_bl))) (pss_nil))  (pss_cons (ps_set (i := 9) sc_law.nd rfl (by first | exact Or.inl rfl | exact Or.inr rfl) (pe_call (ok_l_stop T) (hr.mono (by decide)) (by rfl) T.g_l_stop T.k_l_stop T.b_l_stop .nil passL (pa_cons (pe_call (ok_l_cell_at T) (hr.mono (by decide)) (by rfl) T.g_l_cell_at T.k_l_cell_at T.b_l_cell_at .nil passL (pa_cons (pv 0) (pa_cons (pe_int) (pa_nil)))) (pa_cons (pv 1) (pa_nil)))))  (pss_cons (ps_set (i := 10) sc_law.nd rfl (by first | exact Or.inl rfl | exact Or.inr rfl) (pe_call (ok_l_stop T) (hr.mono (by decide)) (by rfl) T.g_l_stop T.k_l_stop T.b_l_stop .nil passL (pa_cons (pe_call (ok_l_cell_at T) (hr.mono (by decide)) (by rfl) T.g_l_cell_at T.k_l_cell_at T.b_l_cell_at .nil passL (pa_cons (pv 0) (pa_cons (pe_int) (pa_nil)))) (pa_cons (pv 1) (pa_nil)))))  (pss_cons (ps_set (i := 11) sc_law.nd rfl (by first | exact Or.inl rfl | exact Or.inr rfl) (pe_lst (pa_cons (pe_or (pe_cmpR op_lt (pv 9) (pe_int) (nomark _)) (pe_one (pe_cmpR op_ge (pv 9) (pv 1) (nomark _)))) (pa_cons (pe_or (pe_cmpR op_lt (pv 9) (pe_int) (nomark _)) (pe_or (pe_cmpR op_ge (pv 9) (pv 1) (nomark _)) (pe_or (pe_cmpR op_lt (pv 10) (pe_int) (nomark _)) (pe_one (pe_cmpR op_ge (pv 10) (pv 1) (nomark _)))))) (pa_nil)))))  (pss_cons (ps_for (passes_of rfl) rfl (pi_range1 (by rfl) T.z_range (pa_cons (pe_int) (pa_nil))) (pg_name (i := 12) sc_law.nd rfl (by first | exact Or.inl rfl | exact Or.inr rfl)) (pss_one (ps_if (pt_cmpR op_ne (pe_call (ok_l_asked T) (hr.mono (by decide)) (by rfl) T.g_l_asked T.k_l_asked T.b_l_asked .nil passL (pa_cons (pv 6) (pa_cons (pv 12) (pa_cons (pv 9) (pa_cons (pv 10) (pa_nil)))))) (pe_ix ix_list (pv 11) (pe_callB (call_min2 rfl) (by rfl) T.z_min (by decide +kernel) (pa_cons (pv 12) (pa_cons (pe_int) (pa_nil)))) (fun _ _ => rfl)) (nomark _)) (pss_one (ps_ret (pe_bl))) (pss_nil))))  (pss_one (ps_ret (pe_bl)))))))))))))))))))
end
end FW

namespace FW
open PySem PySem.Spec PyProof.Rows L2
theorem all_mk {l : PySem.W.OpenLaw} {w : World} {K : PySem.W.Frag} {h : Heap} {mg : Str → Option Value} {fa : Addr} (X : K.In h) (G : h.Ns mainGlobals mg) (hfa : mg "law" = some (.ref fa))
  {C_FareError C_BadLink C_BadStop C_NoWay C_BadPrices C_BadZones C_PastDay C_Web f_Web_init f_Web_need f_Web_beside f_Web_spread f_Web_reached f_Web_levels f_Web_fewest f_Web_way f_l_cell_at f_l_links_by f_l_wrong f_l_kind f_l_made f_l_any_refusal f_l_asked f_l_stop f_l_fields f_law : Addr} {od_Web_init an_Web_init od_Web_need an_Web_need od_Web_beside an_Web_beside od_Web_spread an_Web_spread od_Web_reached an_Web_reached od_Web_levels an_Web_levels od_Web_fewest an_Web_fewest od_Web_way an_Web_way od_l_cell_at an_l_cell_at od_l_links_by an_l_links_by od_l_wrong an_l_wrong od_l_kind an_l_kind od_l_made an_l_made od_l_any_refusal an_l_any_refusal od_l_asked an_l_asked od_l_stop an_l_stop od_l_fields an_l_fields od_law an_law : Option Addr} {sl_Web_init sl_Web_need sl_Web_beside sl_Web_spread sl_Web_reached sl_Web_levels sl_Web_fewest sl_Web_way sl_l_cell_at sl_l_links_by sl_l_wrong sl_l_kind sl_l_made sl_l_any_refusal sl_l_asked sl_l_stop sl_l_fields sl_law : Array (Option Value)} {oc_Web_init kV_Web_init dc_Web_init pm_Web_init cd_Web_init ct_Web_init oc_Web_need kV_Web_need dc_Web_need pm_Web_need cd_Web_need ct_Web_need oc_Web_beside kV_Web_beside dc_Web_beside pm_Web_beside cd_Web_beside ct_Web_beside oc_Web_spread kV_Web_spread dc_Web_spread pm_Web_spread cd_Web_spread ct_Web_spread oc_Web_reached kV_Web_reached dc_Web_reached pm_Web_reached cd_Web_reached ct_Web_reached oc_Web_levels kV_Web_levels dc_Web_levels pm_Web_levels cd_Web_levels ct_Web_levels oc_Web_fewest kV_Web_fewest dc_Web_fewest pm_Web_fewest cd_Web_fewest ct_Web_fewest oc_Web_way kV_Web_way dc_Web_way pm_Web_way cd_Web_way ct_Web_way oc_l_cell_at kV_l_cell_at dc_l_cell_at pm_l_cell_at cd_l_cell_at ct_l_cell_at oc_l_links_by kV_l_links_by dc_l_links_by pm_l_links_by cd_l_links_by ct_l_links_by oc_l_wrong kV_l_wrong dc_l_wrong pm_l_wrong cd_l_wrong ct_l_wrong oc_l_kind kV_l_kind dc_l_kind pm_l_kind cd_l_kind ct_l_kind oc_l_made kV_l_made dc_l_made pm_l_made cd_l_made ct_l_made oc_l_any_refusal kV_l_any_refusal dc_l_any_refusal pm_l_any_refusal cd_l_any_refusal ct_l_any_refusal oc_l_asked kV_l_asked dc_l_asked pm_l_asked cd_l_asked ct_l_asked oc_l_stop kV_l_stop dc_l_stop pm_l_stop cd_l_stop ct_l_stop oc_l_fields kV_l_fields dc_l_fields pm_l_fields cd_l_fields ct_l_fields oc_law kV_law dc_law pm_law cd_law ct_law : Value}
  (aE_FareError : PySem.W.nsIn K mainGlobals "FareError" = some (some (.ref C_FareError)))
  (xE_FareError : PySem.W.excIn K C_FareError [.type "ValueError", .type "Exception", .type "BaseException", .type "object"] "ValueError.__new__" = true)
  (kE_FareError : PySem.W.keepIn K (.ref C_FareError) = true)
  (yE_FareError : PySem.W.subIn K (.ref C_FareError) (.type "BaseException") = some true)
  (tE_FareError : PySem.W.typeIn K (.ref C_FareError) = some (.type "type"))
  (aE_BadLink : PySem.W.nsIn K mainGlobals "BadLink" = some (some (.ref C_BadLink)))
  (xE_BadLink : PySem.W.excIn K C_BadLink [.type "ValueError", .type "Exception", .type "BaseException", .type "object"] "ValueError.__new__" = true)
  (kE_BadLink : PySem.W.keepIn K (.ref C_BadLink) = true)
  (yE_BadLink : PySem.W.subIn K (.ref C_BadLink) (.type "BaseException") = some true)
  (tE_BadLink : PySem.W.typeIn K (.ref C_BadLink) = some (.type "type"))
  (aE_BadStop : PySem.W.nsIn K mainGlobals "BadStop" = some (some (.ref C_BadStop)))
  (xE_BadStop : PySem.W.excIn K C_BadStop [.type "ValueError", .type "Exception", .type "BaseException", .type "object"] "ValueError.__new__" = true)
  (kE_BadStop : PySem.W.keepIn K (.ref C_BadStop) = true)
  (yE_BadStop : PySem.W.subIn K (.ref C_BadStop) (.type "BaseException") = some true)
  (tE_BadStop : PySem.W.typeIn K (.ref C_BadStop) = some (.type "type"))
  (aE_NoWay : PySem.W.nsIn K mainGlobals "NoWay" = some (some (.ref C_NoWay)))
  (xE_NoWay : PySem.W.excIn K C_NoWay [.type "ValueError", .type "Exception", .type "BaseException", .type "object"] "ValueError.__new__" = true)
  (kE_NoWay : PySem.W.keepIn K (.ref C_NoWay) = true)
  (yE_NoWay : PySem.W.subIn K (.ref C_NoWay) (.type "BaseException") = some true)
  (tE_NoWay : PySem.W.typeIn K (.ref C_NoWay) = some (.type "type"))
  (aE_BadPrices : PySem.W.nsIn K mainGlobals "BadPrices" = some (some (.ref C_BadPrices)))
  (xE_BadPrices : PySem.W.excIn K C_BadPrices [.type "ValueError", .type "Exception", .type "BaseException", .type "object"] "ValueError.__new__" = true)
  (kE_BadPrices : PySem.W.keepIn K (.ref C_BadPrices) = true)
  (yE_BadPrices : PySem.W.subIn K (.ref C_BadPrices) (.type "BaseException") = some true)
  (tE_BadPrices : PySem.W.typeIn K (.ref C_BadPrices) = some (.type "type"))
  (aE_BadZones : PySem.W.nsIn K mainGlobals "BadZones" = some (some (.ref C_BadZones)))
  (xE_BadZones : PySem.W.excIn K C_BadZones [.type "ValueError", .type "Exception", .type "BaseException", .type "object"] "ValueError.__new__" = true)
  (kE_BadZones : PySem.W.keepIn K (.ref C_BadZones) = true)
  (yE_BadZones : PySem.W.subIn K (.ref C_BadZones) (.type "BaseException") = some true)
  (tE_BadZones : PySem.W.typeIn K (.ref C_BadZones) = some (.type "type"))
  (aE_PastDay : PySem.W.nsIn K mainGlobals "PastDay" = some (some (.ref C_PastDay)))
  (xE_PastDay : PySem.W.excIn K C_PastDay [.type "ValueError", .type "Exception", .type "BaseException", .type "object"] "ValueError.__new__" = true)
  (kE_PastDay : PySem.W.keepIn K (.ref C_PastDay) = true)
  (yE_PastDay : PySem.W.subIn K (.ref C_PastDay) (.type "BaseException") = some true)
  (tE_PastDay : PySem.W.typeIn K (.ref C_PastDay) = some (.type "type"))
  (cl_ha : PySem.W.specialIn K (.builtin "object.__class__") "__get__" = some (some (.builtin "getset_descriptor.__get__")))
  (cl_ht : PySem.W.takesIn K (.builtin "object.__class__") = some true)
  (hE_FareError : PySem.W.hasDictIn K C_FareError = true)
  (hE_BadLink : PySem.W.hasDictIn K C_BadLink = true)
  (hE_BadStop : PySem.W.hasDictIn K C_BadStop = true)
  (hE_NoWay : PySem.W.hasDictIn K C_NoWay = true)
  (hE_BadPrices : PySem.W.hasDictIn K C_BadPrices = true)
  (hE_BadZones : PySem.W.hasDictIn K C_BadZones = true)
  (hE_PastDay : PySem.W.hasDictIn K C_PastDay = true)
  (gg_BadLink : PySem.W.findIn K (.ref C_BadLink) "__getattribute__" = some (some (.builtin "BaseException.__getattribute__")))
  (gk_BadLink : PySem.W.findIn K (.ref C_BadLink) "__getattr__" = some none)
  (gc_BadLink : PySem.W.findIn K (.ref C_BadLink) "__class__" = some (some (.builtin "object.__class__")))
  (gm_BadLink : PySem.W.mroIn K C_BadLink (.type "object") = some true)
  (gv_BadLink : PySem.W.subIn K (.ref C_BadLink) (.type "ValueError") = some true)
  (sb_BadLink_BadLink : PySem.W.subIn K (.ref C_BadLink) (.ref C_BadLink) = some true)
  (sb_BadLink_BadStop : PySem.W.subIn K (.ref C_BadLink) (.ref C_BadStop) = some false)
  (sb_BadLink_NoWay : PySem.W.subIn K (.ref C_BadLink) (.ref C_NoWay) = some false)
  (sb_BadLink_BadPrices : PySem.W.subIn K (.ref C_BadLink) (.ref C_BadPrices) = some false)
  (sb_BadLink_BadZones : PySem.W.subIn K (.ref C_BadLink) (.ref C_BadZones) = some false)
  (sb_BadLink_PastDay : PySem.W.subIn K (.ref C_BadLink) (.ref C_PastDay) = some false)
  (sb_BadLink_FareError : PySem.W.subIn K (.ref C_BadLink) (.ref C_FareError) = some true)
  (gg_BadStop : PySem.W.findIn K (.ref C_BadStop) "__getattribute__" = some (some (.builtin "BaseException.__getattribute__")))
  (gk_BadStop : PySem.W.findIn K (.ref C_BadStop) "__getattr__" = some none)
  (gc_BadStop : PySem.W.findIn K (.ref C_BadStop) "__class__" = some (some (.builtin "object.__class__")))
  (gm_BadStop : PySem.W.mroIn K C_BadStop (.type "object") = some true)
  (gv_BadStop : PySem.W.subIn K (.ref C_BadStop) (.type "ValueError") = some true)
  (sb_BadStop_BadLink : PySem.W.subIn K (.ref C_BadStop) (.ref C_BadLink) = some false)
  (sb_BadStop_BadStop : PySem.W.subIn K (.ref C_BadStop) (.ref C_BadStop) = some true)
  (sb_BadStop_NoWay : PySem.W.subIn K (.ref C_BadStop) (.ref C_NoWay) = some false)
  (sb_BadStop_BadPrices : PySem.W.subIn K (.ref C_BadStop) (.ref C_BadPrices) = some false)
  (sb_BadStop_BadZones : PySem.W.subIn K (.ref C_BadStop) (.ref C_BadZones) = some false)
  (sb_BadStop_PastDay : PySem.W.subIn K (.ref C_BadStop) (.ref C_PastDay) = some false)
  (sb_BadStop_FareError : PySem.W.subIn K (.ref C_BadStop) (.ref C_FareError) = some true)
  (gg_NoWay : PySem.W.findIn K (.ref C_NoWay) "__getattribute__" = some (some (.builtin "BaseException.__getattribute__")))
  (gk_NoWay : PySem.W.findIn K (.ref C_NoWay) "__getattr__" = some none)
  (gc_NoWay : PySem.W.findIn K (.ref C_NoWay) "__class__" = some (some (.builtin "object.__class__")))
  (gm_NoWay : PySem.W.mroIn K C_NoWay (.type "object") = some true)
  (gv_NoWay : PySem.W.subIn K (.ref C_NoWay) (.type "ValueError") = some true)
  (sb_NoWay_BadLink : PySem.W.subIn K (.ref C_NoWay) (.ref C_BadLink) = some false)
  (sb_NoWay_BadStop : PySem.W.subIn K (.ref C_NoWay) (.ref C_BadStop) = some false)
  (sb_NoWay_NoWay : PySem.W.subIn K (.ref C_NoWay) (.ref C_NoWay) = some true)
  (sb_NoWay_BadPrices : PySem.W.subIn K (.ref C_NoWay) (.ref C_BadPrices) = some false)
  (sb_NoWay_BadZones : PySem.W.subIn K (.ref C_NoWay) (.ref C_BadZones) = some false)
  (sb_NoWay_PastDay : PySem.W.subIn K (.ref C_NoWay) (.ref C_PastDay) = some false)
  (sb_NoWay_FareError : PySem.W.subIn K (.ref C_NoWay) (.ref C_FareError) = some true)
  (aC_Web : PySem.W.nsIn K mainGlobals "Web" = some (some (.ref C_Web)))
  (pC_Web : PySem.W.plainGet K C_Web Str.empty = true)
  (dC_Web : PySem.W.hasDictIn K C_Web = true)
  (oC_Web : PySem.W.plainOver K C_Web = true)
  (sC_Web : PySem.W.findIn K (.ref C_Web) "__setattr__" = some (some (.builtin "object.__setattr__")))
  (mC_Web : PySem.W.makesIn K C_Web = true)
  (kC_Web : PySem.W.keepIn K (.ref C_Web) = true)
  (n_Web_links : PySem.W.findIn K (.ref C_Web) "links" = some none)
  (n_Web_zones : PySem.W.findIn K (.ref C_Web) "zones" = some none)
  (a_Web_init : PySem.W.findIn K (.ref C_Web) "__init__" = some (some (.ref f_Web_init)))
  (i_Web_init : PySem.W.isFn K (.ref f_Web_init) = true)
  (l_Web_init : K.lookup f_Web_init = some ⟨oc_Web_init, od_Web_init, .func (PySem.W.fnOf "__init__" "Web.__init__" (defArgs s_Web_init) (defBody s_Web_init) (defScope s_Web_init) .none kV_Web_init dc_Web_init pm_Web_init an_Web_init cd_Web_init ct_Web_init), sl_Web_init⟩)
  (c_Web_init : PySem.W.codeIn K cd_Web_init "Web.__init__" = true)
  (k_Web_init : PySem.W.keepIn K (.ref f_Web_init) = true)
  (a_Web_need : PySem.W.findIn K (.ref C_Web) "need" = some (some (.ref f_Web_need)))
  (i_Web_need : PySem.W.isFn K (.ref f_Web_need) = true)
  (l_Web_need : K.lookup f_Web_need = some ⟨oc_Web_need, od_Web_need, .func (PySem.W.fnOf "need" "Web.need" (defArgs s_Web_need) (defBody s_Web_need) (defScope s_Web_need) .none kV_Web_need dc_Web_need pm_Web_need an_Web_need cd_Web_need ct_Web_need), sl_Web_need⟩)
  (c_Web_need : PySem.W.codeIn K cd_Web_need "Web.need" = true)
  (k_Web_need : PySem.W.keepIn K (.ref f_Web_need) = true)
  (a_Web_beside : PySem.W.findIn K (.ref C_Web) "beside" = some (some (.ref f_Web_beside)))
  (i_Web_beside : PySem.W.isFn K (.ref f_Web_beside) = true)
  (l_Web_beside : K.lookup f_Web_beside = some ⟨oc_Web_beside, od_Web_beside, .func (PySem.W.fnOf "beside" "Web.beside" (defArgs s_Web_beside) (defBody s_Web_beside) (defScope s_Web_beside) .none kV_Web_beside dc_Web_beside pm_Web_beside an_Web_beside cd_Web_beside ct_Web_beside), sl_Web_beside⟩)
  (c_Web_beside : PySem.W.codeIn K cd_Web_beside "Web.beside" = true)
  (k_Web_beside : PySem.W.keepIn K (.ref f_Web_beside) = true)
  (a_Web_spread : PySem.W.findIn K (.ref C_Web) "spread" = some (some (.ref f_Web_spread)))
  (i_Web_spread : PySem.W.isFn K (.ref f_Web_spread) = true)
  (l_Web_spread : K.lookup f_Web_spread = some ⟨oc_Web_spread, od_Web_spread, .func (PySem.W.fnOf "spread" "Web.spread" (defArgs s_Web_spread) (defBody s_Web_spread) (defScope s_Web_spread) .none kV_Web_spread dc_Web_spread pm_Web_spread an_Web_spread cd_Web_spread ct_Web_spread), sl_Web_spread⟩)
  (c_Web_spread : PySem.W.codeIn K cd_Web_spread "Web.spread" = true)
  (k_Web_spread : PySem.W.keepIn K (.ref f_Web_spread) = true)
  (a_Web_reached : PySem.W.findIn K (.ref C_Web) "reached" = some (some (.ref f_Web_reached)))
  (i_Web_reached : PySem.W.isFn K (.ref f_Web_reached) = true)
  (l_Web_reached : K.lookup f_Web_reached = some ⟨oc_Web_reached, od_Web_reached, .func (PySem.W.fnOf "reached" "Web.reached" (defArgs s_Web_reached) (defBody s_Web_reached) (defScope s_Web_reached) .none kV_Web_reached dc_Web_reached pm_Web_reached an_Web_reached cd_Web_reached ct_Web_reached), sl_Web_reached⟩)
  (c_Web_reached : PySem.W.codeIn K cd_Web_reached "Web.reached" = true)
  (k_Web_reached : PySem.W.keepIn K (.ref f_Web_reached) = true)
  (a_Web_levels : PySem.W.findIn K (.ref C_Web) "levels" = some (some (.ref f_Web_levels)))
  (i_Web_levels : PySem.W.isFn K (.ref f_Web_levels) = true)
  (l_Web_levels : K.lookup f_Web_levels = some ⟨oc_Web_levels, od_Web_levels, .func (PySem.W.fnOf "levels" "Web.levels" (defArgs s_Web_levels) (defBody s_Web_levels) (defScope s_Web_levels) .none kV_Web_levels dc_Web_levels pm_Web_levels an_Web_levels cd_Web_levels ct_Web_levels), sl_Web_levels⟩)
  (c_Web_levels : PySem.W.codeIn K cd_Web_levels "Web.levels" = true)
  (k_Web_levels : PySem.W.keepIn K (.ref f_Web_levels) = true)
  (a_Web_fewest : PySem.W.findIn K (.ref C_Web) "fewest" = some (some (.ref f_Web_fewest)))
  (i_Web_fewest : PySem.W.isFn K (.ref f_Web_fewest) = true)
  (l_Web_fewest : K.lookup f_Web_fewest = some ⟨oc_Web_fewest, od_Web_fewest, .func (PySem.W.fnOf "fewest" "Web.fewest" (defArgs s_Web_fewest) (defBody s_Web_fewest) (defScope s_Web_fewest) .none kV_Web_fewest dc_Web_fewest pm_Web_fewest an_Web_fewest cd_Web_fewest ct_Web_fewest), sl_Web_fewest⟩)
  (c_Web_fewest : PySem.W.codeIn K cd_Web_fewest "Web.fewest" = true)
  (k_Web_fewest : PySem.W.keepIn K (.ref f_Web_fewest) = true)
  (a_Web_way : PySem.W.findIn K (.ref C_Web) "way" = some (some (.ref f_Web_way)))
  (i_Web_way : PySem.W.isFn K (.ref f_Web_way) = true)
  (l_Web_way : K.lookup f_Web_way = some ⟨oc_Web_way, od_Web_way, .func (PySem.W.fnOf "way" "Web.way" (defArgs s_Web_way) (defBody s_Web_way) (defScope s_Web_way) .none kV_Web_way dc_Web_way pm_Web_way an_Web_way cd_Web_way ct_Web_way), sl_Web_way⟩)
  (c_Web_way : PySem.W.codeIn K cd_Web_way "Web.way" = true)
  (k_Web_way : PySem.W.keepIn K (.ref f_Web_way) = true)
  (a_l_cell_at : PySem.W.nsIn K mainGlobals "_law_cell_at" = some (some (.ref f_l_cell_at)))
  (l_l_cell_at : K.lookup f_l_cell_at = some ⟨oc_l_cell_at, od_l_cell_at, .func (PySem.W.fnOf "_law_cell_at" "_law_cell_at" (defArgs s_l_cell_at) (defBody s_l_cell_at) (defScope s_l_cell_at) .none kV_l_cell_at dc_l_cell_at pm_l_cell_at an_l_cell_at cd_l_cell_at ct_l_cell_at), sl_l_cell_at⟩)
  (c_l_cell_at : PySem.W.codeIn K cd_l_cell_at "_law_cell_at" = true)
  (k_l_cell_at : PySem.W.keepIn K (.ref f_l_cell_at) = true)
  (a_l_links_by : PySem.W.nsIn K mainGlobals "_law_links_by" = some (some (.ref f_l_links_by)))
  (l_l_links_by : K.lookup f_l_links_by = some ⟨oc_l_links_by, od_l_links_by, .func (PySem.W.fnOf "_law_links_by" "_law_links_by" (defArgs s_l_links_by) (defBody s_l_links_by) (defScope s_l_links_by) .none kV_l_links_by dc_l_links_by pm_l_links_by an_l_links_by cd_l_links_by ct_l_links_by), sl_l_links_by⟩)
  (c_l_links_by : PySem.W.codeIn K cd_l_links_by "_law_links_by" = true)
  (k_l_links_by : PySem.W.keepIn K (.ref f_l_links_by) = true)
  (a_l_wrong : PySem.W.nsIn K mainGlobals "_law_wrong" = some (some (.ref f_l_wrong)))
  (l_l_wrong : K.lookup f_l_wrong = some ⟨oc_l_wrong, od_l_wrong, .func (PySem.W.fnOf "_law_wrong" "_law_wrong" (defArgs s_l_wrong) (defBody s_l_wrong) (defScope s_l_wrong) .none kV_l_wrong dc_l_wrong pm_l_wrong an_l_wrong cd_l_wrong ct_l_wrong), sl_l_wrong⟩)
  (c_l_wrong : PySem.W.codeIn K cd_l_wrong "_law_wrong" = true)
  (k_l_wrong : PySem.W.keepIn K (.ref f_l_wrong) = true)
  (a_l_kind : PySem.W.nsIn K mainGlobals "_law_kind" = some (some (.ref f_l_kind)))
  (l_l_kind : K.lookup f_l_kind = some ⟨oc_l_kind, od_l_kind, .func (PySem.W.fnOf "_law_kind" "_law_kind" (defArgs s_l_kind) (defBody s_l_kind) (defScope s_l_kind) .none kV_l_kind dc_l_kind pm_l_kind an_l_kind cd_l_kind ct_l_kind), sl_l_kind⟩)
  (c_l_kind : PySem.W.codeIn K cd_l_kind "_law_kind" = true)
  (k_l_kind : PySem.W.keepIn K (.ref f_l_kind) = true)
  (a_l_made : PySem.W.nsIn K mainGlobals "_law_made" = some (some (.ref f_l_made)))
  (l_l_made : K.lookup f_l_made = some ⟨oc_l_made, od_l_made, .func (PySem.W.fnOf "_law_made" "_law_made" (defArgs s_l_made) (defBody s_l_made) (defScope s_l_made) .none kV_l_made dc_l_made pm_l_made an_l_made cd_l_made ct_l_made), sl_l_made⟩)
  (c_l_made : PySem.W.codeIn K cd_l_made "_law_made" = true)
  (k_l_made : PySem.W.keepIn K (.ref f_l_made) = true)
  (a_l_any_refusal : PySem.W.nsIn K mainGlobals "_law_any_refusal" = some (some (.ref f_l_any_refusal)))
  (l_l_any_refusal : K.lookup f_l_any_refusal = some ⟨oc_l_any_refusal, od_l_any_refusal, .func (PySem.W.fnOf "_law_any_refusal" "_law_any_refusal" (defArgs s_l_any_refusal) (defBody s_l_any_refusal) (defScope s_l_any_refusal) .none kV_l_any_refusal dc_l_any_refusal pm_l_any_refusal an_l_any_refusal cd_l_any_refusal ct_l_any_refusal), sl_l_any_refusal⟩)
  (c_l_any_refusal : PySem.W.codeIn K cd_l_any_refusal "_law_any_refusal" = true)
  (k_l_any_refusal : PySem.W.keepIn K (.ref f_l_any_refusal) = true)
  (a_l_asked : PySem.W.nsIn K mainGlobals "_law_asked" = some (some (.ref f_l_asked)))
  (l_l_asked : K.lookup f_l_asked = some ⟨oc_l_asked, od_l_asked, .func (PySem.W.fnOf "_law_asked" "_law_asked" (defArgs s_l_asked) (defBody s_l_asked) (defScope s_l_asked) .none kV_l_asked dc_l_asked pm_l_asked an_l_asked cd_l_asked ct_l_asked), sl_l_asked⟩)
  (c_l_asked : PySem.W.codeIn K cd_l_asked "_law_asked" = true)
  (k_l_asked : PySem.W.keepIn K (.ref f_l_asked) = true)
  (a_l_stop : PySem.W.nsIn K mainGlobals "_law_stop" = some (some (.ref f_l_stop)))
  (l_l_stop : K.lookup f_l_stop = some ⟨oc_l_stop, od_l_stop, .func (PySem.W.fnOf "_law_stop" "_law_stop" (defArgs s_l_stop) (defBody s_l_stop) (defScope s_l_stop) .none kV_l_stop dc_l_stop pm_l_stop an_l_stop cd_l_stop ct_l_stop), sl_l_stop⟩)
  (c_l_stop : PySem.W.codeIn K cd_l_stop "_law_stop" = true)
  (k_l_stop : PySem.W.keepIn K (.ref f_l_stop) = true)
  (a_l_fields : PySem.W.nsIn K mainGlobals "_law_fields" = some (some (.ref f_l_fields)))
  (l_l_fields : K.lookup f_l_fields = some ⟨oc_l_fields, od_l_fields, .func (PySem.W.fnOf "_law_fields" "_law_fields" (defArgs s_l_fields) (defBody s_l_fields) (defScope s_l_fields) .none kV_l_fields dc_l_fields pm_l_fields an_l_fields cd_l_fields ct_l_fields), sl_l_fields⟩)
  (c_l_fields : PySem.W.codeIn K cd_l_fields "_law_fields" = true)
  (k_l_fields : PySem.W.keepIn K (.ref f_l_fields) = true)
  (a_law : PySem.W.nsIn K mainGlobals "law" = some (some (.ref f_law)))
  (l_law : K.lookup f_law = some ⟨oc_law, od_law, .func (PySem.W.fnOf "law" "law" (defArgs s_law) (defBody s_law) (defScope s_law) .none kV_law dc_law pm_law an_law cd_law ct_law), sl_law⟩)
  (c_law : PySem.W.codeIn K cd_law "law" = true)
  (k_law : PySem.W.keepIn K (.ref f_law) = true)
  (z_ValueError : PySem.W.nsIn K mainGlobals "ValueError" = some none)
  (z_isinstance : PySem.W.nsIn K mainGlobals "isinstance" = some none)
  (z_len : PySem.W.nsIn K mainGlobals "len" = some none)
  (z_list : PySem.W.nsIn K mainGlobals "list" = some none)
  (z_max : PySem.W.nsIn K mainGlobals "max" = some none)
  (z_min : PySem.W.nsIn K mainGlobals "min" = some none)
  (z_range : PySem.W.nsIn K mainGlobals "range" = some none)
  (z_reversed : PySem.W.nsIn K mainGlobals "reversed" = some none)
  (z_tuple : PySem.W.nsIn K mainGlobals "tuple" = some none) :
  ∃ fd : FuncData, (∀ (s : Shared) (v : Value), BindsTo s fd ⟨[v], []⟩ [("_law_script", v)]) ∧ ∀ base : Heap, K.In base → base.Ns mainGlobals mg → FnOk l.prog w K mg base (L2.CX l.prog w) 7 fa fd ["_law_script"] (spLaw K) := by
  have e := hfa.symm.trans (PySem.W.mg_of X G a_law)
  cases e
  let A : Ad := { c_FareError := C_FareError, c_BadLink := C_BadLink, c_BadStop := C_BadStop, c_NoWay := C_NoWay, c_BadPrices := C_BadPrices, c_BadZones := C_BadZones, c_PastDay := C_PastDay, c_Tariff := fa, c_Web := C_Web, c_Ledger := fa }
  have F_Web_init := fun_mk (st := s_Web_init) l_Web_init c_Web_init k_Web_init
  have b_Web_init := F_Web_init.binds (ps := ["self", "zones", "links"]) fun _ _ _ _ _ _ us hl => match us, hl with | [_, _, _], _ => rfl
  have F_Web_need := fun_mk (st := s_Web_need) l_Web_need c_Web_need k_Web_need
  have b_Web_need := F_Web_need.binds (ps := ["self", "stop"]) fun _ _ _ _ _ _ us hl => match us, hl with | [_, _], _ => rfl
  have F_Web_beside := fun_mk (st := s_Web_beside) l_Web_beside c_Web_beside k_Web_beside
  have b_Web_beside := F_Web_beside.binds (ps := ["self", "stop"]) fun _ _ _ _ _ _ us hl => match us, hl with | [_, _], _ => rfl
  have F_Web_spread := fun_mk (st := s_Web_spread) l_Web_spread c_Web_spread k_Web_spread
  have b_Web_spread := F_Web_spread.binds (ps := ["self", "found", "layer", "count"]) fun _ _ _ _ _ _ us hl => match us, hl with | [_, _, _, _], _ => rfl
  have F_Web_reached := fun_mk (st := s_Web_reached) l_Web_reached c_Web_reached k_Web_reached
  have b_Web_reached := F_Web_reached.binds (ps := ["self", "start"]) fun _ _ _ _ _ _ us hl => match us, hl with | [_, _], _ => rfl
  have F_Web_levels := fun_mk (st := s_Web_levels) l_Web_levels c_Web_levels k_Web_levels
  have b_Web_levels := F_Web_levels.binds (ps := ["self", "start"]) fun _ _ _ _ _ _ us hl => match us, hl with | [_, _], _ => rfl
  have F_Web_fewest := fun_mk (st := s_Web_fewest) l_Web_fewest c_Web_fewest k_Web_fewest
  have b_Web_fewest := F_Web_fewest.binds (ps := ["self", "start", "goal"]) fun _ _ _ _ _ _ us hl => match us, hl with | [_, _, _], _ => rfl
  have F_Web_way := fun_mk (st := s_Web_way) l_Web_way c_Web_way k_Web_way
  have b_Web_way := F_Web_way.binds (ps := ["self", "start", "goal"]) fun _ _ _ _ _ _ us hl => match us, hl with | [_, _, _], _ => rfl
  have F_l_cell_at := fun_mk (st := s_l_cell_at) l_l_cell_at c_l_cell_at k_l_cell_at
  have b_l_cell_at := F_l_cell_at.binds (ps := ["_law_script", "_law_k"]) fun _ _ _ _ _ _ us hl => match us, hl with | [_, _], _ => rfl
  have F_l_links_by := fun_mk (st := s_l_links_by) l_l_links_by c_l_links_by k_l_links_by
  have b_l_links_by := F_l_links_by.binds (ps := ["_law_script", "_law_first", "_law_many"]) fun _ _ _ _ _ _ us hl => match us, hl with | [_, _, _], _ => rfl
  have F_l_wrong := fun_mk (st := s_l_wrong) l_l_wrong c_l_wrong k_l_wrong
  have b_l_wrong := F_l_wrong.binds (ps := ["_law_cell", "_law_many"]) fun _ _ _ _ _ _ us hl => match us, hl with | [_, _], _ => rfl
  have F_l_kind := fun_mk (st := s_l_kind) l_l_kind c_l_kind k_l_kind
  have b_l_kind := F_l_kind.binds (ps := ["_law_e"]) fun _ _ _ _ _ _ us hl => match us, hl with | [_], _ => rfl
  have F_l_made := fun_mk (st := s_l_made) l_l_made c_l_made k_l_made
  have b_l_made := F_l_made.binds (ps := ["_law_zones", "_law_links"]) fun _ _ _ _ _ _ us hl => match us, hl with | [_, _], _ => rfl
  have F_l_any_refusal := fun_mk (st := s_l_any_refusal) l_l_any_refusal c_l_any_refusal k_l_any_refusal
  have b_l_any_refusal := F_l_any_refusal.binds (ps := ["_law_zones", "_law_links"]) fun _ _ _ _ _ _ us hl => match us, hl with | [_, _], _ => rfl
  have F_l_asked := fun_mk (st := s_l_asked) l_l_asked c_l_asked k_l_asked
  have b_l_asked := F_l_asked.binds (ps := ["_law_web", "_law_sort", "_law_start", "_law_goal"]) fun _ _ _ _ _ _ us hl => match us, hl with | [_, _, _, _], _ => rfl
  have F_l_stop := fun_mk (st := s_l_stop) l_l_stop c_l_stop k_l_stop
  have b_l_stop := F_l_stop.binds (ps := ["_law_cell", "_law_many"]) fun _ _ _ _ _ _ us hl => match us, hl with | [_, _], _ => rfl
  have F_l_fields := fun_mk (st := s_l_fields) l_l_fields c_l_fields k_l_fields
  have b_l_fields := F_l_fields.binds (ps := ["_law_web", "_law_zones", "_law_links"]) fun _ _ _ _ _ _ us hl => match us, hl with | [_, _, _], _ => rfl
  have F_law := fun_mk (st := s_law) l_law c_law k_law
  have b_law := F_law.binds (ps := ["_law_script"]) fun _ _ _ _ _ _ us hl => match us, hl with | [_], _ => rfl
  let T : Txt K mg A := {
    a_Web_init := f_Web_init, d_Web_init := _, F_Web_init := F_Web_init, b_Web_init := b_Web_init,
    M_Web := ⟨mC_Web, a_Web_init, i_Web_init, kC_Web⟩,
    a_Web_need := f_Web_need, d_Web_need := _, F_Web_need := F_Web_need, b_Web_need := b_Web_need,
    h_Web_need := ⟨a_Web_need, i_Web_need, k_Web_need⟩,
    a_Web_beside := f_Web_beside, d_Web_beside := _, F_Web_beside := F_Web_beside, b_Web_beside := b_Web_beside,
    h_Web_beside := ⟨a_Web_beside, i_Web_beside, k_Web_beside⟩,
    a_Web_spread := f_Web_spread, d_Web_spread := _, F_Web_spread := F_Web_spread, b_Web_spread := b_Web_spread,
    h_Web_spread := ⟨a_Web_spread, i_Web_spread, k_Web_spread⟩,
    a_Web_reached := f_Web_reached, d_Web_reached := _, F_Web_reached := F_Web_reached, b_Web_reached := b_Web_reached,
    h_Web_reached := ⟨a_Web_reached, i_Web_reached, k_Web_reached⟩,
    a_Web_levels := f_Web_levels, d_Web_levels := _, F_Web_levels := F_Web_levels, b_Web_levels := b_Web_levels,
    h_Web_levels := ⟨a_Web_levels, i_Web_levels, k_Web_levels⟩,
    a_Web_fewest := f_Web_fewest, d_Web_fewest := _, F_Web_fewest := F_Web_fewest, b_Web_fewest := b_Web_fewest,
    h_Web_fewest := ⟨a_Web_fewest, i_Web_fewest, k_Web_fewest⟩,
    a_Web_way := f_Web_way, d_Web_way := _, F_Web_way := F_Web_way, b_Web_way := b_Web_way,
    h_Web_way := ⟨a_Web_way, i_Web_way, k_Web_way⟩,
    a_l_cell_at := f_l_cell_at, d_l_cell_at := _, F_l_cell_at := F_l_cell_at, b_l_cell_at := b_l_cell_at,
    g_l_cell_at := PySem.W.mg_of X G a_l_cell_at, k_l_cell_at := k_l_cell_at,
    a_l_links_by := f_l_links_by, d_l_links_by := _, F_l_links_by := F_l_links_by, b_l_links_by := b_l_links_by,
    g_l_links_by := PySem.W.mg_of X G a_l_links_by, k_l_links_by := k_l_links_by,
    a_l_wrong := f_l_wrong, d_l_wrong := _, F_l_wrong := F_l_wrong, b_l_wrong := b_l_wrong,
    g_l_wrong := PySem.W.mg_of X G a_l_wrong, k_l_wrong := k_l_wrong,
    a_l_kind := f_l_kind, d_l_kind := _, F_l_kind := F_l_kind, b_l_kind := b_l_kind,
    g_l_kind := PySem.W.mg_of X G a_l_kind, k_l_kind := k_l_kind,
    a_l_made := f_l_made, d_l_made := _, F_l_made := F_l_made, b_l_made := b_l_made,
    g_l_made := PySem.W.mg_of X G a_l_made, k_l_made := k_l_made,
    a_l_any_refusal := f_l_any_refusal, d_l_any_refusal := _, F_l_any_refusal := F_l_any_refusal, b_l_any_refusal := b_l_any_refusal,
    g_l_any_refusal := PySem.W.mg_of X G a_l_any_refusal, k_l_any_refusal := k_l_any_refusal,
    a_l_asked := f_l_asked, d_l_asked := _, F_l_asked := F_l_asked, b_l_asked := b_l_asked,
    g_l_asked := PySem.W.mg_of X G a_l_asked, k_l_asked := k_l_asked,
    a_l_stop := f_l_stop, d_l_stop := _, F_l_stop := F_l_stop, b_l_stop := b_l_stop,
    g_l_stop := PySem.W.mg_of X G a_l_stop, k_l_stop := k_l_stop,
    a_l_fields := f_l_fields, d_l_fields := _, F_l_fields := F_l_fields, b_l_fields := b_l_fields,
    g_l_fields := PySem.W.mg_of X G a_l_fields, k_l_fields := k_l_fields,
    a_law := fa, d_law := _, F_law := F_law, b_law := b_law,
    g_law := PySem.W.mg_of X G a_law, k_law := k_law,
    L_Web := ⟨pC_Web, dC_Web, oC_Web, sC_Web⟩, g_Web := PySem.W.mg_of X G aC_Web,
    n_Web_links := n_Web_links,
    n_Web_zones := n_Web_zones,
    z_ValueError := PySem.W.mg_none_of X G z_ValueError,
    z_isinstance := PySem.W.mg_none_of X G z_isinstance,
    z_len := PySem.W.mg_none_of X G z_len,
    z_list := PySem.W.mg_none_of X G z_list,
    z_max := PySem.W.mg_none_of X G z_max,
    z_min := PySem.W.mg_none_of X G z_min,
    z_range := PySem.W.mg_none_of X G z_range,
    z_reversed := PySem.W.mg_none_of X G z_reversed,
    z_tuple := PySem.W.mg_none_of X G z_tuple,
    g_FareError := PySem.W.mg_of X G aE_FareError, x_FareError := xE_FareError, k_FareError := kE_FareError, y_FareError := yE_FareError, t_FareError := tE_FareError,
    g_BadLink := PySem.W.mg_of X G aE_BadLink, x_BadLink := xE_BadLink, k_BadLink := kE_BadLink, y_BadLink := yE_BadLink, t_BadLink := tE_BadLink,
    g_BadStop := PySem.W.mg_of X G aE_BadStop, x_BadStop := xE_BadStop, k_BadStop := kE_BadStop, y_BadStop := yE_BadStop, t_BadStop := tE_BadStop,
    g_NoWay := PySem.W.mg_of X G aE_NoWay, x_NoWay := xE_NoWay, k_NoWay := kE_NoWay, y_NoWay := yE_NoWay, t_NoWay := tE_NoWay,
    g_BadPrices := PySem.W.mg_of X G aE_BadPrices, x_BadPrices := xE_BadPrices, k_BadPrices := kE_BadPrices, y_BadPrices := yE_BadPrices, t_BadPrices := tE_BadPrices,
    g_BadZones := PySem.W.mg_of X G aE_BadZones, x_BadZones := xE_BadZones, k_BadZones := kE_BadZones, y_BadZones := yE_BadZones, t_BadZones := tE_BadZones,
    g_PastDay := PySem.W.mg_of X G aE_PastDay, x_PastDay := xE_PastDay, k_PastDay := kE_PastDay, y_PastDay := yE_PastDay, t_PastDay := tE_PastDay,
    e1_BadLink := PySem.W.exm_ref yE_BadLink hE_BadLink tE_BadLink sb_BadLink_BadLink,
    I_BadLink := ⟨⟨gg_BadLink, gk_BadLink, yE_BadLink, hE_BadLink, gc_BadLink, cl_ha, cl_ht, gm_BadLink⟩, PySem.W.exm_ref yE_FareError hE_FareError tE_FareError sb_BadLink_FareError, kit_own ⟨yE_FareError, hE_FareError, tE_FareError⟩ sb_BadLink_FareError sb_BadLink_BadLink, kit_type meta_ve gv_BadLink, kit_own ⟨yE_BadLink, hE_BadLink, tE_BadLink⟩ sb_BadLink_BadLink sb_BadLink_BadLink, kit_own ⟨yE_BadStop, hE_BadStop, tE_BadStop⟩ sb_BadLink_BadStop sb_BadLink_BadLink, kit_own ⟨yE_NoWay, hE_NoWay, tE_NoWay⟩ sb_BadLink_NoWay sb_BadLink_BadLink, kit_own ⟨yE_BadPrices, hE_BadPrices, tE_BadPrices⟩ sb_BadLink_BadPrices sb_BadLink_BadLink, kit_own ⟨yE_BadZones, hE_BadZones, tE_BadZones⟩ sb_BadLink_BadZones sb_BadLink_BadLink, kit_own ⟨yE_PastDay, hE_PastDay, tE_PastDay⟩ sb_BadLink_PastDay sb_BadLink_BadLink⟩,
    I_BadStop := ⟨⟨gg_BadStop, gk_BadStop, yE_BadStop, hE_BadStop, gc_BadStop, cl_ha, cl_ht, gm_BadStop⟩, PySem.W.exm_ref yE_FareError hE_FareError tE_FareError sb_BadStop_FareError, kit_own ⟨yE_FareError, hE_FareError, tE_FareError⟩ sb_BadStop_FareError sb_BadStop_BadStop, kit_type meta_ve gv_BadStop, kit_own ⟨yE_BadLink, hE_BadLink, tE_BadLink⟩ sb_BadStop_BadLink sb_BadStop_BadStop, kit_own ⟨yE_BadStop, hE_BadStop, tE_BadStop⟩ sb_BadStop_BadStop sb_BadStop_BadStop, kit_own ⟨yE_NoWay, hE_NoWay, tE_NoWay⟩ sb_BadStop_NoWay sb_BadStop_BadStop, kit_own ⟨yE_BadPrices, hE_BadPrices, tE_BadPrices⟩ sb_BadStop_BadPrices sb_BadStop_BadStop, kit_own ⟨yE_BadZones, hE_BadZones, tE_BadZones⟩ sb_BadStop_BadZones sb_BadStop_BadStop, kit_own ⟨yE_PastDay, hE_PastDay, tE_PastDay⟩ sb_BadStop_PastDay sb_BadStop_BadStop⟩,
    I_NoWay := ⟨⟨gg_NoWay, gk_NoWay, yE_NoWay, hE_NoWay, gc_NoWay, cl_ha, cl_ht, gm_NoWay⟩, PySem.W.exm_ref yE_FareError hE_FareError tE_FareError sb_NoWay_FareError, kit_own ⟨yE_FareError, hE_FareError, tE_FareError⟩ sb_NoWay_FareError sb_NoWay_NoWay, kit_type meta_ve gv_NoWay, kit_own ⟨yE_BadLink, hE_BadLink, tE_BadLink⟩ sb_NoWay_BadLink sb_NoWay_NoWay, kit_own ⟨yE_BadStop, hE_BadStop, tE_BadStop⟩ sb_NoWay_BadStop sb_NoWay_NoWay, kit_own ⟨yE_NoWay, hE_NoWay, tE_NoWay⟩ sb_NoWay_NoWay sb_NoWay_NoWay, kit_own ⟨yE_BadPrices, hE_BadPrices, tE_BadPrices⟩ sb_NoWay_BadPrices sb_NoWay_NoWay, kit_own ⟨yE_BadZones, hE_BadZones, tE_BadZones⟩ sb_NoWay_BadZones sb_NoWay_NoWay, kit_own ⟨yE_PastDay, hE_PastDay, tE_PastDay⟩ sb_NoWay_PastDay sb_NoWay_NoWay⟩ }
  exact ⟨PySem.W.fnOf "law" "law" (defArgs s_law) (defBody s_law) (defScope s_law) .none kV_law dc_law pm_law an_law cd_law ct_law, fun s v => .of_eq rfl, fun base _ _ => ok_law (A := A) (P := l.prog) (w := w) (base := base) T⟩
theorem walk {l : PySem.W.OpenLaw} {q : Program} {loose : List Str} {XP : (Str → Option Value) → Heap → Prop} {YP : World → Heap → Prop} {d : DefRec} {K : Params → PySem.W.Frag} (hn : l.most = some 63) (hdf : d.params.defaults = [])
    (hY : ∀ (w : World) (h : Heap), YP w h → (K w.params).In h)
    (F : ∀ (w : World) (mg : Str → Option Value) (fa : Addr) (h : Heap), (K w.params).In h → h.Ns mainGlobals mg → mg d.name = some (.ref fa) →
      ∃ fd : FuncData, (∀ (s : Shared) (u : Value), BindsTo s fd ⟨[u], []⟩ [("_law_script", u)]) ∧ ∀ base : Heap, (K w.params).In base → base.Ns mainGlobals mg → FnOk l.prog w (K w.params) mg base (L2.CX l.prog w) 7 fa fd ["_law_script"] (spLaw (K w.params))) :
    PySem.W.WalkO q loose XP YP l.row.toRowW d [] (fun f vs => PySem.call f vs) :=
  L2.walk_of (n := 63) (k := 7) (x := "_law_script") (CX := fun w => L2.CX l.prog w) (sp := fun w => spLaw (K w.params)) hn (by decide) hdf ⟨rfl, by decide, by decide⟩ hY F (fun _ _ a ns hl _ hS => ⟨a, ns, rfl, hS, hl, fun _ => rfl⟩) fun _ _ _ _ _ z => cx_none z
end FW
open PySem PySem.W PyProof.Rows
set_option maxRecDepth 100000 in
set_option maxHeartbeats 0 in
theorem PySem.Challenge.cw_fareweb_k05_stops_that_are_not_there_holds : PySem.Challenge.rw_fareweb_k05_stops_that_are_not_there.Holds := by
  w_on; o_law; k_head; (case hw => w_witness2)
  k_fill
  refine FW.walk (l := PySem.Challenge.rw_fareweb_k05_stops_that_are_not_there) rfl rfl (fun w h Y => PySem.W.kIn_of Y) ?F
  case F =>
    intro w mg fa h KX G hmg
    refine' FW.all_mk KX G hmg ?aE_FareError ?xE_FareError ?kE_FareError ?yE_FareError ?tE_FareError ?aE_BadLink ?xE_BadLink ?kE_BadLink ?yE_BadLink ?tE_BadLink ?aE_BadStop ?xE_BadStop ?kE_BadStop ?yE_BadStop ?tE_BadStop ?aE_NoWay ?xE_NoWay ?kE_NoWay ?yE_NoWay ?tE_NoWay ?aE_BadPrices ?xE_BadPrices ?kE_BadPrices ?yE_BadPrices ?tE_BadPrices ?aE_BadZones ?xE_BadZones ?kE_BadZones ?yE_BadZones ?tE_BadZones ?aE_PastDay ?xE_PastDay ?kE_PastDay ?yE_PastDay ?tE_PastDay ?cl_ha ?cl_ht ?hE_FareError ?hE_BadLink ?hE_BadStop ?hE_NoWay ?hE_BadPrices ?hE_BadZones ?hE_PastDay ?gg_BadLink ?gk_BadLink ?gc_BadLink ?gm_BadLink ?gv_BadLink ?sb_BadLink_BadLink ?sb_BadLink_BadStop ?sb_BadLink_NoWay ?sb_BadLink_BadPrices ?sb_BadLink_BadZones ?sb_BadLink_PastDay ?sb_BadLink_FareError ?gg_BadStop ?gk_BadStop ?gc_BadStop ?gm_BadStop ?gv_BadStop ?sb_BadStop_BadLink ?sb_BadStop_BadStop ?sb_BadStop_NoWay ?sb_BadStop_BadPrices ?sb_BadStop_BadZones ?sb_BadStop_PastDay ?sb_BadStop_FareError ?gg_NoWay ?gk_NoWay ?gc_NoWay ?gm_NoWay ?gv_NoWay ?sb_NoWay_BadLink ?sb_NoWay_BadStop ?sb_NoWay_NoWay ?sb_NoWay_BadPrices ?sb_NoWay_BadZones ?sb_NoWay_PastDay ?sb_NoWay_FareError ?aC_Web ?pC_Web ?dC_Web ?oC_Web ?sC_Web ?mC_Web ?kC_Web ?n_Web_links ?n_Web_zones ?a_Web_init ?i_Web_init ?l_Web_init ?c_Web_init ?k_Web_init ?a_Web_need ?i_Web_need ?l_Web_need ?c_Web_need ?k_Web_need ?a_Web_beside ?i_Web_beside ?l_Web_beside ?c_Web_beside ?k_Web_beside ?a_Web_spread ?i_Web_spread ?l_Web_spread ?c_Web_spread ?k_Web_spread ?a_Web_reached ?i_Web_reached ?l_Web_reached ?c_Web_reached ?k_Web_reached ?a_Web_levels ?i_Web_levels ?l_Web_levels ?c_Web_levels ?k_Web_levels ?a_Web_fewest ?i_Web_fewest ?l_Web_fewest ?c_Web_fewest ?k_Web_fewest ?a_Web_way ?i_Web_way ?l_Web_way ?c_Web_way ?k_Web_way ?a_l_cell_at ?l_l_cell_at ?c_l_cell_at ?k_l_cell_at ?a_l_links_by ?l_l_links_by ?c_l_links_by ?k_l_links_by ?a_l_wrong ?l_l_wrong ?c_l_wrong ?k_l_wrong ?a_l_kind ?l_l_kind ?c_l_kind ?k_l_kind ?a_l_made ?l_l_made ?c_l_made ?k_l_made ?a_l_any_refusal ?l_l_any_refusal ?c_l_any_refusal ?k_l_any_refusal ?a_l_asked ?l_l_asked ?c_l_asked ?k_l_asked ?a_l_stop ?l_l_stop ?c_l_stop ?k_l_stop ?a_l_fields ?l_l_fields ?c_l_fields ?k_l_fields ?a_law ?l_law ?c_law ?k_law ?z_ValueError ?z_isinstance ?z_len ?z_list ?z_max ?z_min ?z_range ?z_reversed ?z_tuple
    (case aE_FareError => k_is)
    (case xE_FareError => k_exc)
    (case kE_FareError => k_is)
    (case yE_FareError => k_is)
    (case tE_FareError => k_is)
    (case aE_BadLink => k_is)
    (case xE_BadLink => k_exc)
    (case kE_BadLink => k_is)
    (case yE_BadLink => k_is)
    (case tE_BadLink => k_is)
    (case aE_BadStop => k_is)
    (case xE_BadStop => k_exc)
    (case kE_BadStop => k_is)
    (case yE_BadStop => k_is)
    (case tE_BadStop => k_is)
    (case aE_NoWay => k_is)
    (case xE_NoWay => k_exc)
    (case kE_NoWay => k_is)
    (case yE_NoWay => k_is)
    (case tE_NoWay => k_is)
    (case aE_BadPrices => k_is)
    (case xE_BadPrices => k_exc)
    (case kE_BadPrices => k_is)
    (case yE_BadPrices => k_is)
    (case tE_BadPrices => k_is)
    (case aE_BadZones => k_is)
    (case xE_BadZones => k_exc)
    (case kE_BadZones => k_is)
    (case yE_BadZones => k_is)
    (case tE_BadZones => k_is)
    (case aE_PastDay => k_is)
    (case xE_PastDay => k_exc)
    (case kE_PastDay => k_is)
    (case yE_PastDay => k_is)
    (case tE_PastDay => k_is)
    (case cl_ha => k_is)
    (case cl_ht => k_is)
    (case hE_FareError => k_is)
    (case hE_BadLink => k_is)
    (case hE_BadStop => k_is)
    (case hE_NoWay => k_is)
    (case hE_BadPrices => k_is)
    (case hE_BadZones => k_is)
    (case hE_PastDay => k_is)
    (case gg_BadLink => k_is)
    (case gk_BadLink => k_is)
    (case gc_BadLink => k_is)
    (case gm_BadLink => k_is)
    (case gv_BadLink => k_is)
    (case sb_BadLink_BadLink => k_is)
    (case sb_BadLink_BadStop => k_is)
    (case sb_BadLink_NoWay => k_is)
    (case sb_BadLink_BadPrices => k_is)
    (case sb_BadLink_BadZones => k_is)
    (case sb_BadLink_PastDay => k_is)
    (case sb_BadLink_FareError => k_is)
    (case gg_BadStop => k_is)
    (case gk_BadStop => k_is)
    (case gc_BadStop => k_is)
    (case gm_BadStop => k_is)
    (case gv_BadStop => k_is)
    (case sb_BadStop_BadLink => k_is)
    (case sb_BadStop_BadStop => k_is)
    (case sb_BadStop_NoWay => k_is)
    (case sb_BadStop_BadPrices => k_is)
    (case sb_BadStop_BadZones => k_is)
    (case sb_BadStop_PastDay => k_is)
    (case sb_BadStop_FareError => k_is)
    (case gg_NoWay => k_is)
    (case gk_NoWay => k_is)
    (case gc_NoWay => k_is)
    (case gm_NoWay => k_is)
    (case gv_NoWay => k_is)
    (case sb_NoWay_BadLink => k_is)
    (case sb_NoWay_BadStop => k_is)
    (case sb_NoWay_NoWay => k_is)
    (case sb_NoWay_BadPrices => k_is)
    (case sb_NoWay_BadZones => k_is)
    (case sb_NoWay_PastDay => k_is)
    (case sb_NoWay_FareError => k_is)
    (case aC_Web => k_is)
    (case pC_Web => k_is)
    (case dC_Web => k_is)
    (case oC_Web => k_is)
    (case sC_Web => k_is)
    (case mC_Web => k_is)
    (case kC_Web => k_is)
    (case n_Web_links => k_is)
    (case n_Web_zones => k_is)
    (case a_Web_init => k_is)
    (case i_Web_init => k_is)
    (case l_Web_init => k_is)
    (case c_Web_init => k_is)
    (case k_Web_init => k_is)
    (case a_Web_need => k_is)
    (case i_Web_need => k_is)
    (case l_Web_need => k_is)
    (case c_Web_need => k_is)
    (case k_Web_need => k_is)
    (case a_Web_beside => k_is)
    (case i_Web_beside => k_is)
    (case l_Web_beside => k_is)
    (case c_Web_beside => k_is)
    (case k_Web_beside => k_is)
    (case a_Web_spread => k_is)
    (case i_Web_spread => k_is)
    (case l_Web_spread => k_is)
    (case c_Web_spread => k_is)
    (case k_Web_spread => k_is)
    (case a_Web_reached => k_is)
    (case i_Web_reached => k_is)
    (case l_Web_reached => k_is)
    (case c_Web_reached => k_is)
    (case k_Web_reached => k_is)
    (case a_Web_levels => k_is)
    (case i_Web_levels => k_is)
    (case l_Web_levels => k_is)
    (case c_Web_levels => k_is)
    (case k_Web_levels => k_is)
    (case a_Web_fewest => k_is)
    (case i_Web_fewest => k_is)
    (case l_Web_fewest => k_is)
    (case c_Web_fewest => k_is)
    (case k_Web_fewest => k_is)
    (case a_Web_way => k_is)
    (case i_Web_way => k_is)
    (case l_Web_way => k_is)
    (case c_Web_way => k_is)
    (case k_Web_way => k_is)
    (case a_l_cell_at => k_is)
    (case l_l_cell_at => k_is)
    (case c_l_cell_at => k_is)
    (case k_l_cell_at => k_is)
    (case a_l_links_by => k_is)
    (case l_l_links_by => k_is)
    (case c_l_links_by => k_is)
    (case k_l_links_by => k_is)
    (case a_l_wrong => k_is)
    (case l_l_wrong => k_is)
    (case c_l_wrong => k_is)
    (case k_l_wrong => k_is)
    (case a_l_kind => k_is)
    (case l_l_kind => k_is)
    (case c_l_kind => k_is)
    (case k_l_kind => k_is)
    (case a_l_made => k_is)
    (case l_l_made => k_is)
    (case c_l_made => k_is)
    (case k_l_made => k_is)
    (case a_l_any_refusal => k_is)
    (case l_l_any_refusal => k_is)
    (case c_l_any_refusal => k_is)
    (case k_l_any_refusal => k_is)
    (case a_l_asked => k_is)
    (case l_l_asked => k_is)
    (case c_l_asked => k_is)
    (case k_l_asked => k_is)
    (case a_l_stop => k_is)
    (case l_l_stop => k_is)
    (case c_l_stop => k_is)
    (case k_l_stop => k_is)
    (case a_l_fields => k_is)
    (case l_l_fields => k_is)
    (case c_l_fields => k_is)
    (case k_l_fields => k_is)
    (case a_law => k_is)
    (case l_law => k_is)
    (case c_law => k_is)
    (case k_law => k_is)
    (case z_ValueError => k_is)
    (case z_isinstance => k_is)
    (case z_len => k_is)
    (case z_list => k_is)
    (case z_max => k_is)
    (case z_min => k_is)
    (case z_range => k_is)
    (case z_reversed => k_is)
    (case z_tuple => k_is)
#print axioms PySem.Challenge.cw_fareweb_k05_stops_that_are_not_there_holds

