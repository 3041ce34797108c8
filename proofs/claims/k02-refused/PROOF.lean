import PyProof.Rows.All
import Wide.All
import OpenK.AllK
import Wide.FinOn
import HandS.ForMost
import HandS.Steps
import HandS.Exc
import HandS.TryOnly
import HandS.ExcOwn
import HandS.WordsExc
import HandS.IsInst
import HandS.More
import HandS.Flow
import HandS.Strs
import HandS.SetFor
import HandS.ExcIs
import HandS.Rev
import HandS.Deep
import HandS.Conv
import HandS.HotCalls
import PySem.Challenge.RW_fareweb_k02_prices_refused
set_option Elab.async false
set_option linter.all false
set_option maxRecDepth 100000
set_option maxHeartbeats 4000000

/-! The base of these proofs: names for the operators' readings, small steps for readings, heaps. -/
namespace FW
open PySem PySem.Spec PyProof.Rows L2

/-! ### the operators' readings by short names -/
def rNeg : V → Hp → VK → Prop := rU fun i => .int (-i)
def rAddI : R2 := rI0 fun i j => .int (i + j)
def rSubI : R2 := rI0 fun i j => .int (i - j)
def rMulI : R2 := rI CMul fun i j => .int (i * j)
def rModI : R2 := rI (fun _ j => 0 < j) fun i j => .int (i % j)
def rDivI : R2 := rI CDiv fun i j => .int (i / j)
def rPowI : R2 := rI CPow fun i j => .int (i ^ j.toNat)
def rLtI : R2 := rI0 fun i j => .bl (decide (i < j))
def rLeI : R2 := rI0 fun i j => .bl (decide (i ≤ j))
def rGtI : R2 := rI0 fun i j => .bl (decide (j < i))
def rGeI : R2 := rI0 fun i j => .bl (decide (j ≤ i))
def rLenS (K : PySem.W.Frag) : List V → Hp → VK → Prop := fun xs H Q => ∃ p ys, xs = [.ref p] ∧ (SqL K H p ys ∨ SqT K H p ys) ∧ Q (.int ys.length) H
def rLenT : List V → Hp → VK → Prop := fun xs H Q => ∃ z, xs = [.str z] ∧ z.length ≤ sizeLine ∧ Q (.int z.length) H
def rListS (K : PySem.W.Frag) : List V → Hp → VK → Prop := fun xs H Q => ∃ p ys, xs = [.ref p] ∧ (SqL K H p ys ∨ SqT K H p ys) ∧ ∀ l, H l = none → Q (.ref l) (upd H l (.lst ys))
def rMin2 : List V → Hp → VK → Prop := fun xs H Q => ∃ i j, xs = [.int i, .int j] ∧ Q (.int (if j < i then j else i)) H
def rMax2 : List V → Hp → VK → Prop := fun xs H Q => ∃ i j, xs = [.int i, .int j] ∧ Q (.int (if j > i then j else i)) H
def rAbs : List V → Hp → VK → Prop := fun xs H Q => ∃ i, xs = [.int i] ∧ Q (.int (if i < 0 then -i else i)) H
def rInt1 : List V → Hp → VK → Prop := fun xs H Q => (∃ i, xs = [.int i] ∧ Q (.int i) H) ∨ ∃ k, xs = [.bl k] ∧ Q (.int (if k then 1 else 0)) H
def tTryOnly (K : PySem.W.Frag) (c : Value) (tb : WX → TS) (ts : Addr → Value → Option Addr → TS) : TS := fun D σ H => tb (wOnly K c ts (fun _ _ _ _ => False) D) D σ H


/-- a loop's word, closed: rd stops at it -/
structure Hold (P : Prop) : Prop where
  h : P
def rIsH (K : PySem.W.Frag) : List V → Hp → VK → Prop := fun xs H Q => Hold (rIsi K xs H Q)
theorem call_isH {X : Cx} : CallR X (.builtin "isinstance") (rIsH X.K) := fun pins s σ H xs us Q I r h => call_isi pins s σ H xs us Q I r h.h
def tIsi (K : PySem.W.Frag) (ta : TE) (c : V) : TE := fun σ H Q => ta σ H fun x H1 => rIsH K [x, c] H1 Q

/-! ### heaps -/
theorem _root_.L2.Same.new {H : Hp} {p : Addr} {o : HO} (h : H p = none) : Same H (upd H p o) := fun b x e => by
  rw [upd_ne (ne_of_none e h)]
  exact e
theorem _root_.L2.Same.mut {H H' : Hp} {p : Addr} {o : HO} (s : Same H H') (h : H p = none) : Same H (upd H' p o) := fun b x e => by
  rw [upd_ne (ne_of_none e h)]
  exact s b x e
theorem _root_.L2.Same.tup {K : PySem.W.Frag} {H H' : Hp} {a : Addr} {xs : List V} (e : Same H H') (h : SqT K H a xs) : SqT K H' a xs := by
  rcases h with (h | ⟨o, h⟩) | h
  · exact .inl (.inl (e _ _ h))
  · exact .inl (.inr ⟨o, e _ _ h⟩)
  · exact .inr h
theorem putF_le (f : Str) (v : V) : ∀ fs : List (Str × V), (putF f v fs).length ≤ fs.length + 1
  | [] => Nat.le_refl _
  | (g, w) :: r => by
    unfold putF
    split
    · simp
    · have := putF_le f v r
      simp only [List.length_cons]
      omega
theorem putF_1 {f : Str} {v : V} : (putF f v []).length < 1000 := by have := putF_le f v []; simp only [List.length_nil] at this; omega
theorem putF_2 {f g : Str} {v u : V} : (putF f v (putF g u [])).length < 1000 := by
  have h1 := putF_le f v (putF g u [])
  have h2 := putF_le g u []
  simp only [List.length_nil] at h2
  omega
theorem sq_ne {K : PySem.W.Frag} {H : Hp} {a b : Addr} {o : HO} {xs : List V} (n : b ≠ a) (h : SqL K H b xs) : SqL K (upd H a o) b xs := by
  rcases h with (h | ⟨u, h⟩) | h
  · exact .inl (.inl (by rw [upd_ne n]; exact h))
  · exact .inl (.inr ⟨u, by rw [upd_ne n]; exact h⟩)
  · exact .inr h
theorem st_ne {K : PySem.W.Frag} {H : Hp} {a b : Addr} {o : HO} {xs : List V} (n : b ≠ a) (h : SqT K H b xs) : SqT K (upd H a o) b xs := by
  rcases h with (h | ⟨u, h⟩) | h
  · exact .inl (.inl (by rw [upd_ne n]; exact h))
  · exact .inl (.inr ⟨u, by rw [upd_ne n]; exact h⟩)
  · exact .inr h
theorem sq_ins {K : PySem.W.Frag} {H : Hp} {a b C dx : Addr} {o : HO} {fs : List (Str × V)} {xs : List V} (e : H a = some (.ins C dx fs)) (h : SqL K H b xs) : SqL K (upd H a o) b xs := by
  rcases h with (h | ⟨u, h⟩) | h
  · exact .inl (.inl (by rw [upd_ne (ne_of h e (by intro z; cases z))]; exact h))
  · exact .inl (.inr ⟨u, by rw [upd_ne (ne_of h e (by intro z; cases z))]; exact h⟩)
  · exact .inr h
theorem st_ins {K : PySem.W.Frag} {H : Hp} {a b C dx : Addr} {o : HO} {fs : List (Str × V)} {xs : List V} (e : H a = some (.ins C dx fs)) (h : SqT K H b xs) : SqT K (upd H a o) b xs := by
  rcases h with (h | ⟨u, h⟩) | h
  · exact .inl (.inl (by rw [upd_ne (ne_of h e (by intro z; cases z))]; exact h))
  · exact .inl (.inr ⟨u, by rw [upd_ne (ne_of h e (by intro z; cases z))]; exact h⟩)
  · exact .inr h
theorem st_lst {K : PySem.W.Frag} {H : Hp} {a b : Addr} {o : HO} {ys xs : List V} (e : H a = some (.lst ys)) (h : SqT K H b xs) : SqT K (upd H a o) b xs := by
  rcases h with (h | ⟨u, h⟩) | h
  · exact .inl (.inl (by rw [upd_ne (ne_of h e (by intro z; cases z))]; exact h))
  · exact .inl (.inr ⟨u, by rw [upd_ne (ne_of h e (by intro z; cases z))]; exact h⟩)
  · exact .inr h
theorem sq_new {K : PySem.W.Frag} {H : Hp} {a b : Addr} {o : HO} {xs : List V} (e : H a = none) (h : SqL K H b xs) : SqL K (upd H a o) b xs := L2.Same.seq (Same.new e) h
theorem st_new {K : PySem.W.Frag} {H : Hp} {a b : Addr} {o : HO} {xs : List V} (e : H a = none) (h : SqT K H b xs) : SqT K (upd H a o) b xs := Same.tup (Same.new e) h
theorem ne_sym {a b : Addr} (h : a ≠ b) : b ≠ a := fun e => h e.symm
theorem upd_other {H : Hp} {a b : Addr} {o : HO} {u : Option HO} (h : b ≠ a) (e : H b = u) : upd H a o b = u := by rw [upd_ne h]; exact e
theorem ite_dT {p : Prop} [Decidable p] {A B : Prop} (h : p) (k : A) : if decide p = true then A else B := by
  rw [decide_eq_true h]
  exact iteT k
theorem ite_dF {p : Prop} [Decidable p] {A B : Prop} (h : ¬ p) (k : B) : if decide p = true then A else B := by
  rw [decide_eq_false h]
  exact iteF k
theorem ite_d {p : Prop} [Decidable p] {A B : Prop} (h1 : p → A) (h2 : ¬ p → B) : if decide p = true then A else B := by
  by_cases h : p
  · exact ite_dT h (h1 h)
  · exact ite_dF h (h2 h)
theorem ite_nT {p : Prop} [Decidable p] {A B : Prop} (h : ¬ p) (k : A) : if (!decide p) = true then A else B := by
  rw [decide_eq_false h]
  exact iteT k
theorem ite_nF {p : Prop} [Decidable p] {A B : Prop} (h : p) (k : B) : if (!decide p) = true then A else B := by
  rw [decide_eq_true h]
  exact iteF k
theorem ite_n {p : Prop} [Decidable p] {A B : Prop} (h1 : ¬ p → A) (h2 : p → B) : if (!decide p) = true then A else B := by
  by_cases h : p
  · exact ite_nF h (h2 h)
  · exact ite_nT h (h1 h)
theorem ite_b {b : Bool} {A B : Prop} (h1 : b = true → A) (h2 : b = false → B) : if b = true then A else B := by
  cases b with
  | true => exact iteT (h1 rfl)
  | false => exact iteF (h2 rfl)
theorem small {n m : Nat} (h : n ≤ 100000) : n ≤ sizeLine := Nat.le_trans h (by decide)
theorem small_lt {n : Nat} (h : n < 100000) : n < sizeLine := Nat.lt_of_lt_of_le h (by decide)
theorem small_le {n : Nat} (h : n ≤ 100000) : n ≤ sizeLine := Nat.le_trans h (by decide)
theorem atI_lt {α : Type} {xs : List α} {i : Int} {v : α} (h0 : 0 ≤ i) (h : xs[i.toNat]? = some v) : atI xs i = some v := by
  have e : i = ((i.toNat : Nat) : Int) := (Int.toNat_of_nonneg h0).symm
  rw [e]
  exact atI_nat h
theorem atI_map {ns : List Int} {i : Int} (h0 : 0 ≤ i) (h1 : i < ns.length) : atI (ns.map V.int) i = some (V.int (ns.getD i.toNat 0)) := by
  have h : i.toNat < ns.length := by omega
  refine atI_lt h0 ?_
  rw [List.getElem?_map, List.getElem?_eq_getElem h, List.getD_eq_getElem?_getD, List.getElem?_eq_getElem h]
  rfl


/-! ### a heap without one object: what is said of it stays when that object is changed -/
def del (H : Hp) (a : Addr) : Hp := fun b => if b = a then none else H b
theorem del_at {H : Hp} {a : Addr} : del H a a = none := by unfold del; rw [if_pos rfl]
theorem del_ne {H : Hp} {a b : Addr} (h : b ≠ a) : del H a b = H b := by unfold del; rw [if_neg h]
theorem del_get {H : Hp} {a b : Addr} {o : HO} (h : del H a b = some o) : H b = some o ∧ b ≠ a := by
  by_cases e : b = a
  · rw [e, del_at] at h
    cases h
  · exact ⟨by rw [del_ne e] at h; exact h, e⟩
theorem del_upd {H : Hp} {a : Addr} {o : HO} : del (upd H a o) a = del H a := by
  funext b
  by_cases e : b = a
  · rw [e, del_at, del_at]
  · rw [del_ne e, del_ne e, upd_ne e]
theorem upd_del {H : Hp} {a : Addr} {o : HO} : upd (del H a) a o = upd H a o := by
  funext b
  by_cases e : b = a
  · rw [e, upd_same, upd_same]
  · rw [upd_ne e, upd_ne e, del_ne e]
theorem upd_del_self {H : Hp} {a : Addr} {o : HO} (h : H a = some o) : upd (del H a) a o = H := by
  funext b
  by_cases e : b = a
  · rw [e, upd_same, h]
  · rw [upd_ne e, del_ne e]
theorem del_upd_ne {H : Hp} {a b : Addr} {o : HO} (n : b ≠ a) : del (upd H b o) a = upd (del H a) b o := by
  funext c
  by_cases e : c = a
  · rw [e, del_at, upd_ne (ne_sym n), del_at]
  · by_cases f : c = b
    · rw [f, del_ne n, upd_same, upd_same]
    · rw [del_ne e, upd_ne f, upd_ne f, del_ne e]
theorem del_sub (H : Hp) (a : Addr) : Same (del H a) H := fun b o e => (del_get e).1
theorem _root_.L2.Same.del2 {H H' : Hp} (a : Addr) (s : Same H H') : Same (del H a) (del H' a) := fun b o e => by
  obtain ⟨e1, n⟩ := del_get e
  rw [del_ne n]
  exact s _ _ e1
/-- what stood ahead of a's making stands still -/
theorem _root_.L2.Same.delN {H H' : Hp} {a : Addr} (s : Same H H') (h : H a = none) : Same H (del H' a) := fun b o e => by
  rw [del_ne (ne_of_none e h)]
  exact s _ _ e
theorem del_new {H : Hp} {a : Addr} {o : HO} (h : H a = none) : del (upd H a o) a = H := by
  rw [del_upd]
  funext b
  by_cases e : b = a
  · rw [e, del_at, h]
  · rw [del_ne e]

/-- a heap without the objects at hs -/
def dels (H : Hp) (hs : List Addr) : Hp := fun b => if b ∈ hs then none else H b
theorem dels_in {H : Hp} {hs : List Addr} {a : Addr} (h : a ∈ hs) : dels H hs a = none := by unfold dels; rw [if_pos h]
theorem dels_out {H : Hp} {hs : List Addr} {a : Addr} (h : a ∉ hs) : dels H hs a = H a := by unfold dels; rw [if_neg h]
theorem dels_get {H : Hp} {hs : List Addr} {a : Addr} {o : HO} (h : dels H hs a = some o) : H a = some o ∧ a ∉ hs := by
  by_cases c : a ∈ hs
  · rw [dels_in c] at h
    cases h
  · exact ⟨by rw [dels_out c] at h; exact h, c⟩
theorem dels_sub (H : Hp) (hs : List Addr) : Same (dels H hs) H := fun b o e => (dels_get e).1
theorem _root_.L2.Same.dels2 {H H' : Hp} (hs : List Addr) (s : Same H H') : Same (dels H hs) (dels H' hs) := fun b o e => by
  obtain ⟨e1, n⟩ := dels_get e
  rw [dels_out n]
  exact s _ _ e1
theorem _root_.L2.Same.delsN {H H' : Hp} {hs : List Addr} (s : Same H H') (h : ∀ a ∈ hs, H a = none) : Same H (dels H' hs) := fun b o e => by
  rw [dels_out fun m => ne_of_none e (h b m) rfl]
  exact s _ _ e

/-! ### comprehensions -/
/-- what turn i gives: a value, or nothing; the heap may grow -/
theorem lc_rangeF {lo : Int} {n : Nat} {g : TG} {tt : TT} {te : TE} {vs : List Nat} {σ : L2.St} {H1 : Hp} {D : Addr} {Qd : Hp → Prop} (hD : H1 D = none) (hn : n ≤ 50000) (F : Nat → Option V)
    (hs : ∀ (i : Nat) (H' : Hp), i < n → Same H1 H' → ∀ (G : V → Hp → Prop) (N : Hp → Prop), (∀ y H'', F i = some y → Same H' H'' → G y H'') → (∀ H'', F i = none → Same H' H'' → N H'') →
      g (.int (lo + i)) (wipe σ vs) H' fun σ2 H2 => wipe σ2 vs = wipe σ vs ∧ tt σ2 H2 fun b H3 => if b = true then te σ2 H3 G else N H3)
    (hd : ∀ H'', Same H1 (del H'' D) → H'' D = some (.lst ((List.range n).filterMap F)) → Qd H'') :
    ∃ W : Nat → Nat → Hp → Prop, (∃ m, W 0 m (upd H1 D (.lst []))) ∧ ∀ i m H, W i m H →
      ((Itr lo n).stop i H ∧ Qd H) ∨ ((Itr lo n).go i H ∧ ∃ Nx : Hp → Prop, (∀ H', Nx H' → ∃ m', m' < m ∧ W (i + 1) m' H') ∧ ∀ x H', (Itr lo n).yld i H x H' → g x (wipe σ vs) H' fun σ2 H2 => wipe σ2 vs = wipe σ vs ∧ tt σ2 H2 fun b H3 =>
        if b = true then te σ2 H3 fun y H4 => ∃ acc, H4 D = some (.lst acc) ∧ acc.length < sizeLine ∧ Nx (upd H4 D (.lst (acc ++ [y]))) else Nx H3) := by
  refine lc_range (fun i H' => Same H1 (del H' D) ∧ H' D = some (.lst ((List.range i).filterMap F))) ⟨by rw [del_new hD]; exact Same.refl _, upd_same⟩ (fun i H' hi ⟨p1, p2⟩ => ?_) (fun H' ⟨p1, p2⟩ => hd H' p1 p2)
  refine hs i H' hi (p1.trans (del_sub _ _)) _ _ (fun y H'' e s => ⟨_, s _ _ p2, ?_, p1.trans (by rw [del_upd]; exact s.del2 D), ?_⟩) (fun H'' e s => ⟨p1.trans (s.del2 D), ?_⟩)
  · refine small_lt ?_
    have h1 := List.length_filterMap_le F (List.range i)
    rw [List.length_range] at h1
    omega
  · rw [upd_same, List.range_succ, List.filterMap_append, List.filterMap_cons, e]
    rfl
  · rw [s _ _ p2, List.range_succ, List.filterMap_append, List.filterMap_cons, e, List.filterMap_nil, List.append_nil]
theorem filterMap_take {α β : Type} (f : α → Option β) {l : List α} {i : Nat} {x : α} (h : l[i]? = some x) : (l.take (i + 1)).filterMap f = (l.take i).filterMap f ++ (f x).toList := by
  rw [List.take_add_one, h, List.filterMap_append, Option.toList_some, List.filterMap_cons]
  cases f x <;> rfl
theorem lc_listF {K : PySem.W.Frag} {a : Addr} {xs : List V} {g : TG} {tt : TT} {te : TE} {vs : List Nat} {σ : L2.St} {H1 : Hp} {D : Addr} {Qd : Hp → Prop} (hD : H1 D = none) (hS : SqL K H1 a xs) (hn : xs.length ≤ 50000) (F : V → Option V)
    (hs : ∀ (i : Nat) (x : V) (H' : Hp), xs[i]? = some x → Same H1 H' → ∀ (G : V → Hp → Prop) (N : Hp → Prop), (∀ y H'', F x = some y → Same H' H'' → G y H'') → (∀ H'', F x = none → Same H' H'' → N H'') →
      g x (wipe σ vs) H' fun σ2 H2 => wipe σ2 vs = wipe σ vs ∧ tt σ2 H2 fun b H3 => if b = true then te σ2 H3 G else N H3)
    (hd : ∀ H'', Same H1 (del H'' D) → H'' D = some (.lst (xs.filterMap F)) → Qd H'') :
    ∃ W : Nat → Nat → Hp → Prop, (∃ m, W 0 m (upd H1 D (.lst []))) ∧ ∀ i m H, W i m H →
      ((Itl K a).stop i H ∧ Qd H) ∨ ((Itl K a).go i H ∧ ∃ Nx : Hp → Prop, (∀ H', Nx H' → ∃ m', m' < m ∧ W (i + 1) m' H') ∧ ∀ x H', (Itl K a).yld i H x H' → g x (wipe σ vs) H' fun σ2 H2 => wipe σ2 vs = wipe σ vs ∧ tt σ2 H2 fun b H3 =>
        if b = true then te σ2 H3 fun y H4 => ∃ acc, H4 D = some (.lst acc) ∧ acc.length < sizeLine ∧ Nx (upd H4 D (.lst (acc ++ [y]))) else Nx H3) := by
  refine lc_list (xs := xs) (fun i H' => Same H1 (del H' D) ∧ H' D = some (.lst ((xs.take i).filterMap F))) ⟨by rw [del_new hD]; exact Same.refl _, upd_same⟩ (fun i H' _ ⟨p1, p2⟩ => (p1.trans (del_sub _ _)).seq hS) (fun i x H' hx ⟨p1, p2⟩ => ?_) (fun H' ⟨p1, p2⟩ => hd H' p1 (by rw [List.take_length] at p2; exact p2))
  have hi : i < xs.length := (List.getElem?_eq_some_iff.mp hx).1
  refine hs i x H' hx (p1.trans (del_sub _ _)) _ _ (fun y H'' e s => ⟨_, s _ _ p2, ?_, p1.trans (by rw [del_upd]; exact s.del2 D), ?_⟩) (fun H'' e s => ⟨p1.trans (s.del2 D), ?_⟩)
  · refine small_lt ?_
    have h1 := List.length_filterMap_le F (xs.take i)
    rw [List.length_take] at h1
    omega
  · rw [upd_same, filterMap_take F hx, e]
    rfl
  · rw [s _ _ p2, filterMap_take F hx, e]
    simp
theorem lc_tupF {K : PySem.W.Frag} {a : Addr} {xs : List V} {g : TG} {tt : TT} {te : TE} {vs : List Nat} {σ : L2.St} {H1 : Hp} {D : Addr} {Qd : Hp → Prop} (hD : H1 D = none) (hS : SqT K H1 a xs) (hn : xs.length ≤ 50000) (F : V → Option V)
    (hs : ∀ (i : Nat) (x : V) (H' : Hp), xs[i]? = some x → Same H1 H' → ∀ (G : V → Hp → Prop) (N : Hp → Prop), (∀ y H'', F x = some y → Same H' H'' → G y H'') → (∀ H'', F x = none → Same H' H'' → N H'') →
      g x (wipe σ vs) H' fun σ2 H2 => wipe σ2 vs = wipe σ vs ∧ tt σ2 H2 fun b H3 => if b = true then te σ2 H3 G else N H3)
    (hd : ∀ H'', Same H1 (del H'' D) → H'' D = some (.lst (xs.filterMap F)) → Qd H'') :
    ∃ W : Nat → Nat → Hp → Prop, (∃ m, W 0 m (upd H1 D (.lst []))) ∧ ∀ i m H, W i m H →
      ((Itt K a).stop i H ∧ Qd H) ∨ ((Itt K a).go i H ∧ ∃ Nx : Hp → Prop, (∀ H', Nx H' → ∃ m', m' < m ∧ W (i + 1) m' H') ∧ ∀ x H', (Itt K a).yld i H x H' → g x (wipe σ vs) H' fun σ2 H2 => wipe σ2 vs = wipe σ vs ∧ tt σ2 H2 fun b H3 =>
        if b = true then te σ2 H3 fun y H4 => ∃ acc, H4 D = some (.lst acc) ∧ acc.length < sizeLine ∧ Nx (upd H4 D (.lst (acc ++ [y]))) else Nx H3) := by
  refine lc_tup (xs := xs) (fun i H' => Same H1 (del H' D) ∧ H' D = some (.lst ((xs.take i).filterMap F))) ⟨by rw [del_new hD]; exact Same.refl _, upd_same⟩ (fun i H' _ ⟨p1, p2⟩ => Same.tup (p1.trans (del_sub _ _)) hS) (fun i x H' hx ⟨p1, p2⟩ => ?_) (fun H' ⟨p1, p2⟩ => hd H' p1 (by rw [List.take_length] at p2; exact p2))
  have hi : i < xs.length := (List.getElem?_eq_some_iff.mp hx).1
  refine hs i x H' hx (p1.trans (del_sub _ _)) _ _ (fun y H'' e s => ⟨_, s _ _ p2, ?_, p1.trans (by rw [del_upd]; exact s.del2 D), ?_⟩) (fun H'' e s => ⟨p1.trans (s.del2 D), ?_⟩)
  · refine small_lt ?_
    have h1 := List.length_filterMap_le F (xs.take i)
    rw [List.length_take] at h1
    omega
  · rw [upd_same, filterMap_take F hx, e]
    rfl
  · rw [s _ _ p2, filterMap_take F hx, e]
    simp
/-- each turn gives a value of which P holds (P stays while the heap grows) -/
theorem lc_rangeP {lo : Int} {n : Nat} {g : TG} {tt : TT} {te : TE} {vs : List Nat} {σ : L2.St} {H1 : Hp} {D : Addr} {Qd : Hp → Prop} (hD : H1 D = none) (hn : n ≤ 50000) (P : Nat → V → Hp → Prop) (hP : ∀ i y H H', P i y H → Same H H' → P i y H')
    (hs : ∀ (i : Nat) (H' : Hp), i < n → Same H1 H' → ∀ (G : V → Hp → Prop) (N : Hp → Prop), (∀ y H'', P i y (del H'' D) → Same H' H'' → G y H'') →
      g (.int (lo + i)) (wipe σ vs) H' fun σ2 H2 => wipe σ2 vs = wipe σ vs ∧ tt σ2 H2 fun b H3 => if b = true then te σ2 H3 G else N H3)
    (hd : ∀ H'' ys, Same H1 (del H'' D) → H'' D = some (.lst ys) → ys.length = n → (∀ (i : Nat) y, ys[i]? = some y → P i y (del H'' D)) → Qd H'') :
    ∃ W : Nat → Nat → Hp → Prop, (∃ m, W 0 m (upd H1 D (.lst []))) ∧ ∀ i m H, W i m H →
      ((Itr lo n).stop i H ∧ Qd H) ∨ ((Itr lo n).go i H ∧ ∃ Nx : Hp → Prop, (∀ H', Nx H' → ∃ m', m' < m ∧ W (i + 1) m' H') ∧ ∀ x H', (Itr lo n).yld i H x H' → g x (wipe σ vs) H' fun σ2 H2 => wipe σ2 vs = wipe σ vs ∧ tt σ2 H2 fun b H3 =>
        if b = true then te σ2 H3 fun y H4 => ∃ acc, H4 D = some (.lst acc) ∧ acc.length < sizeLine ∧ Nx (upd H4 D (.lst (acc ++ [y]))) else Nx H3) := by
  refine lc_range (fun i H' => Same H1 (del H' D) ∧ ∃ ys, H' D = some (.lst ys) ∧ ys.length = i ∧ ∀ (j : Nat) y, ys[j]? = some y → P j y (del H' D)) ⟨by rw [del_new hD]; exact Same.refl _, [], upd_same, rfl, fun j y h => by simp at h⟩ (fun i H' hi ⟨p1, ys, p2, p3, p4⟩ => ?_) (fun H' ⟨p1, ys, p2, p3, p4⟩ => hd H' ys p1 p2 p3 p4)
  refine hs i H' hi (p1.trans (del_sub _ _)) _ _ (fun y H'' hy s => ⟨_, s _ _ p2, small_lt (by omega), p1.trans (by rw [del_upd]; exact s.del2 D), ys ++ [y], upd_same, by simp [p3], fun j z hz => ?_⟩)
  rw [del_upd]
  by_cases e : j < ys.length
  · rw [List.getElem?_append_left e] at hz
    exact hP _ _ _ _ (p4 j z hz) (s.del2 D)
  · rw [List.getElem?_append_right (by omega)] at hz
    have e0 : j - ys.length = 0 := by
      cases q : j - ys.length with
      | zero => rfl
      | succ m => rw [q] at hz; simp at hz
    rw [e0] at hz
    have ez : y = z := Option.some.inj hz
    have ej : j = i := by omega
    rw [← ez, ej]
    exact hy
theorem lc_listP {K : PySem.W.Frag} {a : Addr} {xs : List V} {g : TG} {tt : TT} {te : TE} {vs : List Nat} {σ : L2.St} {H1 : Hp} {D : Addr} {Qd : Hp → Prop} (hD : H1 D = none) (hS : SqL K H1 a xs) (hn : xs.length ≤ 50000) (P : Nat → V → Hp → Prop) (hP : ∀ i y H H', P i y H → Same H H' → P i y H')
    (hs : ∀ (i : Nat) (x : V) (H' : Hp), xs[i]? = some x → Same H1 H' → H' D ≠ none → ∀ (G : V → Hp → Prop) (N : Hp → Prop), (∀ y H'', P i y (del H'' D) → Same H' H'' → G y H'') →
      g x (wipe σ vs) H' fun σ2 H2 => wipe σ2 vs = wipe σ vs ∧ tt σ2 H2 fun b H3 => if b = true then te σ2 H3 G else N H3)
    (hd : ∀ H'' ys, Same H1 (del H'' D) → H'' D = some (.lst ys) → ys.length = xs.length → (∀ (i : Nat) y, ys[i]? = some y → P i y (del H'' D)) → Qd H'') :
    ∃ W : Nat → Nat → Hp → Prop, (∃ m, W 0 m (upd H1 D (.lst []))) ∧ ∀ i m H, W i m H →
      ((Itl K a).stop i H ∧ Qd H) ∨ ((Itl K a).go i H ∧ ∃ Nx : Hp → Prop, (∀ H', Nx H' → ∃ m', m' < m ∧ W (i + 1) m' H') ∧ ∀ x H', (Itl K a).yld i H x H' → g x (wipe σ vs) H' fun σ2 H2 => wipe σ2 vs = wipe σ vs ∧ tt σ2 H2 fun b H3 =>
        if b = true then te σ2 H3 fun y H4 => ∃ acc, H4 D = some (.lst acc) ∧ acc.length < sizeLine ∧ Nx (upd H4 D (.lst (acc ++ [y]))) else Nx H3) := by
  refine lc_list (xs := xs) (fun i H' => Same H1 (del H' D) ∧ ∃ ys, H' D = some (.lst ys) ∧ ys.length = i ∧ ∀ (j : Nat) y, ys[j]? = some y → P j y (del H' D)) ⟨by rw [del_new hD]; exact Same.refl _, [], upd_same, rfl, fun j y h => by simp at h⟩ (fun i H' _ ⟨p1, p2⟩ => (p1.trans (del_sub _ _)).seq hS) (fun i x H' hx ⟨p1, ys, p2, p3, p4⟩ => ?_) (fun H' ⟨p1, ys, p2, p3, p4⟩ => hd H' ys p1 p2 p3 p4)
  have hi : i < xs.length := (List.getElem?_eq_some_iff.mp hx).1
  refine hs i x H' hx (p1.trans (del_sub _ _)) (by rw [p2]; intro z; cases z) _ _ (fun y H'' hy s => ⟨_, s _ _ p2, small_lt (by omega), p1.trans (by rw [del_upd]; exact s.del2 D), ys ++ [y], upd_same, by simp [p3], fun j z hz => ?_⟩)
  rw [del_upd]
  by_cases e : j < ys.length
  · rw [List.getElem?_append_left e] at hz
    exact hP _ _ _ _ (p4 j z hz) (s.del2 D)
  · rw [List.getElem?_append_right (by omega)] at hz
    have e0 : j - ys.length = 0 := by
      cases q : j - ys.length with
      | zero => rfl
      | succ m => rw [q] at hz; simp at hz
    rw [e0] at hz
    have ez : y = z := Option.some.inj hz
    have ej : j = i := by omega
    rw [← ez, ej]
    exact hy

theorem fm_some {α β : Type} {f : α → β} {l : List α} : l.filterMap (fun k => some (f k)) = l.map f := by
  induction l with
  | nil => rfl
  | cons a r ih => rw [List.filterMap_cons, ih]; rfl
/-- the new objects that a comprehension has made so far, at addrs -/
structure News (H1 : Hp) (D : Addr) (obj : Nat → HO) (addrs : List Addr) (H' : Hp) : Prop where
  same : Same H1 (del H' D)
  lst : H' D = some (.lst (addrs.map V.ref))
  nd : addrs.Nodup
  old : ∀ p ∈ addrs, H1 p = none
  at_ : ∀ (j : Nat) (p : Addr), addrs[j]? = some p → del H' D p = some (obj j)
theorem News.snoc {H1 H' H'' : Hp} {D l : Addr} {obj : Nat → HO} {addrs : List Addr} (N : News H1 D obj addrs H') (hl : H' l = none) (s : Same H' H'') (e : H'' l = some (obj addrs.length)) :
    News H1 D obj (addrs ++ [l]) (upd H'' D (.lst (addrs.map V.ref ++ [.ref l]))) where
  same := by rw [del_upd]; exact N.same.trans (s.del2 D)
  lst := by rw [upd_same, List.map_append]; rfl
  nd := by
    refine List.nodup_append.mpr ⟨N.nd, by simp, fun a ha b hb => ?_⟩
    have eb : b = l := by simpa using hb
    rw [eb]
    intro e2
    obtain ⟨j, hj⟩ := List.mem_iff_getElem?.mp ha
    have := (del_get (N.at_ j a hj)).1
    rw [e2, hl] at this
    cases this
  old := fun p hp => by
    rcases List.mem_append.mp hp with h | h
    · exact N.old p h
    · have ep : p = l := by simpa using h
      rw [ep]
      cases q : H1 l with
      | none => rfl
      | some o =>
        have := (del_get (N.same l o q)).1
        rw [hl] at this
        cases this
  at_ := fun j p hj => by
    rw [del_upd]
    by_cases c : j < addrs.length
    · rw [List.getElem?_append_left c] at hj
      exact s.del2 D _ _ (N.at_ j p hj)
    · have hjl : j < (addrs ++ [l]).length := (List.getElem?_eq_some_iff.mp hj).1
      rw [List.length_append, List.length_singleton] at hjl
      have ej : j = addrs.length := by omega
      rw [ej, List.getElem?_append_right (Nat.le_refl _), Nat.sub_self] at hj
      have ep : l = p := Option.some.inj hj
      have nlD : l ≠ D := fun z => by rw [z, N.lst] at hl; cases hl
      rw [← ep, del_ne nlD, e, ej]
theorem News.nil {H1 : Hp} {D : Addr} {obj : Nat → HO} (hD : H1 D = none) : News H1 D obj [] (upd H1 D (.lst [])) where
  same := by rw [del_new hD]; exact Same.refl _
  lst := upd_same
  nd := List.nodup_nil
  old := fun p hp => by simp at hp
  at_ := fun j p h => by simp at h
/-- each turn makes one new object -/
theorem lc_rangeN {lo : Int} {n : Nat} {g : TG} {tt : TT} {te : TE} {vs : List Nat} {σ : L2.St} {H1 : Hp} {D : Addr} {Qd : Hp → Prop} (hD : H1 D = none) (hn : n ≤ 50000) (obj : Nat → HO)
    (hs : ∀ (i : Nat) (H' : Hp), i < n → Same H1 H' → ∀ (G : V → Hp → Prop) (N : Hp → Prop), (∀ l H'', H' l = none → Same H' H'' → H'' l = some (obj i) → G (.ref l) H'') →
      g (.int (lo + i)) (wipe σ vs) H' fun σ2 H2 => wipe σ2 vs = wipe σ vs ∧ tt σ2 H2 fun b H3 => if b = true then te σ2 H3 G else N H3)
    (hd : ∀ H'' addrs, addrs.length = n → News H1 D obj addrs H'' → Qd H'') :
    ∃ W : Nat → Nat → Hp → Prop, (∃ m, W 0 m (upd H1 D (.lst []))) ∧ ∀ i m H, W i m H →
      ((Itr lo n).stop i H ∧ Qd H) ∨ ((Itr lo n).go i H ∧ ∃ Nx : Hp → Prop, (∀ H', Nx H' → ∃ m', m' < m ∧ W (i + 1) m' H') ∧ ∀ x H', (Itr lo n).yld i H x H' → g x (wipe σ vs) H' fun σ2 H2 => wipe σ2 vs = wipe σ vs ∧ tt σ2 H2 fun b H3 =>
        if b = true then te σ2 H3 fun y H4 => ∃ acc, H4 D = some (.lst acc) ∧ acc.length < sizeLine ∧ Nx (upd H4 D (.lst (acc ++ [y]))) else Nx H3) := by
  refine lc_range (fun i H' => ∃ addrs : List Addr, addrs.length = i ∧ News H1 D obj addrs H') ⟨[], rfl, News.nil hD⟩ (fun i H' hi ⟨addrs, hl, N⟩ => ?_) (fun H' ⟨addrs, hl, N⟩ => hd H' addrs hl N)
  refine hs i H' hi (N.same.trans (del_sub _ _)) _ _ (fun l H'' h1 s e => ⟨_, s _ _ N.lst, small_lt (by rw [List.length_map]; omega), addrs ++ [l], by simp [hl], N.snoc h1 s (by rw [hl]; exact e)⟩)
theorem lc_listN {K : PySem.W.Frag} {a : Addr} {xs : List V} {g : TG} {tt : TT} {te : TE} {vs : List Nat} {σ : L2.St} {H1 : Hp} {D : Addr} {Qd : Hp → Prop} (hD : H1 D = none) (hS : SqL K H1 a xs) (hn : xs.length ≤ 50000) (obj : Nat → HO)
    (hs : ∀ (i : Nat) (x : V) (H' : Hp), xs[i]? = some x → Same H1 H' → ∀ (G : V → Hp → Prop) (N : Hp → Prop), (∀ l H'', H' l = none → Same H' H'' → H'' l = some (obj i) → G (.ref l) H'') →
      g x (wipe σ vs) H' fun σ2 H2 => wipe σ2 vs = wipe σ vs ∧ tt σ2 H2 fun b H3 => if b = true then te σ2 H3 G else N H3)
    (hd : ∀ H'' addrs, addrs.length = xs.length → News H1 D obj addrs H'' → Qd H'') :
    ∃ W : Nat → Nat → Hp → Prop, (∃ m, W 0 m (upd H1 D (.lst []))) ∧ ∀ i m H, W i m H →
      ((Itl K a).stop i H ∧ Qd H) ∨ ((Itl K a).go i H ∧ ∃ Nx : Hp → Prop, (∀ H', Nx H' → ∃ m', m' < m ∧ W (i + 1) m' H') ∧ ∀ x H', (Itl K a).yld i H x H' → g x (wipe σ vs) H' fun σ2 H2 => wipe σ2 vs = wipe σ vs ∧ tt σ2 H2 fun b H3 =>
        if b = true then te σ2 H3 fun y H4 => ∃ acc, H4 D = some (.lst acc) ∧ acc.length < sizeLine ∧ Nx (upd H4 D (.lst (acc ++ [y]))) else Nx H3) := by
  refine lc_list (xs := xs) (fun i H' => ∃ addrs : List Addr, addrs.length = i ∧ News H1 D obj addrs H') ⟨[], rfl, News.nil hD⟩ (fun i H' _ ⟨addrs, hl, N⟩ => (N.same.trans (del_sub _ _)).seq hS) (fun i x H' hx ⟨addrs, hl, N⟩ => ?_) (fun H' ⟨addrs, hl, N⟩ => hd H' addrs hl N)
  have hi : i < xs.length := (List.getElem?_eq_some_iff.mp hx).1
  refine hs i x H' hx (N.same.trans (del_sub _ _)) _ _ (fun l H'' h1 s e => ⟨_, s _ _ N.lst, small_lt (by rw [List.length_map]; omega), addrs ++ [l], by simp [hl], N.snoc h1 s (by rw [hl]; exact e)⟩)

/-! ### data to be compared -/
mutual
theorem Dp.same {K : PySem.W.Frag} {H H' : Hp} (s : Same H H') : ∀ (d : PyData) (v : V), Dp K H v d → Dp K H' v d
  | .none, _, h => by cases h; exact .non
  | .bool b, _, h => by cases h; exact .bl b
  | .int i, _, h => by cases h; exact .int i
  | .str x, _, h => by cases h; exact .str x
  | .list ds, _, h => by
    cases h with
    | lst hs ha => exact .lst (s.seq hs) (DpAll.same s ds _ ha)
  | .tuple ds, _, h => by
    cases h with
    | tup hs ha => exact .tup (Same.tup s hs) (DpAll.same s ds _ ha)
  | .dict _, _, h => by cases h
theorem DpAll.same {K : PySem.W.Frag} {H H' : Hp} (s : Same H H') : ∀ (ds : List PyData) (vs : List V), DpAll K H vs ds → DpAll K H' vs ds
  | [], _, h => by cases h; exact .nil
  | d :: ds, _, h => by
    cases h with
    | cons h1 h2 => exact .cons (Dp.same s d _ h1) (DpAll.same s ds _ h2)
end
/-- shaped, and no deeper than n -/
def Shp (n : Nat) (d : PyData) : Prop := d.canLay0 = true ∧ d.depth ≤ n
theorem Shp.all {n : Nat} : ∀ {ds : List PyData}, (∀ d ∈ ds, Shp n d) → PyData.canLayAll0 ds = true ∧ PyData.depthAll ds ≤ n
  | [], _ => ⟨rfl, Nat.zero_le _⟩
  | d :: ds, h => by
    obtain ⟨h1, h2⟩ := h d List.mem_cons_self
    obtain ⟨h3, h4⟩ := Shp.all (ds := ds) fun x hx => h x (List.mem_cons_of_mem _ hx)
    refine ⟨?_, ?_⟩
    · show (d.canLay0 && PyData.canLayAll0 ds) = true
      rw [h1, h3]
      rfl
    · show max d.depth (PyData.depthAll ds) ≤ n
      omega
theorem Shp.list {n : Nat} {ds : List PyData} (h : ∀ d ∈ ds, Shp n d) : Shp (n + 1) (.list ds) := by
  obtain ⟨h1, h2⟩ := Shp.all h
  exact ⟨h1, Nat.succ_le_succ h2⟩
theorem Shp.tuple {n : Nat} {ds : List PyData} (h : ∀ d ∈ ds, Shp n d) : Shp (n + 1) (.tuple ds) := by
  obtain ⟨h1, h2⟩ := Shp.all h
  exact ⟨h1, Nat.succ_le_succ h2⟩
theorem Shp.int (n : Nat) (i : Int) : Shp n (.int i) := ⟨rfl, Nat.zero_le _⟩
theorem Shp.non (n : Nat) : Shp n .none := ⟨rfl, Nat.zero_le _⟩
theorem Shp.ok {n : Nat} {d : PyData} (h : Shp n d) (hn : n ≤ 64) : SeqAt.shaped d = true := by
  unfold SeqAt.shaped
  rw [h.1, decide_eq_true (Nat.le_trans h.2 hn)]
  rfl
theorem Shp.refl {n : Nat} {d : PyData} (h : Shp n d) : PyData.eqv d d = true := SeqAt.eqv_refl d h.1
theorem dpAll_ints {K : PySem.W.Frag} {H : Hp} : ∀ ns : List Int, DpAll K H (ns.map V.int) (ns.map PyData.int)
  | [] => .nil
  | n :: r => .cons (.int n) (dpAll_ints r)
theorem dp_ints {K : PySem.W.Frag} {H : Hp} {a : Addr} {ns : List Int} (h : SqL K H a (ns.map V.int)) : Dp K H (.ref a) (.list (ns.map PyData.int)) := .lst h (dpAll_ints ns)
theorem shp_ints (ns : List Int) : Shp 1 (.list (ns.map PyData.int)) := Shp.list fun d hd => by
  obtain ⟨i, _, rfl⟩ := List.mem_map.mp hd
  exact Shp.int 0 i
/-- == of equal data, as the reading of op_eqD, op_neD wants it -/
def rEqH (K : PySem.W.Frag) : R2 := fun x y H Q => Hold (rEqD K x y H Q)
def rNeH (K : PySem.W.Frag) : R2 := fun x y H Q => Hold (rNeD K x y H Q)
theorem op_eqH {X : Cx} (hu : X.A.units + 64 < cLine) : OpR X (compareOp .Eq) (rEqH X.K) := fun pins s σ H x y v u Q I rx ry h => op_eqD hu pins s σ H x y v u Q I rx ry h.h
theorem op_neH {X : Cx} (hu : X.A.units + 64 < cLine) : OpR X (compareOp .NotEq) (rNeH X.K) := fun pins s σ H x y v u Q I rx ry h => op_neD hu pins s σ H x y v u Q I rx ry h.h
theorem eqD_yes {K : PySem.W.Frag} {H : Hp} {x y : V} {d : PyData} {n : Nat} {Q : VK} (h1 : Dp K H x d) (h2 : Dp K H y d) (hs : Shp n d) (hn : n ≤ 64) (q : Q (.bl true) H) : rEqH K x y H Q :=
  .mk ⟨d, d, h1, h2, hs.ok hn, hs.ok hn, by rw [hs.refl]; exact q⟩
theorem neD_no {K : PySem.W.Frag} {H : Hp} {x y : V} {d : PyData} {n : Nat} {Q : VK} (h1 : Dp K H x d) (h2 : Dp K H y d) (hs : Shp n d) (hn : n ≤ 64) (q : Q (.bl false) H) : rNeH K x y H Q :=
  .mk ⟨d, d, h1, h2, hs.ok hn, hs.ok hn, by rw [hs.refl]; exact q⟩
/-! ### isinstance -/
theorem isi_yes {K : PySem.W.Frag} {H : Hp} {x : V} {T : String} {Q : VK} (h : TyOf K H x (.type T)) (hk : kitB T T = some true) (q : Q (.bl true) H) : rIsH K [x, .ty T] H Q :=
  .mk ⟨x, .ty T, .type T, .type T, true, rfl, .ty T, .base h, kit_ty hk, q⟩
theorem isi_no {K : PySem.W.Frag} {H : Hp} {x : V} {T U : String} {Q : VK} (h : TyOf K H x (.type T)) (hk : kitB T U = some false) (q : Q (.bl false) H) : rIsH K [x, .ty U] H Q :=
  .mk ⟨x, .ty U, .type T, .type U, false, rfl, .ty U, .base h, kit_ty hk, q⟩
theorem kb_int : kitB "int" "int" = some true := by decide +kernel
theorem kb_intbool : kitB "int" "bool" = some false := by decide +kernel
theorem kb_list : kitB "list" "list" = some true := by decide +kernel
theorem kb_tuple : kitB "tuple" "tuple" = some true := by decide +kernel
/-- a loop over enumerate(a list) -/
theorem for_enumL {K : PySem.W.Frag} {a : Addr} {xs : List V} {g : TG} {tb : TS} {D : Ends} {σ : L2.St} {H : Hp} (Pv : Nat → L2.St → Hp → Prop) (h0 : Pv 0 σ H) (hl : ∀ i σ H, i ≤ xs.length → Pv i σ H → SqL K H a xs)
    (hs : ∀ (i : Nat) (x : V) (σ : L2.St) (H : Hp) (T : Addr), xs[i]? = some x → Pv i σ H → H T = none → g (.ref T) σ (upd H T (.tup [.int (i : Nat), x])) fun σ2 H2 => tb { D with nx := Pv (i + 1), ct := Pv (i + 1), bk := D.nx } σ2 H2) (hd : ∀ σ H, Pv xs.length σ H → D.nx σ H) :
    ∃ W : Nat → Nat → L2.St → Hp → Prop, (∃ m, W 0 m σ H) ∧ ∀ i m σ H, W i m σ H →
      ((Ite K a).stop i H ∧ D.nx σ H) ∨ ((Ite K a).go i H ∧ ∃ N : L2.St → Hp → Prop, (∀ σ' H', N σ' H' → ∃ m', m' < m ∧ W (i + 1) m' σ' H') ∧ ∀ v H', (Ite K a).yld i H v H' → g v σ H' fun σ2 H2 => tb { D with nx := N, ct := N, bk := D.nx } σ2 H2) := by
  refine ⟨fun i m σ H => m = xs.length - i ∧ i ≤ xs.length ∧ Pv i σ H, ⟨xs.length, rfl, Nat.zero_le _, h0⟩, ?_⟩
  rintro i m σ H ⟨rfl, hi, p⟩
  have q := hl i σ H hi p
  by_cases c : i < xs.length
  · refine .inr ⟨⟨xs, xs[i], q, List.getElem?_eq_getElem c⟩, Pv (i + 1), fun σ' H' p' => ⟨xs.length - (i + 1), by omega, rfl, c, p'⟩, ?_⟩
    rintro v H' ⟨T, x, rfl, nT, rfl, hx⟩
    exact hs i x σ H T (hx xs q) p nT
  · have e : i = xs.length := by omega
    subst e
    exact .inl ⟨⟨xs, q, Nat.le_refl _⟩, hd σ H p⟩
theorem pe_gc {X : Cx} {x : Str} {pos : Pos} {v : V} (hg : Gl X x) (h : ∃ u, X.mg x = some u ∧ RelV v u) (hd : (x == ("__debug__" : Str)) = false := by decide) : PE X (.Name x pos) (tC v) := by
  obtain ⟨u, hm, r⟩ := h
  exact pe_glob hg hm r hd
theorem glob_int {mg : Str → Option Value} {x : Str} {i : Int} (h : ∃ t, mg x = some (.int i t)) : ∃ u, mg x = some u ∧ RelV (.int i) u := let ⟨t, e⟩ := h; ⟨_, e, t, rfl⟩
theorem cx_none {P : Program} {w : World} {H : Hp} {s s' : Shared} {e : Value} (z : L2.CX P w [] H s (fun _ _ _ => False) e s') : False := by
  obtain ⟨_, _, _, _, _, _, _, _, _, _, _, _, z⟩ := z
  exact z
/-! ### list.insert -/
def rInsert : V → List V → Hp → VK → Prop := fun x vs H Q => ∃ (l : Addr) (xs : List V) (i : Int) (y : V), x = .ref l ∧ vs = [.int i, y] ∧ H l = some (.lst xs) ∧ xs.length < sizeLine ∧ 0 ≤ i ∧ i < 2 ^ 63 ∧ Q .non (upd H l (.lst (xs.take i.toNat ++ [y] ++ xs.drop i.toNat)))
theorem mt_ins {X : Cx} : MtR X "list.insert" rInsert := mt_insert

/-! ### a caught exception's suite, isinstance of it -/
/-- the suite's word, where the exception is of an own class without attributes of its own -/
def tExc (K : PySem.W.Frag) (cls : Value) (d : Option Addr) (t : Addr → TS) : TS := fun D σ H => Hold (∃ C, cls = .ref C ∧ d = none ∧ ExcC K C ∧ t C D σ H)
theorem pss_exc {X : Cx} {cls : Value} {d : Option Addr} {ss : List Stmt} {t : Addr → TS} (h : ∀ C, cls = .ref C → d = none → ExcC X.K C → PSs X ss (t C)) : PSs X ss (tExc X.K cls d t) :=
  ⟨fun pins s σ H D I q => let ⟨C, e1, e2, c, q⟩ := q.h; (h C e1 e2 c).run pins s σ H D I q⟩
def rIsEH (K : PySem.W.Frag) (C a : Addr) : List V → Hp → VK → Prop := fun xs H Q => Hold (rIsE K C a xs H Q)
theorem call_isEH {X : Cx} {a : Addr} {C : Addr} {cls : Value} {d : Option Addr} {oe : Obj} {pn : List (Addr × Obj)} (hC : ExcC X.K C) (e1 : cls = .ref C) (e2 : d = none) (hz : Zc cls d oe) (hf : ∃ vs, oe.data = .fields vs) : CallR (X.suite a ((a, oe) :: pn)) (.builtin "isinstance") (rIsEH X.K C a) :=
  fun pins s σ H xs us Q I r h => call_isE hC (by rw [← e1, ← e2]; exact hz) hf pins s σ H xs us Q I r h.h
theorem isE_own {K : PySem.W.Frag} {C a c : Addr} {b : Bool} {H : Hp} {Q : VK} (h : PySem.W.kitOne K (.ref C) (.ref c) = some b) (q : Q (.bl b) H) : rIsEH K C a [.ref a, .ref c] H Q := .mk ⟨_, .ref c, b, rfl, fun _ r => r, h, q⟩
theorem isE_ty {K : PySem.W.Frag} {C a : Addr} {c : String} {b : Bool} {H : Hp} {Q : VK} (h : PySem.W.kitOne K (.ref C) (.type c) = some b) (q : Q (.bl b) H) : rIsEH K C a [.ref a, .ty c] H Q := .mk ⟨_, .type c, b, rfl, fun _ r => r, h, q⟩
def tTryAs (K : PySem.W.Frag) (c : Value) (i : Nat) (tb : WX → TS) (ts : Addr → Addr → TS) : TS := fun D σ H => tb (wAs K c i (fun a cls d => tExc K cls d (fun C => ts a C)) (fun _ _ _ _ => False) D) D σ H
/-- what is known of a class by its written part -/
structure ClsE (K : PySem.W.Frag) (C : Addr) : Prop where
  bx : PySem.W.subIn K (.ref C) (.type "BaseException") = some true
  hd : PySem.W.hasDictIn K C = true
  ty : PySem.W.typeIn K (.ref C) = some (.type "type")
theorem kit_own {K : PySem.W.Frag} {C D : Addr} {b : Bool} (c : ClsE K C) (h : PySem.W.subIn K (.ref D) (.ref C) = some b) (hs : PySem.W.subIn K (.ref D) (.ref D) = some true) : PySem.W.kitOne K (.ref D) (.ref C) = some b := by
  obtain ⟨cd, hc, _⟩ := PySem.W.any_some c.hd
  unfold PySem.W.kitOne
  by_cases e : D = C
  · subst e
    rw [hs] at h
    rw [if_pos (beq_iff_eq.mpr rfl)]
    exact h
  · rw [if_neg (fun z => e (Value.ref.inj (beq_iff_eq.mp z)))]
    show (if ((PySem.W.clsIn K C).isSome && PySem.W.typeIn K (.ref C) == some (.type "type")) = true then PySem.W.subIn K (.ref D) (.ref C) else none) = some b
    have e3 : ((PySem.W.clsIn K C).isSome && PySem.W.typeIn K (.ref C) == some (.type "type")) = true := by
      rw [hc, c.ty]
      exact beq_self_eq_true (some (Value.type "type"))
    rw [if_pos e3]
    exact h
theorem kit_type {K : PySem.W.Frag} {D : Addr} {T : String} {b : Bool} (hm : PySem.W.kitMeta T = true) (h : PySem.W.subIn K (.ref D) (.type T) = some b) : PySem.W.kitOne K (.ref D) (.type T) = some b := by
  unfold PySem.W.kitOne
  rw [if_neg (fun z => by have := beq_iff_eq.mp z; cases this)]
  show (if PySem.W.kitMeta T = true then PySem.W.subIn K (.ref D) (.type T) else none) = some b
  rw [if_pos hm]
  exact h
theorem meta_ve : PySem.W.kitMeta "ValueError" = true := by decide +kernel
/-- an except clause that meets an exception -/
theorem was {K : PySem.W.Frag} {C c : Addr} {i : Nat} {t : Addr → Addr → TS} {Wout : WX} {D : Ends} {σ : L2.St} {H : Hp} (hx : PySem.W.exmOne K (.ref C) (.ref c) = some true) (hC : ExcC K C)
    (q : ∀ a, H a = none → t a C { nx := fun σ' H' => D.nx (σ'.set i none) H', rt := D.rt, bk := fun σ' H' => D.bk (σ'.set i none) H', ct := fun σ' H' => D.ct (σ'.set i none) H' } (σ.set i (some (.ref a))) H) :
    wAs K (.ref c) i (fun a cls d => tExc K cls d (t a)) Wout D (.ref C) none σ H := ⟨true, hx, fun _ a ha => .mk ⟨C, rfl, rfl, hC, q a ha⟩, fun z => nomatch z⟩
/-! ### x not in a list of data -/
def rNotInH (K : PySem.W.Frag) : R2 := fun x y H Q => Hold (rNotInD K x y H Q)
theorem op_notInH {X : Cx} (hu : X.A.units + 65 < cLine) : OpR X (compareOp .NotIn) (rNotInH X.K) := fun pins s σ H x y v u Q I rx ry h => op_notInD hu pins s σ H x y v u Q I rx ry h.h
theorem notIn_no {K : PySem.W.Frag} {H : Hp} {x y : V} {d : PyData} {ds : List PyData} {n m : Nat} {Q : VK} (h1 : Dp K H x d) (h2 : Dp K H y (.list ds)) (s1 : Shp n d) (s2 : Shp m (.list ds)) (hn : n ≤ 64) (hm : m ≤ 64) (mem : d ∈ ds) (q : Q (.bl false) H) : rNotInH K x y H Q := .mk ⟨d, ds, h1, h2, s1.ok hn, s2.ok hm, by
  have e : (ds.any fun z => PyData.eqv z d) = true := List.any_eq_true.mpr ⟨d, mem, s1.refl⟩
  rw [e]
  exact q⟩
theorem notIn_any {K : PySem.W.Frag} {H : Hp} {x y : V} {d : PyData} {ds : List PyData} {n m : Nat} {Q : VK} (h1 : Dp K H x d) (h2 : Dp K H y (.list ds)) (s1 : Shp n d) (s2 : Shp m (.list ds)) (hn : n ≤ 64) (hm : m ≤ 64) (q : ∀ b, Q (.bl b) H) : rNotInH K x y H Q := .mk ⟨d, ds, h1, h2, s1.ok hn, s2.ok hm, q _⟩

/-! ### o.m(..) in a try's body -/
def tMethS (C : Addr) (m : Str) (sp : Sp) (E : L2.St → XK) (to : TE) (t : TA) : TE := fun σ H Q => to σ H fun x H1 => ∃ (a dx : Addr) (fs : List (Str × V)), x = .ref a ∧ H1 a = some (.ins C dx fs) ∧ fs.lookup m = none ∧ t σ H1 fun vs H2 => sp (.ref a :: vs) H2 Q (E σ)
theorem pe_methS {X : Cx} {CX : CXT} {k : Nat} {f C : Addr} {fd : FuncData} {ps : List Str} {sp : Sp} {E : L2.St → XK} {m : Str} {pos apos : Pos} {e1 o : Expr} {es : List Expr} {to : TE} {t : TA} {pl : Sem Bool}
    (ho : PE X o to) (c : Cls X.K C) (hm : Meth X.K C m f) (F : FnOk X.prog X.w X.K X.mg X.base CX k f fd ps sp)
    (hr : Room k X.A) (hb : Binds X.K fd ps []) (hx : ∀ σ, PassesAt CX X σ (E σ)) (ha : PA X (e1 :: es) t)
    (hs : starEach (e1 :: es) X.env = (false, eval e1 X.env) :: starEach es X.env := by rfl)
    (hl : (backTo pos (starEach es X.env)).any (·.1) = false := by rfl)
    (he : eval (.Call (.Attribute o m apos) (e1 :: es) [] pos) X.env = (do
      let v ← eval o X.env
      standAt apos.atName
      let (g, first) ← holding [v] (getMethod v m pl)
      callWith pos g first (backTo pos (starEach (e1 :: es) X.env)) (backToKw pos (keywordEach [] X.env))) := by rfl) :
    PE X (.Call (.Attribute o m apos) (e1 :: es) [] pos) (tMethS C m sp E to t) := by
  refine ⟨fun pins s σ H Q I h => ?_⟩
  refine PySem.W.methodCall_KW (pl := pl) (thn (ho.run pins s σ H _ I h) fun u s1 ⟨x, H1, I1, rx, a, dx, fs, ex, ea, l, q⟩ => ?_) he
  subst ex
  cases (show u = Value.ref a from rx)
  refine getmeth_ok I1 ea c hm l ?_
  refine PySem.W.callWith_K (first := [.ref a]) (h₀ := X.base) I.ok.mod.kin hm.kp (thn (ha.run pos pins s1 σ H1 _ I1 q) fun us s2 ⟨vs, H2, I2, r, q2⟩ => ⟨I2.kIn, ?_⟩) hs hl
  exact run_fnS (us := .ref a :: us) (vs := .ref a :: vs) F hr hb (hx σ) I2 (.cons rfl r) q2
end FW

local macro_rules | `(tactic| walk_at "ne") => `(tactic| first
  | (assumption)
  | (refine' FW.ne_sym ?_; assumption)
  | (refine' L2.ne_of_none ?ka ?kb; (case kb => assumption); (case ka => walk_at "hf"))
  | (refine' FW.ne_sym (L2.ne_of_none ?ka ?kb); (case kb => assumption); (case ka => walk_at "hf"))
  | (refine' L2.ne_of ?ka ?kb ?kc; (case ka => walk_at "hf"); (case kb => walk_at "hf"); (case kc => (intro z; cases z)))
  | (fail "ne"))
local macro_rules | `(tactic| walk_at "hf") => `(tactic| first
  | (assumption)
  | (exact L2.upd_same)
  | (refine' FW.upd_other ?ka ?kb; (case kb => walk_at "hf"); (case ka => walk_at "ne"))
  | (refine' (by assumption : L2.Same _ _) _ _ ?kc; (case kc => walk_at "hf"))
  | (fail "hf"))
local macro_rules | `(tactic| walk_at "sq") => `(tactic| first
  | (assumption)
  | (refine' L2.SqL.of ?ka; (case ka => walk_at "hf"))
  | (refine' FW.sq_new ?ka ?kb; (case ka => assumption); (case kb => walk_at "sq"))
  | (refine' FW.sq_ins ?ka ?kb; (case ka => walk_at "hf"); (case kb => walk_at "sq"))
  | (refine' FW.sq_ne ?ka ?kb; (case ka => walk_at "ne"); (case kb => walk_at "sq"))
  | (refine' L2.Same.seq (by assumption) ?kc; (case kc => walk_at "sq"))
  | (fail "sq"))
local macro_rules | `(tactic| walk_at "st") => `(tactic| first
  | (assumption)
  | (refine' L2.SqT.of ?ka; (case ka => walk_at "hf"))
  | (refine' FW.st_new ?ka ?kb; (case ka => assumption); (case kb => walk_at "st"))
  | (refine' FW.st_lst ?ka ?kb; (case ka => walk_at "hf"); (case kb => walk_at "st"))
  | (refine' FW.st_ins ?ka ?kb; (case ka => walk_at "hf"); (case kb => walk_at "st"))
  | (refine' FW.st_ne ?ka ?kb; (case ka => walk_at "ne"); (case kb => walk_at "st"))
  | (refine' L2.Same.tup (by assumption) ?kc; (case kc => walk_at "st"))
  | (fail "st"))
local macro_rules | `(tactic| walk_at "side") => `(tactic| first
  | (assumption)
  | (exact rfl)
  | (show L2.SqL _ _ _ _; walk_at "sq")
  | (show L2.SqT _ _ _ _; walk_at "st")
  | (show _ ∨ _; first | (refine' Or.inl ?_; walk_at "sq") | (refine' Or.inr ?_; walk_at "st"))
  | (show L2.tyV _ _ _ _; refine' Or.inl (And.intro rfl ?_); apply Exists.intro; walk_at "sq")
  | (show L2.TruV _ (L2.V.ref _) _ _; first | (refine' Or.inl ?_; apply Exists.intro; refine' And.intro ?kq rfl; (case kq => walk_at "sq")) | (refine' Or.inr (Or.inl ?_); apply Exists.intro; refine' And.intro ?kq rfl; (case kq => walk_at "st")))
  | ((with_reducible show _ = some _); walk_at "hf")
  | (apply Exists.intro; first | walk_at "sq" | walk_at "st")
  | ((with_reducible show L2.CPow _ _); exact ⟨by decide, by decide, by decide⟩)
  | ((with_reducible show L2.CDiv _ _); exact ⟨by omega, by omega⟩)
  | ((with_reducible show L2.CMul _ _); first | (exact Or.inr ⟨by omega, by omega⟩) | (exact Or.inl ⟨by omega, by omega⟩))
  | (exact FW.putF_1)
  | (exact FW.putF_2)
  | (decide)
  | (omega)
  | (dsimp only; omega)
  | (dsimp only; decide)
  | (simp only [List.length_cons, List.length_nil, List.length_append, List.length_map, List.length_set, List.length_range]; omega)
  | (refine' FW.small_le ?_; (try simp only [List.length_cons, List.length_nil, List.length_append, List.length_map]); omega)
  | (refine' FW.small_lt ?_; (try simp only [List.length_cons, List.length_nil, List.length_append, List.length_map]); omega))
local macro_rules | `(tactic| walk_at "rd1") => `(tactic| first
  | ((fail_if_success (show ∃ W : Nat → _, _)); apply Exists.intro)
  | (refine And.intro ?ks ?_; (case ks => walk_at "side"))
  | (refine FW.ite_dT ?ks ?_; (case ks => first | (assumption) | (exact rfl) | (omega) | (simp only [List.length_cons, List.length_nil]; omega)))
  | (refine FW.ite_dF ?ks ?_; (case ks => first | (assumption) | (intro z; cases z; done) | (omega) | (simp only [List.length_cons, List.length_nil]; omega)))
  | (refine FW.ite_nT ?ks ?_; (case ks => first | (assumption) | (intro z; cases z; done) | (omega) | (simp only [List.length_cons, List.length_nil]; omega)))
  | (refine FW.ite_nF ?ks ?_; (case ks => first | (assumption) | (exact rfl) | (omega) | (simp only [List.length_cons, List.length_nil]; omega)))
  | (refine L2.iteT ?_)
  | (refine L2.iteF ?_)
  | (refine FW.isi_yes (L2.TyOf.int _) FW.kb_int ?_)
  | (refine FW.isi_no (L2.TyOf.int _) FW.kb_intbool ?_)
  | (refine' FW.isi_yes (L2.TyOf.tup ?ks) FW.kb_tuple ?_; (case ks => walk_at "hf"))
  | (refine' FW.isi_yes (L2.TyOf.lst ?ks) FW.kb_list ?_; (case ks => walk_at "hf"))
  | (refine' FW.isE_own ?ks ?_; (case ks => assumption))
  | (refine' FW.isE_ty ?ks ?_; (case ks => assumption)))
local macro_rules | `(tactic| walk_at "rd") => `(tactic| repeat (walk_at "rd1"))
local macro_rules | `(tactic| walk_at "len") => `(tactic| (intro vs H Q E h; repeat (first | (obtain ⟨e, _⟩ := h; subst e; rfl) | (obtain ⟨_, h⟩ := h))))
/-! Prices: what the defs of fareweb/prices.py promise. -/
namespace FW
open PySem PySem.Spec PyProof.Rows L2

/-- the classes' addresses -/
structure Ad where
  c_FareError : Addr
  c_BadLink : Addr
  c_BadStop : Addr
  c_NoWay : Addr
  c_BadPrices : Addr
  c_BadZones : Addr
  c_PastDay : Addr
  c_Tariff : Addr
  c_Web : Addr
  c_Ledger : Addr

/-- the least of a list -/
def lowL : List Int → Int
  | [] => 0
  | [a] => a
  | a :: b :: r => min a (lowL (b :: r))
theorem lowL_le : ∀ {l : List Int} {x : Int}, x ∈ l → lowL l ≤ x
  | [], _, h => by simp at h
  | [a], x, h => by
    have e : x = a := by simpa using h
    subst e
    exact Int.le_refl _
  | a :: b :: r, x, h => by
    show min a (lowL (b :: r)) ≤ x
    rcases List.mem_cons.mp h with e | h
    · subst e
      omega
    · have := lowL_le (l := b :: r) h
      omega
theorem lowL_mem : ∀ {l : List Int}, l ≠ [] → lowL l ∈ l
  | [], h => absurd rfl h
  | [a], _ => by simp [lowL]
  | a :: b :: r, _ => by
    have ih := lowL_mem (l := b :: r) (by simp)
    show min a (lowL (b :: r)) ∈ _
    by_cases c : a ≤ lowL (b :: r)
    · rw [Int.min_eq_left c]
      exact List.mem_cons_self
    · rw [Int.min_eq_right (by omega)]
      exact List.mem_cons_of_mem _ ih
theorem lowL_is {l : List Int} {m : Int} (h : m ∈ l) (hl : ∀ x ∈ l, m ≤ x) : lowL l = m := by
  have h1 := lowL_le h
  have h2 := hl _ (lowL_mem (by intro e; rw [e] at h; cases h))
  omega
/-- the price at k in a row (from one) -/
def pr (row : List Int) (k : Int) : Int := row.getD (k - 1).toNat 0
/-- the least price for so many zones or more -/
def low (row : List Int) (z : Int) : Int := lowL (row.drop (z - 1).toNat)
theorem pr_mem {row : List Int} {z k : Int} (h1 : 1 ≤ z) (h2 : z ≤ k) (h3 : k ≤ row.length) : pr row k ∈ row.drop (z - 1).toNat := by
  have hk : (k - 1).toNat < row.length := by omega
  unfold pr
  rw [List.getD_eq_getElem?_getD, List.getElem?_eq_getElem hk]
  refine List.mem_iff_getElem?.mpr ⟨(k - 1).toNat - (z - 1).toNat, ?_⟩
  rw [List.getElem?_drop]
  have e : (z - 1).toNat + ((k - 1).toNat - (z - 1).toNat) = (k - 1).toNat := by omega
  rw [e, List.getElem?_eq_getElem hk]
  rfl
theorem mem_pr {row : List Int} {z x : Int} (h1 : 1 ≤ z) (h : x ∈ row.drop (z - 1).toNat) : ∃ k : Int, z ≤ k ∧ k ≤ row.length ∧ pr row k = x := by
  obtain ⟨i, hi⟩ := List.mem_iff_getElem?.mp h
  rw [List.getElem?_drop] at hi
  obtain ⟨hlt, e⟩ := List.getElem?_eq_some_iff.mp hi
  refine ⟨z + i, by omega, by omega, ?_⟩
  unfold pr
  have e2 : (z + (i : Int) - 1).toNat = (z - 1).toNat + i := by omega
  rw [e2, List.getD_eq_getElem?_getD, hi]
  rfl
theorem low_le {row : List Int} {z k : Int} (h1 : 1 ≤ z) (h2 : z ≤ k) (h3 : k ≤ row.length) : low row z ≤ pr row k := lowL_le (pr_mem h1 h2 h3)
theorem low_at {row : List Int} {z : Int} (h1 : 1 ≤ z) (h3 : z ≤ row.length) : ∃ k : Int, z ≤ k ∧ k ≤ row.length ∧ pr row k = low row z := by
  refine mem_pr h1 (lowL_mem fun e => ?_)
  have := pr_mem h1 (Int.le_refl z) h3
  rw [e] at this
  cases this
theorem low_is {row : List Int} {z b : Int} (h1 : 1 ≤ z) (h2 : z ≤ b) (h3 : b ≤ row.length) (hl : ∀ k : Int, z ≤ k → k ≤ row.length → pr row b ≤ pr row k) : low row z = pr row b :=
  lowL_is (pr_mem h1 h2 h3) fun x hx => by
    obtain ⟨k, a, b', rfl⟩ := mem_pr h1 hx
    exact hl k a b'
theorem low_mono {row : List Int} {z y : Int} (h1 : 1 ≤ z) (h2 : z ≤ y) (h3 : y ≤ row.length) : low row z ≤ low row y := by
  obtain ⟨k, a, b, e⟩ := low_at (row := row) (z := y) (by omega) h3
  rw [← e]
  exact low_le h1 (by omega) b
theorem low_nn {row : List Int} {z : Int} (h : ∀ x ∈ row, 0 ≤ x) : 0 ≤ low row z := by
  unfold low
  by_cases e : row.drop (z - 1).toNat = []
  · rw [e]
    exact Int.le_refl _
  · exact h _ (List.mem_of_mem_drop (lowL_mem e))

/-! ### promises -/
def sp_need_zones (K : PySem.W.Frag) (A : Ad) : Sp := fun vs H Q E => ∃ z : Int, vs = [.int z] ∧ (1 ≤ z ∧ z ≤ 5 → Q .non H) ∧ (¬ (1 ≤ z ∧ z ≤ 5) → E (.ref A.c_BadZones) none H)
/-- the row is read; b: for how many zones the cheapest ticket is -/
def sp_cheapest (K : PySem.W.Frag) (A : Ad) : Sp := fun vs H Q E => ∃ (a : Addr) (row : List Int) (z : Int), vs = [.ref a, .int z] ∧ SqL K H a (row.map V.int) ∧ row.length = 5 ∧
  (1 ≤ z ∧ z ≤ 5 → ∀ (b : Int) (p : Addr) (H' : Hp), z ≤ b → b ≤ 5 → pr row b = low row z → Same H H' → H p = none → H' p = some (.tup [.int b, .int (low row z)]) → Q (.ref p) H') ∧
  (¬ (1 ≤ z ∧ z ≤ 5) → E (.ref A.c_BadZones) none H)

theorem f_sd : ¬ (("singles" : Str) = "days") := by decide +kernel
theorem f_sw : ¬ (("singles" : Str) = "weeks") := by decide +kernel
theorem f_dw : ¬ (("days" : Str) = "weeks") := by decide +kernel
/-- the attributes, in the order in which __init__ stores them -/
def tarF (a b c : Addr) : List (Str × V) := putF "weeks" (.ref c) (putF "days" (.ref b) (putF "singles" (.ref a) []))
theorem tarF_s (a b c : Addr) : (tarF a b c).lookup ("singles" : Str) = some (.ref a) := by
  unfold tarF
  rw [lookup_putF, if_neg f_sw, lookup_putF, if_neg f_sd, lookup_putF, if_pos rfl]
theorem tarF_d (a b c : Addr) : (tarF a b c).lookup ("days" : Str) = some (.ref b) := by
  unfold tarF
  rw [lookup_putF, if_neg f_dw, lookup_putF, if_pos rfl]
theorem tarF_w (a b c : Addr) : (tarF a b c).lookup ("weeks" : Str) = some (.ref c) := by
  unfold tarF
  rw [lookup_putF, if_pos rfl]
theorem tarF_no (a b c : Addr) {m : Str} (h1 : ¬ m = "singles") (h2 : ¬ m = "days") (h3 : ¬ m = "weeks") : (tarF a b c).lookup m = none := by
  unfold tarF
  rw [lookup_putF, if_neg h3, lookup_putF, if_neg h2, lookup_putF, if_neg h1]
  rfl
/-- five prices from nought on -/
def Row5 (row : List Int) : Prop := row.length = 5 ∧ ∀ x ∈ row, 0 ≤ x
/-- a tariff stands at p: its three lists at a, b, c -/
structure TarAt (A : Ad) (H : Hp) (p a b c : Addr) (S D W : List Int) : Prop where
  ob : ∃ dx, H p = some (.ins A.c_Tariff dx (tarF a b c))
  hs : H a = some (.lst (S.map V.int))
  hd : H b = some (.lst (D.map V.int))
  hw : H c = some (.lst (W.map V.int))
  rs : Row5 S
  rd : Row5 D
  rw : Row5 W
theorem TarAt.same {A : Ad} {H H' : Hp} {p a b c : Addr} {S D W : List Int} (t : TarAt A H p a b c S D W) (s : Same H H') : TarAt A H' p a b c S D W :=
  ⟨let ⟨dx, e⟩ := t.ob; ⟨dx, s _ _ e⟩, s _ _ t.hs, s _ _ t.hd, s _ _ t.hw, t.rs, t.rd, t.rw⟩
theorem TarAt.dels {A : Ad} {H : Hp} {p a b c : Addr} {S D W : List Int} {hs : List Addr} (t : TarAt A H p a b c S D W) (np : p ∉ hs) (na : a ∉ hs) (nb : b ∉ hs) (nc : c ∉ hs) : TarAt A (dels H hs) p a b c S D W :=
  ⟨let ⟨dx, e⟩ := t.ob; ⟨dx, by rw [dels_out np]; exact e⟩, by rw [dels_out na]; exact t.hs, by rw [dels_out nb]; exact t.hd, by rw [dels_out nc]; exact t.hw, t.rs, t.rd, t.rw⟩
def Tar (A : Ad) (H : Hp) (p : Addr) (S D W : List Int) : Prop := ∃ a b c, TarAt A H p a b c S D W
theorem Tar.same {A : Ad} {H H' : Hp} {p : Addr} {S D W : List Int} (t : Tar A H p S D W) (s : Same H H') : Tar A H' p S D W :=
  let ⟨a, b, c, h⟩ := t; ⟨a, b, c, h.same s⟩
/-- Tariff(singles, days, weeks): three lists of whole numbers; a new tariff with lists of its own, or BadPrices -/
def sp_Tariff_init (K : PySem.W.Frag) (A : Ad) : Sp := fun vs H Q E => ∃ (p dx a b c : Addr) (S D W : List Int), vs = [.ref p, .ref a, .ref b, .ref c] ∧ H p = some (.ins A.c_Tariff dx []) ∧
  SqL K H a (S.map V.int) ∧ SqL K H b (D.map V.int) ∧ SqL K H c (W.map V.int) ∧
  (Row5 S ∧ Row5 D ∧ Row5 W → ∀ (a' b' c' : Addr) (H' : Hp), TarAt A H' p a' b' c' S D W → H a' = none → H b' = none → H c' = none → a' ≠ b' → a' ≠ c' → b' ≠ c' → (∀ x o, H x = some o → x ≠ p → H' x = some o) → Q .non H') ∧
  (¬ (Row5 S ∧ Row5 D ∧ Row5 W) → ∀ H', Same H H' → E (.ref A.c_BadPrices) none H')
def spPrice (K : PySem.W.Frag) (A : Ad) (f : List Int → List Int → List Int → List Int) : Sp := fun vs H Q E => ∃ (p : Addr) (S D W : List Int) (z : Int), vs = [.ref p, .int z] ∧ Tar A H p S D W ∧
  (1 ≤ z ∧ z ≤ 5 → ∀ H', Same H H' → Q (.int (low (f S D W) z)) H') ∧ (¬ (1 ≤ z ∧ z ≤ 5) → E (.ref A.c_BadZones) none H)
def sp_Tariff_single (K : PySem.W.Frag) (A : Ad) : Sp := spPrice K A fun S _ _ => S
def sp_Tariff_day (K : PySem.W.Frag) (A : Ad) : Sp := spPrice K A fun _ D _ => D
def sp_Tariff_week (K : PySem.W.Frag) (A : Ad) : Sp := spPrice K A fun _ _ W => W
/-- what the walk asks of the class -/
structure OkT (K : PySem.W.Frag) (A : Ad) : Prop where
  cl : Cls K A.c_Tariff
  nS : NoAttr K A.c_Tariff "singles"
  nD : NoAttr K A.c_Tariff "days"
  nW : NoAttr K A.c_Tariff "weeks"
theorem tar_s {A : Ad} {H : Hp} {p : Addr} {S D W : List Int} (T : Tar A H p S D W) : ∃ (dx a b c q : Addr), H p = some (.ins A.c_Tariff dx (tarF a b c)) ∧ (tarF a b c).lookup ("singles" : Str) = some (.ref q) ∧ H q = some (.lst (S.map V.int)) ∧ S.length = 5 :=
  let ⟨a, b, c, t⟩ := T; let ⟨dx, e⟩ := t.ob; ⟨dx, a, b, c, a, e, tarF_s a b c, t.hs, t.rs.1⟩
theorem tar_d {A : Ad} {H : Hp} {p : Addr} {S D W : List Int} (T : Tar A H p S D W) : ∃ (dx a b c q : Addr), H p = some (.ins A.c_Tariff dx (tarF a b c)) ∧ (tarF a b c).lookup ("days" : Str) = some (.ref q) ∧ H q = some (.lst (D.map V.int)) ∧ D.length = 5 :=
  let ⟨a, b, c, t⟩ := T; let ⟨dx, e⟩ := t.ob; ⟨dx, a, b, c, b, e, tarF_d a b c, t.hd, t.rd.1⟩
theorem tar_w {A : Ad} {H : Hp} {p : Addr} {S D W : List Int} (T : Tar A H p S D W) : ∃ (dx a b c q : Addr), H p = some (.ins A.c_Tariff dx (tarF a b c)) ∧ (tarF a b c).lookup ("weeks" : Str) = some (.ref q) ∧ H q = some (.lst (W.map V.int)) ∧ W.length = 5 :=
  let ⟨a, b, c, t⟩ := T; let ⟨dx, e⟩ := t.ob; ⟨dx, a, b, c, c, e, tarF_w a b c, t.hw, t.rw.1⟩
/-- isinstance of an exception of the class D: which of the classes take it (all of them FareError and ValueError) -/
structure IsX (K : PySem.W.Frag) (A : Ad) (D : Addr) (l s n p z d : Bool) : Prop where
  c : ExcC K D
  x : PySem.W.exmOne K (.ref D) (.ref A.c_FareError) = some true
  f : PySem.W.kitOne K (.ref D) (.ref A.c_FareError) = some true
  v : PySem.W.kitOne K (.ref D) (.type "ValueError") = some true
  l : PySem.W.kitOne K (.ref D) (.ref A.c_BadLink) = some l
  s : PySem.W.kitOne K (.ref D) (.ref A.c_BadStop) = some s
  n : PySem.W.kitOne K (.ref D) (.ref A.c_NoWay) = some n
  p : PySem.W.kitOne K (.ref D) (.ref A.c_BadPrices) = some p
  z : PySem.W.kitOne K (.ref D) (.ref A.c_BadZones) = some z
  d : PySem.W.kitOne K (.ref D) (.ref A.c_PastDay) = some d
end FW

namespace FW
open PySem PySem.Spec PyProof.Rows L2
def N_need_zones : List Str := ["zones"]
def t_need_zones (K : PySem.W.Frag) (A : Ad) (E : XK) : TS :=
 tIfS (tOr (tTest (tOp rLtI (tVar 0) (tC (.int 1)))) (tTest (tOp rGtI (tVar 0) (tC (.int 5))))) (tRaise E (.ref A.c_BadZones)) (tNext)
def N_cheapest : List Str := ["row", "zones", "best", "size"]
def t_cheapest (K : PySem.W.Frag) (A : Ad) (E : XK) : TS :=
 tSeq (tDrop (tCall (sp_need_zones K A) [] E (tCons (tVar 1) (tNil))))
 (tSeq (tAsg (tVar 1) (gName 2))
 (tSeq (tFor (iRng2 (tCons (tVar 1) (tCons (tOp rAdd (tC (.int 5)) (tC (.int 1))) (tNil)))) (gName 3) (tIfS (tTest (tOp rLtI (tOp (rIxL K) (tVar 0) (tOp rSub (tVar 3) (tC (.int 1)))) (tOp (rIxL K) (tVar 0) (tOp rSub (tVar 2) (tC (.int 1)))))) (tAsg (tVar 3) (gName 2)) (tNext)))
 (tRet (tTup (tCons (tVar 2) (tCons (tOp (rIxL K) (tVar 0) (tOp rSub (tVar 2) (tC (.int 1)))) (tNil)))))))
def N_Tariff_init : List Str := ["self", "singles", "days", "weeks", "row"]
def t_Tariff_init (K : PySem.W.Frag) (A : Ad) (E : XK) : TS :=
 tSeq (tFor (iList K (tLst (tCons (tVar 1) (tCons (tVar 2) (tCons (tVar 3) (tNil)))))) (gName 4) (tIfS (tOr (tTest (tOp rNe (tCB (rLenS K) (tCons (tVar 4) (tNil))) (tC (.int 5)))) (tTest (tOp rLtI (tCB (rMin K) (tCons (tVar 4) (tNil))) (tC (.int 0))))) (tRaise E (.ref A.c_BadPrices)) (tNext)))
 (tSeq (sFld K (tVar 0) (tCB (rListS K) (tCons (tVar 1) (tNil))) "singles")
 (tSeq (sFld K (tVar 0) (tCB (rListS K) (tCons (tVar 2) (tNil))) "days")
 (sFld K (tVar 0) (tCB (rListS K) (tCons (tVar 3) (tNil))) "weeks")))
def N_Tariff_single : List Str := ["self", "zones"]
def t_Tariff_single (K : PySem.W.Frag) (A : Ad) (E : XK) : TS :=
 tRet (tOp (rIxT K) (tCall (sp_cheapest K A) [] E (tCons (tFld K (tVar 0) "singles") (tCons (tVar 1) (tNil)))) (tC (.int 1)))
def N_Tariff_day : List Str := ["self", "zones"]
def t_Tariff_day (K : PySem.W.Frag) (A : Ad) (E : XK) : TS :=
 tRet (tOp (rIxT K) (tCall (sp_cheapest K A) [] E (tCons (tFld K (tVar 0) "days") (tCons (tVar 1) (tNil)))) (tC (.int 1)))
def N_Tariff_week : List Str := ["self", "zones"]
def t_Tariff_week (K : PySem.W.Frag) (A : Ad) (E : XK) : TS :=
 tRet (tOp (rIxT K) (tCall (sp_cheapest K A) [] E (tCons (tFld K (tVar 0) "weeks") (tCons (tVar 1) (tNil)))) (tC (.int 1)))
end FW

/-! Prices: the readings. -/
namespace FW
open PySem PySem.Spec PyProof.Rows L2
section
variable {K : PySem.W.Frag} {A : Ad} {vs : List V} {H : Hp} {Q : VK} {E : XK}
theorem rd_need_zones (h : sp_need_zones K A vs H Q E) : t_need_zones K A E { nx := fun _ H' => Q .non H', rt := Q } (start N_need_zones vs) H := by
  obtain ⟨z, rfl, k1, k2⟩ := h
  unfold t_need_zones
  walk_at "rd"
  refine ite_d (fun c => ?_) (fun c => ?_)
  · walk_at "rd"
    exact k2 (by omega)
  · walk_at "rd"
    refine ite_d (fun c2 => ?_) (fun c2 => ?_)
    · exact k2 (by omega)
    · exact k1 (by omega)
theorem rd_cheapest (h : sp_cheapest K A vs H Q E) : t_cheapest K A E { nx := fun _ H' => Q .non H', rt := Q } (start N_cheapest vs) H := by
  obtain ⟨a, row, z, rfl, hS, hl, k1, k2⟩ := h
  unfold t_cheapest
  walk_at "rd"
  refine ⟨fun hz => ?_, k2⟩
  walk_at "rd"
  refine for_range (lo := z) (n := (5 + 1 - z).toNat) (fun i σ H' => H' = H ∧ ∃ (b : Int) (o : Option V), σ = [some (.ref a), some (.int z), some (.int b), o] ∧ z ≤ b ∧ b ≤ 5 ∧ ∀ k : Int, z ≤ k → k < z + i → pr row b ≤ pr row k) ⟨rfl, z, none, rfl, Int.le_refl _, hz.2, fun k h1 h2 => absurd h2 (by omega)⟩ ?_ ?_
  · rintro i σ H' hi ⟨rfl, b, o, rfl, h1, h2, h3⟩
    have e1 : atI (row.map V.int) (z + (i : Int) - 1) = some (V.int (pr row (z + i))) := atI_map (by omega) (by omega)
    have e2 : atI (row.map V.int) (b - 1) = some (V.int (pr row b)) := atI_map (by omega) (by omega)
    walk_at "rd"
    refine ite_d (fun c => ?_) (fun c => ?_)
    · refine ⟨_, rfl, rfl, z + i, _, rfl, by omega, by omega, fun k g1 g2 => ?_⟩
      by_cases e : k = z + i
      · rw [e]
        exact Int.le_refl _
      · have := h3 k g1 (by omega)
        omega
    · refine ⟨rfl, b, _, rfl, by omega, by omega, fun k g1 g2 => ?_⟩
      by_cases e : k = z + i
      · rw [e]
        omega
      · exact h3 k g1 (by omega)
  · rintro σ H' ⟨rfl, b, o, rfl, h1, h2, h3⟩
    have e2 : atI (row.map V.int) (b - 1) = some (V.int (pr row b)) := atI_map (by omega) (by omega)
    have el : low row z = pr row b := low_is hz.1 h1 (by omega) fun k g1 g2 => h3 k g1 (by omega)
    walk_at "rd"
    intro p hp
    refine k1 hz b p _ h1 h2 el.symm (Same.new hp) hp ?_
    rw [el]
    exact upd_same
/-- is the row good? asked of each of the three rows -/
theorem rd_Tariff_init (O : OkT K A) (h : sp_Tariff_init K A vs H Q E) : t_Tariff_init K A E { nx := fun _ H' => Q .non H', rt := Q } (start N_Tariff_init vs) H := by
  obtain ⟨p, dx, a, b, c, S, D, W, rfl, hp, hS, hD, hW, k1, k2⟩ := h
  unfold t_Tariff_init
  walk_at "rd"
  intro l hl
  walk_at "rd"
  have nlp : p ≠ l := ne_of_none hp hl
  have aux : ∀ (i : Nat) (x : V), ([.ref a, .ref b, .ref c] : List V)[i]? = some x → ∃ (q : Addr) (r : List Int), x = V.ref q ∧ SqL K H q (r.map V.int) ∧ [S, D, W][i]? = some r := by
    intro i x hx
    match i, hx with
    | 0, hx => cases hx; exact ⟨a, S, rfl, hS, rfl⟩
    | 1, hx => cases hx; exact ⟨b, D, rfl, hD, rfl⟩
    | 2, hx => cases hx; exact ⟨c, W, rfl, hW, rfl⟩
    | i + 3, hx => simp at hx
  have all : (∀ r ∈ [S, D, W], Row5 r) ↔ (Row5 S ∧ Row5 D ∧ Row5 W) := by simp
  have S1 : Same H (upd H l (.lst [.ref a, .ref b, .ref c])) := Same.new hl
  generalize hH1 : upd H l (.lst [.ref a, .ref b, .ref c]) = H1 at *
  have hl1 : H1 l = some (.lst [.ref a, .ref b, .ref c]) := by rw [← hH1]; exact upd_same
  refine for_list (K := K) (a := l) (xs := [.ref a, .ref b, .ref c]) (fun i σ H' => H' = H1 ∧ ∃ o : Option V, σ = [some (.ref p), some (.ref a), some (.ref b), some (.ref c), o] ∧ ∀ r ∈ [S, D, W].take i, Row5 r) ⟨rfl, none, rfl, fun r hr => by simp at hr⟩ ?_ ?_ ?_
  · rintro i σ H' _ ⟨rfl, _⟩
    walk_at "sq"
  · rintro i x σ H' hx ⟨rfl, o, rfl, hr⟩
    obtain ⟨q, r, rfl, hq, hri⟩ := aux i x hx
    have hq1 := S1.seq hq
    have mem : r ∈ [S, D, W] := List.mem_iff_getElem?.mpr ⟨i, hri⟩
    have nx : Row5 r → ∀ r' ∈ [S, D, W].take (i + 1), Row5 r' := fun h5 r' h' => by
      rw [List.take_add_one, hri] at h'
      rcases List.mem_append.mp h' with h' | h'
      · exact hr r' h'
      · have : r' = r := by simpa using h'
        rw [this]
        exact h5
    walk_at "rd"
    refine ite_n (fun c1 => ?_) (fun c1 => ?_)
    · refine k2 (fun z => ?_) _ S1
      have h5 := (all.mpr z r mem).1
      exact c1 (by rw [List.length_map, h5]; rfl)
    · have h5 : r.length = 5 := by
        have := V.int.inj c1
        rw [List.length_map] at this
        omega
      walk_at "rd"
      intro m hm hle
      walk_at "rd"
      refine ite_d (fun c2 => ?_) (fun c2 => ?_)
      · refine k2 (fun z => ?_) _ S1
        have := (all.mpr z r mem).2 m hm
        omega
      · exact ⟨rfl, _, rfl, nx ⟨h5, fun x hx => by have := hle x hx; omega⟩⟩
  · rintro σ H' ⟨rfl, o, rfl, hr⟩
    have all5 := all.mp hr
    have hp1 : H' p = some (.ins A.c_Tariff dx []) := S1 _ _ hp
    have hS1 := S1.seq hS
    have hD1 := S1.seq hD
    have hW1 := S1.seq hW
    have clT := O.cl
    have nS := O.nS
    have nD := O.nD
    have nW := O.nW
    walk_at "rd"
    intro a' ha'
    have npa : p ≠ a' := ne_of_none hp1 ha'
    walk_at "rd"
    intro b' hb'
    have nba : b' ≠ a' := fun e => by
      rw [e, upd_ne (ne_sym npa), upd_same] at hb'
      cases hb'
    have npb : p ≠ b' := fun e => by
      rw [← e, upd_same] at hb'
      cases hb'
    have hb0 : H' b' = none := by rw [upd_ne (ne_sym npb), upd_ne nba] at hb'; exact hb'
    walk_at "rd"
    intro c' hc'
    have npc : p ≠ c' := fun e => by
      rw [← e, upd_same] at hc'
      cases hc'
    rw [upd_ne (ne_sym npc)] at hc'
    have nbc : c' ≠ b' := fun e => by
      rw [e, upd_same] at hc'
      cases hc'
    rw [upd_ne nbc, upd_ne (ne_sym npc)] at hc'
    have nac : c' ≠ a' := fun e => by
      rw [e, upd_same] at hc'
      cases hc'
    rw [upd_ne nac] at hc'
    have nap := ne_sym npa
    have nbp := ne_sym npb
    have ncp := ne_sym npc
    have nab := ne_sym nba
    have ncb := ne_sym nbc
    have nca := ne_sym nac
    walk_at "rd"
    refine k1 all5 a' b' c' _ ⟨⟨dx, upd_same⟩, by walk_at "hf", by walk_at "hf", by walk_at "hf", all5.1, all5.2.1, all5.2.2⟩ (S1.free ha') (S1.free hb0) (S1.free hc') nab nca ncb fun x o hx hxp => ?_
    have h1 := S1 _ _ hx
    have n1 := ne_of_none h1 ha'
    have n2 := ne_of_none h1 hb0
    have n3 := ne_of_none h1 hc'
    walk_at "hf"
theorem rd_price {f : List Int → List Int → List Int → List Int} {n : Str} (O : OkT K A) (hf : ∀ {H : Hp} {p : Addr} {S D W : List Int}, Tar A H p S D W → ∃ (dx a b c q : Addr), H p = some (.ins A.c_Tariff dx (tarF a b c)) ∧ (tarF a b c).lookup n = some (.ref q) ∧ H q = some (.lst ((f S D W).map V.int)) ∧ (f S D W).length = 5)
    (nn : NoAttr K A.c_Tariff n) (h : spPrice K A f vs H Q E) :
    tRet (tOp (rIxT K) (tCall (sp_cheapest K A) [] E (tCons (tFld K (tVar 0) n) (tCons (tVar 1) (tNil)))) (tC (.int 1))) { nx := fun _ H' => Q .non H', rt := Q } (start ["self", "zones"] vs) H := by
  obtain ⟨p, S, D, W, z, rfl, T, k1, k2⟩ := h
  obtain ⟨dx, a, b, c, q, h1, h2, h3, h4⟩ := hf T
  have cl := O.cl
  walk_at "rd"
  refine ⟨fun hz b p2 H' g1 g2 g3 g4 g5 g6 => ?_, k2⟩
  walk_at "rd"
  exact k1 hz _ g4
theorem rd_Tariff_single (O : OkT K A) (h : sp_Tariff_single K A vs H Q E) : t_Tariff_single K A E { nx := fun _ H' => Q .non H', rt := Q } (start N_Tariff_single vs) H := rd_price O tar_s O.nS h
theorem rd_Tariff_day (O : OkT K A) (h : sp_Tariff_day K A vs H Q E) : t_Tariff_day K A E { nx := fun _ H' => Q .non H', rt := Q } (start N_Tariff_day vs) H := rd_price O tar_d O.nD h
theorem rd_Tariff_week (O : OkT K A) (h : sp_Tariff_week K A vs H Q E) : t_Tariff_week K A E { nx := fun _ H' => Q .non H', rt := Q } (start N_Tariff_week vs) H := rd_price O tar_w O.nW h
end
end FW

/-! A def that is called within an except suite and looks at the exception; a class that is made within a try's body. -/
namespace FW
open PySem PySem.Spec PyProof.Rows L2
structure FnE (P : Program) (w : World) (K : PySem.W.Frag) (mg : Str → Option Value) (base : Heap) (cxt : CXT) (k : Nat) (f : Addr) (fd : FuncData) (ps : List Str) (sp : Addr → Addr → Sp) : Prop where
  len : ∀ C a vs H Q E, sp C a vs H Q E → vs.length = ps.length
  run : ∀ (A : Around) (ov : List Env) (s : Shared) (H : Hp) (ag : Args) (us : List Value) (vs : List V) (Q : VK) (E : XK) (C : Addr) (pe : Addr × Obj), L2H.RoomH k A → ExcC K C → Zc (.ref C) none pe.2 → (∃ ws, pe.2.data = .fields ws) →
    L2H.PinOk ov H s pe → Env0 P w K mg base A ov s H → BindsTo s fd ag (ps.zip us) → Vals vs us → sp C pe.1 vs H Q E → codeAny (model P w) A (.call (.ref f) ag) (CR cxt ov P w H s Q E) s
theorem fn_okE {P : Program} {w : World} {K : PySem.W.Frag} {mg : Str → Option Value} {base : Heap} {cxt : CXT} {x qual : Str} {st : Stmt} {f : Addr} {fd : FuncData} {N ps : List Str} {k : Nat} {sp : Addr → Addr → Sp} (F : Fun K x qual st f fd) (sco : FnScope N ps (defScope st))
    (ln : ∀ C a vs H Q E, sp C a vs H Q E → vs.length = ps.length)
    (bd : ∀ (cdv : Value) (A : Around) (ov : List Env) (s : Shared) (H : Hp) (vs : List V) (Q : VK) (E : XK) (C : Addr) (pe : Addr × Obj), ExcC K C → Zc (.ref C) none pe.2 → (∃ ws, pe.2.data = .fields ws) → sp C pe.1 vs H Q E →
      ∃ t, PSs (L2H.cxH cxt P w K mg base N qual (defScope st) f cdv A ov s H E pe) (defBody st) t ∧ t { nx := fun _ H' => Q .non H', rt := Q } (L2.start N vs) H) :
    FnE P w K mg base cxt (k + 1) f fd ps sp := by
  obtain ⟨oc, od, kV, doc, pm, an, cdv, ct, osl, rfl, look, code⟩ := F.ex
  refine ⟨ln, fun A ov s H ag us vs Q E C pe room cc zc fl pin env bt rel hsp => ?_⟩
  have vlen := ln _ _ _ _ _ _ hsp
  have frag : K.In s.heap := env.mod.kin.keeps fun b o g => (env.bs b o g).1
  have free : s.heap.NoLimit := env.mod.nolimit.keeps fun b o g => (env.bs b o g).1
  have kinds : ∀ y ∈ ps.zip us, (defScope st).names.lookup y.1 = some .local ∨
      ((defScope st).names.lookup y.1 = some .cell ∧ ((cellsFrom (s.heap.objs.size + 1) (defScope st).names []).lookup y.1).isSome = true) := by
    rintro ⟨n, v⟩ hy
    rcases sco.par n (List.of_mem_zip hy).1 with g | g
    · exact .inl g
    · exact .inr ⟨g, PySem.W.cellsFrom_some _ _ _ (.inl g)⟩
  refine codeAny_call_function room.depth (frag _ _ look) rfl sco.co sco.gen rfl
    (PySem.W.codeRec_of frag code) (bt _ _ _ _ ?_)
  refine wpAny_newFunctionEnv_cells sco.kind kinds fun env1 he s1 made => ?_
  subst he
  refine ⟨free.keeps made.toInCall.keep, codeAny_func ?_⟩
  obtain ⟨t, ht, hq⟩ := bd cdv A ov s H vs Q E C pe cc zc fl hsp
  have J := L2H.inv_startH (CX := cxt) (cd := cdv) (E := E) sco pin env vlen rel made
  refine wpAny_mono (ht.run [] s1 (L2.start N vs) H _ J hq) ?_ fun e s' he => he
  intro out s2 res
  cases out with
  | ret u =>
    obtain ⟨v, σ2, H2, J2, r2, q2⟩ := res
    exact ⟨v, H2, J2.os, J2.bare, J2.base, J2.hok, r2, q2⟩
  | next =>
    obtain ⟨σ2, H2, J2, q2⟩ := res
    exact ⟨V.non, H2, J2.os, J2.bare, J2.base, J2.hok, rfl, q2⟩
  | brk =>
    obtain ⟨_, _, _, bad⟩ := res
    exact bad.elim
  | cont =>
    obtain ⟨_, _, _, bad⟩ := res
    exact bad.elim
def tCallE (sp : Addr → Addr → Sp) (C a : Addr) (t : TA) : TE := fun σ H Q => t σ H fun vs H1 => sp C a vs H1 Q E0
theorem roomM {k : Nat} {A : Around} {u : Option Value} (r : Room k A) : L2H.RoomH k (A.mark u) := ⟨r.dp, r.un⟩
theorem pe_callE {Y : Cx} {cxt : CXT} {k : Nat} {f C : Addr} {pe : Addr × Obj} {fd : FuncData} {ps : List Str} {sp : Addr → Addr → Sp} {x : Str} {pos q : Pos} {e : Expr} {es : List Expr} {t : TA}
    (mem : pe ∈ Y.pn) (cc : ExcC Y.K C) (zc : Zc (.ref C) none pe.2) (fl : ∃ ws, pe.2.data = .fields ws) (F : FnE Y.prog Y.w Y.K Y.mg Y.base cxt k f fd ps sp) (room : L2H.RoomH k Y.A)
    (gl : Gl Y x) (gm : Y.mg x = some (.ref f)) (kp : PySem.W.keepIn Y.K (.ref f) = true) (bi : Binds Y.K fd ps []) (ps0 : Passes cxt Y E0) (ha : PA Y (e :: es) t) (dbg : (x == ("__debug__" : Str)) = false := by decide)
    (star : starEach (e :: es) Y.env = (false, eval e Y.env) :: starEach es Y.env := by rfl) (plain : (backTo pos (starEach es Y.env)).any (·.1) = false := by rfl) :
    PE Y (.Call (.Name x q) (e :: es) [] pos) (tCallE sp C pe.1 t) := by
  refine ⟨fun pins s σ H Q I h => wpAny_Call_Name_kw (ld_glob I gl gm ?_ dbg)⟩
  refine PySem.W.callWith_K (h₀ := Y.base) I.ok.mod.kin kp (thn (ha.run pos pins s σ H _ I h) ?_) star plain
  rintro us s1 ⟨vs, H1, I1, rel, hsp⟩
  refine ⟨I1.kIn, ?_⟩
  have ul : us.length = ps.length := rel.length.symm.trans (F.len _ _ _ _ _ _ hsp)
  have b0 := bi s1 us I1.kIn (by rw [List.append_nil]; exact ul)
  rw [List.append_nil] at b0
  obtain ⟨w1, w2, w3, w4, w5⟩ := I1.pin pe (List.mem_append_left _ mem)
  have pin : L2H.PinOk Y.stack H1 s1 pe := ⟨w1, w2, fun m => by
    rcases List.mem_cons.mp (I1.stkSub pe.1 m) with z | z
    · exact w3 z
    · exact w4 z, w5⟩
  refine wpAny_call (codeAny_mono (F.run Y.A Y.stack s1 H1 ⟨us, []⟩ us vs Q E0 C pe room cc zc fl pin I1.env0 b0 rel hsp) ?_)
  intro r s2 res
  cases r with
  | error u => exact ps0 pins σ H1 s1 u s2 I1 res
  | ok out =>
    cases out with
    | ret u => exact I1.after res
    | next => exact res.elim
    | brk => exact res.elim
    | cont => exact res.elim
theorem call_isH2 {Y : Cx} {C : Addr} {pe : Addr × Obj} (mem : pe ∈ Y.pn) (cc : ExcC Y.K C) (zc : Zc (.ref C) none pe.2) (fl : ∃ ws, pe.2.data = .fields ws) : CallR Y (.builtin "isinstance") (rIsEH Y.K C pe.1) := by
  intro pins s σ H xs us Q I r h
  obtain ⟨c, cv, b, rfl, hcv, one, q⟩ := h.h
  match us, r with
  | [_, _], .cons rx (.cons rt .nil) =>
    cases rx
    cases hcv _ rt
    have got := (I.pin pe (List.mem_append_left _ mem)).1
    obtain ⟨pa, oe⟩ := pe
    obtain ⟨ws, hw⟩ := fl
    have at_ : PySem.W.InstAt s.heap pa oe C none := by
      obtain ⟨z1, z2⟩ := zc
      cases oe
      cases z1
      cases z2
      cases hw
      exact ⟨got, rfl, rfl, trivial⟩
    refine PySem.W.kia_one (PySem.W.handS_kitx_exc cc.hg cc.hk cc.hs cc.hd cc.ha cc.hn cc.ht cc.hm) I.kIn at_ one (fun z => nomatch z) ?_
    exact fun tk => ⟨.bl b, H, I.kept (t' := tk) fun _ _ g => g, rfl, q⟩
/-! ### C(..) in a try's body -/
def tMakeS (C : Addr) (sp : Sp) (E : L2.St → XK) (t : TA) : TE := fun σ H Q => t σ H fun vs H1 => ∀ x dx, H1 x = none → H1 dx = none → dx ≠ x → sp (.ref x :: vs) (upd (upd H1 dx (.own x)) x (.ins C dx [])) (fun v H2 => v = .non ∧ Q (.ref x) H2) (E σ)
theorem pe_makeS {X : Cx} {cxt : CXT} {k : Nat} {f C : Addr} {fd : FuncData} {ps : List Str} {sp : Sp} {E : L2.St → XK} {x : Str} {pos q : Pos} {e : Expr} {es : List Expr} {t : TA} (M : Mk X.K C f) (F : FnOk X.prog X.w X.K X.mg X.base cxt k f fd ps sp) (room : Room (k + 1) X.A)
    (gl : Gl X x) (gm : X.mg x = some (.ref C)) (bi : Binds X.K fd ps []) (hx : ∀ σ, PassesAt cxt X σ (E σ)) (ha : PA X (e :: es) t) (dbg : (x == ("__debug__" : Str)) = false := by decide)
    (star : starEach (e :: es) X.env = (false, eval e X.env) :: starEach es X.env := by rfl) (plain : (backTo pos (starEach es X.env)).any (·.1) = false := by rfl) :
    PE X (.Call (.Name x q) (e :: es) [] pos) (tMakeS C sp E t) := by
  refine ⟨fun pins s0 σ H0 Q I0 h0 => wpAny_Call_Name_kw (ld_glob I0 gl gm ?_ dbg)⟩
  refine PySem.W.callWith_K (h₀ := X.base) I0.ok.mod.kin M.kp (thn (ha.run pos pins s0 σ H0 _ I0 h0) ?_) star plain
  rintro us s ⟨vs, H, I, r, h⟩
  refine ⟨I.kIn, ?_⟩
  have top := I.hok.fresh (Nat.le_succ s.heap.objs.size)
  have hq := h (s.heap.objs.size + 1) s.heap.objs.size top (I.hok.fresh (Nat.le_refl _)) (Nat.ne_of_lt (Nat.lt_succ_self _))
  have I2 := Inv.made (C := C) I
  have r2 : Vals (V.ref (s.heap.objs.size + 1) :: vs) (Value.ref (s.heap.objs.size + 1) :: us) := .cons rfl r
  have ul := r2.length.symm.trans (F.len _ _ _ _ hq)
  have b0 := bi _ (Value.ref (s.heap.objs.size + 1) :: us) I2.kIn (by rw [List.append_nil]; exact ul)
  rw [List.append_nil] at b0
  have done := F.run _ X.stack _ _ ⟨Value.ref (s.heap.objs.size + 1) :: us, []⟩ (Value.ref (s.heap.objs.size + 1) :: us) _ _ (E σ)
    (room.make C us []) (I2.env0.make C us []) b0 r2 hq
  refine wpAny_call (make_map (f := f) I.kIn M.makes M.init (beq_iff_eq.mp M.fn) (codeAny_mono done ?_))
  intro res s2 hres
  cases res with
  | error u => exact hx σ pins _ _ u s2 I2 hres
  | ok out =>
    cases out with
    | ret u =>
      obtain ⟨v, H', I3, rv, ev, q3⟩ := I2.after hres
      cases ev
      exact ⟨rv, V.ref (s.heap.objs.size + 1), H', I3, rfl, q3⟩
    | next => exact hres.elim
    | brk => exact hres.elim
    | cont => exact hres.elim
end FW

/-! list.count of flat values. -/
namespace FW
open PySem PySem.Spec PyProof.Rows L2
def rCountB (K : PySem.W.Frag) : V → List V → Hp → VK → Prop := fun x xs H Q => ∃ (a : Addr) (ys : List V) (y : V), x = V.ref a ∧ xs = [y] ∧ SqL K H a ys ∧ flatV y = true ∧ ys.all flatV = true ∧ Q (.int (ys.countP (fun z => eqV z y) : Nat)) H
theorem countP_vals {y : V} : ∀ {ys : List V} {us : List Value}, Vals ys us → ys.all flatV = true → us.countP (eqU y) = ys.countP (fun z => eqV z y)
  | _, _, .nil, _ => rfl
  | x :: xs, u :: us, .cons r t, f => by
    rw [List.all_cons, Bool.and_eq_true] at f
    rw [List.countP_cons, List.countP_cons, countP_vals t f.2, eqU_of r f.1]
theorem mt_countB {X : Cx} : MtR X "list.count" (rCountB X.K) := by
  intro pins s σ H x xs v us Q I rx rxs h
  obtain ⟨a, ys, y, rfl, rfl, hs, fy, fys, q⟩ := h
  cases rx
  cases rxs with
  | cons ry rt =>
    rename_i uy ut
    cases rt
    obtain ⟨its, rv, ⟨⟨cls, dd, data, sl⟩, n, ho, hc, hdn, hd⟩, hlen⟩ := I.list hs
    simp only at hc hd
    subst hc hd
    refine call_meets PySem.F.slot_list_count ⟨_, ho, rfl⟩ PySem.F.entry_list_count (PySem.F.args_list_count_2 _ _)
      (SeqAt.list_countAt a its.toArray n dd sl uy (eqU y)) ⟨ho, fun u' hu' => mem_eqAt ry fy rv fys u' (by simpa using hu'), ?_⟩
    have e : (its.toArray.toList.countP (eqU y)) = ys.countP (fun z => eqV z y) := countP_vals rv fys
    rw [e]
    exact ⟨.int _, H, I.tok _, ⟨_, rfl⟩, q⟩
end FW

/-! What the laws' helpers promise that many laws have. -/
namespace FW
open PySem PySem.Spec PyProof.Rows L2
/-- a cell of the script, nought beyond it -/
def cell (ns : List Int) (k : Int) : Int := ns.getD k.toNat 0
def sp_l_cell_at (K : PySem.W.Frag) (A : Ad) : Sp := fun vs H Q _ => ∃ (a : Addr) (ns : List Int) (k : Int), vs = [.ref a, .int k] ∧ SqL K H a (ns.map V.int) ∧ 0 ≤ k ∧ Q (.int (cell ns k)) H
def sp_l_whole (K : PySem.W.Frag) (A : Ad) : Sp := fun vs H Q _ => ∃ i : Int, vs = [.int i] ∧ Q (.bl true) H
/-- a law: of at most 63 numbers it says True -/
def spLaw (K : PySem.W.Frag) : Sp := fun vs H Q _ => ∃ (a : Addr) (ns : List Int), vs = [.ref a] ∧ SqL K H a (ns.map V.int) ∧ ns.length ≤ 63 ∧ ∀ H', Q (.bl true) H'
end FW

namespace FW
open PySem PySem.Spec PyProof.Rows L2
/-- which kind of refusal an exception is -/
def KindAt (K : PySem.W.Frag) (A : Ad) (C : Addr) (j : Nat) : Prop := IsX K A C (decide (j = 0)) (decide (j = 1)) (decide (j = 2)) (decide (j = 3)) (decide (j = 4)) (decide (j = 5))
def sp_l_kind (K : PySem.W.Frag) (A : Ad) : Addr → Addr → Sp := fun C a vs H Q _ => ∃ j : Nat, vs = [.ref a] ∧ j < 6 ∧ KindAt K A C j ∧ ∀ H', Same H H' → Q (.int (j : Nat)) H'
end FW

/-! set(xs) of a list of whole numbers; list(reversed(xs)). -/
namespace FW
open PySem PySem.Spec PyProof.Rows L2
section
variable {P : Program} {w : World} {A : Around} {E : Value → Shared → Prop} {s : Shared}
/-- the empty set's object, as the model makes it -/
abbrev set0 (w : World) : Obj := { cls := .type "set", dict := none, data := .set #[] 0 (.fresh 0 0 (!w.params.followText "set-order")) }
set_option maxHeartbeats 6400000 in
theorem call_setL {l : Addr} {xs : Array Value} (ns : List Int) {Q : Value → Shared → Prop} (calm : A.handled = none) (isl : s.heap.IsList l xs) (wh : IntsAre xs.toList ns) (few : ns.length + 1 < scanBound)
    (fin : ∀ (g : Heap) (tk c : Nat), SetR w g s.heap.objs.size (fun j => decide (j ∈ ns)) c → (∀ b o, s.heap.get? b = some o → g.get? b = some o) → Q (.ref s.heap.objs.size) { s with heap := g, toks := tk }) :
    wpAny (model P w) A (call (.type "set") [.ref l]) Q E s := by
  have esz : xs.size = ns.length := by have q := IntsAre.length wh; rw [Array.length_toList] at q; exact q
  have mro := PySem.F.called_set.mro
  obtain ⟨mc, mt, hmro⟩ := mro
  have made := PySem.F.called_set.made
  have subs := PySem.F.called_set.sub
  refine wpAny_call (codeAny_of_tree ?_)
  show wpAny _ _ (callAny (Value.type "set") _) _ _ _
  refine wpAny_pure ⟨Code.quiet_builtin _ (by decide +kernel), codeAny_builtin PySem.F.entry_type_call ?_⟩
  rw [Around.under_plain (weight_type_call_type "set" [Value.ref l] []) rfl]
  have nt := PySem.F.called_set.notType
  have cc := PySem.F.called_set.canCreate
  have tc := PySem.F.typeCall_set_1 (.ref l)
  repeat (any_goals (first | assumption | wp_step))
  refine codeAny_mono (code_set_led1 (w := w) (.ref l) (E := E) (Q₁ := fun v s1 => v = .ref s.heap.objs.size ∧ s1 = { s with heap := s.heap.push (set0 w) }) ⟨rfl, rfl⟩) fun r s1 hr => ?_
  cases r with
  | error e => exact hr
  | ok fl =>
    cases fl with
    | ret ob =>
      obtain ⟨rfl, rfl⟩ := hr
      have at0 : (s.heap.push (set0 w)).get? s.heap.objs.size = some (set0 w) := Heap.get?_push_size _ rfl
      have ty0 : Shared.TypeIs { s with heap := s.heap.push (set0 w) } (.ref s.heap.objs.size) "set" := ⟨_, at0, rfl⟩
      have lk0 := PySem.F.called_set.init.lookup
      have bd0 := PySem.F.called_set.init.bind (.ref s.heap.objs.size)
      repeat (any_goals (first | assumption | wp_step))
      refine codeAny_mono (codeAny_call_builtin (R := wants (fun r s2 => r = .none ∧ ∃ g tk c, s2 = { s with heap := g, toks := tk } ∧ SetR w g s.heap.objs.size (fun j => decide (j ∈ ns)) c ∧ ∀ b o, s.heap.get? b = some o → g.get? b = some o) E)
        PySem.F.called_set.init.plain PySem.F.entry_set_init (check_set_init_1 ty0 ?_)) fun r2 s2 hr2 => ?_
      · obtain ⟨ol, atl, ccl, nl, dtl⟩ := isl
        obtain ⟨k1, k2, k3, k4⟩ := ol
        simp only at ccl dtl
        subst ccl dtl
        have at1 : (s.heap.push (set0 w)).get? l = some { cls := .type "list", dict := k2, data := .seq xs nl, slots := k4 } := Heap.get?_push_of_some _ atl
        have sub1 := PySem.F.sub_list_set
        have sub2 := PySem.F.sub_list_frozenset
        have ned : (Value.type "list" == Value.type "dict") = false := by decide
        have isl1 : (s.heap.push (set0 w)).IsList l xs := ⟨_, at1, rfl, nl, rfl⟩
        unfold Builtin.«set.__init__» noKeywords Builtin.Frozenset.updateFrom
        generalize hPI : pyIter = PI
        wp_walk
        subst hPI
        refine wpAny_pyIter_list isl1 ?_
        refine wpAny_bind (wpAny_runValue ?_)
        have ltl : l < s.heap.objs.size := Heap.lt_size atl
        have calm3 : A.in1.in1.in1.handled = none := by simp [calm]
        have szp : (s.heap.push (set0 w)).objs.size = s.heap.objs.size + 1 := Heap.size_push ..
        have nel : l ≠ (s.heap.push (set0 w)).objs.size := by rw [szp]; exact Nat.ne_of_lt (Nat.lt_succ_of_lt ltl)
        have nin : s.heap.objs.size ∉ [(s.heap.push (set0 w)).objs.size, l] := by
          intro m
          rcases List.mem_cons.mp m with m | m
          · rw [szp] at m; omega
          · have : s.heap.objs.size = l := by simpa using m
            exact Nat.ne_of_gt ltl this
        have vals : ∀ (i : Nat) (v : Value), xs[i]? = some v → ∃ k t, ns[i]? = some k ∧ v = .int k t := fun i v hv => by
          have hi : i < ns.length := by rw [← esz]; exact (Array.getElem?_eq_some_iff.mp hv).1
          obtain ⟨t, e⟩ := PyProof.Rows.IntsAre.int_at wh i v (by rw [Array.getElem?_toList]; exact hv)
          refine ⟨ns[i], t, List.getElem?_eq_getElem hi, ?_⟩
          rw [e, List.getD_eq_getElem?_getD, List.getElem?_eq_getElem hi]
          rfl
        refine set_update_ints ((Walks.list calm3 _ l nel xs).toS) s.heap.objs.size nin ns esz few vals (xs.size - 0) 0 _ (by omega) (Nat.zero_le _) ⟨⟨_, Heap.get?_push_size _ rfl, rfl, rfl⟩, isl1.push _⟩ ?c0 ?c1
        case c0 => exact ⟨0, Nat.le_refl 0, setR_new_at (Heap.get?_push_of_some _ at0)⟩
        case c1 =>
          intro s9 c9 mv _ R9
          obtain ⟨g9, gn9, dr9, tk9, os9⟩ := s9
          have q1 : gn9 = s.gens := mv.gens
          have q2 : dr9 = s.drawn := mv.drawn
          have q3 : os9 = s.os := mv.os
          subst q1 q2 q3
          show wpAny _ _ _ _ _ _
          refine wpAny_pure ?_
          show wpAny _ _ (ret Value.none) _ _ _
          refine wpAny_pure ⟨rfl, g9, tk9, c9, rfl, R9, fun b o e => ?_⟩
          have lb : b < s.heap.objs.size := Heap.lt_size e
          refine mv.heap b o (fun m => ?_) (Heap.get?_push_of_some _ (Heap.get?_push_of_some _ e))
          rcases List.mem_cons.mp m with m | m
          · exact Nat.ne_of_lt lb m
          · have : b = (s.heap.push (set0 w)).objs.size := by simpa using m
            rw [szp] at this
            exact Nat.ne_of_lt (Nat.lt_succ_of_lt lb) this
      · cases r2 with
        | error e => exact hr2
        | ok fl2 =>
          cases fl2 with
          | ret r =>
            obtain ⟨rfl, g, tk, c, rfl, R, kp⟩ := hr2
            repeat (any_goals (first | assumption | wp_step))
            exact fin _ _ _ R kp
          | _ => exact hr2.elim
    | _ => exact hr.elim
end
/-- set(xs): its members once each in out -/
def rSetI (K : PySem.W.Frag) (w : World) : List V → Hp → VK → Prop := fun vs H Q => ∃ (a : Addr) (ns : List Int), vs = [.ref a] ∧ SqL K H a (ns.map V.int) ∧ ns.length ≤ 1000 ∧
  ∀ (p : Addr) (out : List Int), H p = none → out.Nodup → (∀ k, k ∈ out ↔ k ∈ ns) → Q (.ref p) (upd H p (SetO w p (fun j => decide (j ∈ ns)) out.length))
theorem cr_setI {X : Cx} (hc : X.calm = true) : CallR X (.type "set") (rSetI X.K X.w) := by
  intro pins s σ H vs us Q I r h
  obtain ⟨a, ns, rfl, hS, hl, q⟩ := h
  rw [Vals.ref1 r]
  obtain ⟨its, rv, pl, hz⟩ := I.list hS
  refine call_setL ns (I.ok.hd hc) pl.isList (by simpa using ints_of_vals rv) (by unfold scanBound; omega) fun g tk c R kp => ?_
  obtain ⟨o, es, ep, t, ho, ex, hd, good, nd, mem, sz, fits, en, ris, led⟩ := id R
  have nn : H s.heap.objs.size = none := I.hok.fresh (Nat.le_refl _)
  have e1 : c = (es.toList.map keyOf).length := by rw [List.length_map, Array.length_toList, en]
  rw [e1] at R
  have J : Inv X pins σ (upd H s.heap.objs.size (SetO X.w s.heap.objs.size (fun j => decide (j ∈ ns)) (es.toList.map keyOf).length)) { s with heap := g, gens := s.gens, drawn := s.drawn, toks := tk } :=
    I.call (ch := []) (Un.laid kp (Nat.le_refl _) nn) (I.hok.laid kp (Nat.le_refl _) (setO_new R)) I.bare (fun _ z => nomatch z)
  exact ⟨.ref _, _, J, rfl, q _ _ nn nd fun k => by rw [← mem k]; simp⟩
end FW

/-! Covers: what the defs of fareweb/covers.py promise. -/
namespace FW
open PySem PySem.Spec PyProof.Rows L2

/-- a ticket: of a week, of a day, a single -/
inductive Tk where
  | wk (z p : Int)
  | dy (d z p : Int)
  | sg (d r z p : Int)
def Tk.vals : Tk → List V
  | .wk z p => [.str "week", .int z, .int p]
  | .dy d z p => [.str "day", .int d, .int z, .int p]
  | .sg d r z p => [.str "single", .int d, .int r, .int z, .int p]
def Tk.price : Tk → Int
  | .wk _ p => p
  | .dy _ _ p => p
  | .sg _ _ _ p => p
def tkCost (ts : List Tk) : Int := (ts.map Tk.price).sum
theorem tkCost_nil : tkCost [] = 0 := rfl
theorem tkCost_cons (t : Tk) (ts : List Tk) : tkCost (t :: ts) = t.price + tkCost ts := by
  unfold tkCost
  rw [List.map_cons, List.sum_cons]
theorem tkCost_append (a b : List Tk) : tkCost (a ++ b) = tkCost a + tkCost b := by
  unfold tkCost
  rw [List.map_append, List.sum_append]
/-- the tickets stand at these places -/
abbrev TkL (H : Hp) (xs : List V) (ts : List Tk) : Prop := Paired (fun v t => ∃ q, v = V.ref q ∧ H q = some (.tup t.vals)) xs ts
theorem TkL.same {H H' : Hp} (s : Same H H') : ∀ {xs : List V} {ts : List Tk}, TkL H xs ts → TkL H' xs ts
  | _, _, .nil => .nil
  | _, _, .cons ⟨q, e, h⟩ r => .cons ⟨q, e, s _ _ h⟩ (TkL.same s r)
theorem TkL.upd {H : Hp} {R : Addr} {ys : List V} {o : HO} (hR : H R = some (.lst ys)) : ∀ {xs : List V} {ts : List Tk}, TkL H xs ts → TkL (L2.upd H R o) xs ts
  | _, _, .nil => .nil
  | _, _, .cons ⟨q, e, h⟩ r => .cons ⟨q, e, by rw [upd_ne (ne_of h hR (by intro z; cases z))]; exact h⟩ (TkL.upd hR r)
theorem TkL.del {H : Hp} {R : Addr} {ys : List V} (hR : H R = some (.lst ys)) : ∀ {xs : List V} {ts : List Tk}, TkL H xs ts → TkL (FW.del H R) xs ts
  | _, _, .nil => .nil
  | _, _, .cons ⟨q, e, h⟩ r => .cons ⟨q, e, by rw [del_ne (ne_of h hR (by intro z; cases z))]; exact h⟩ (TkL.del hR r)
theorem TkL.snoc {H : Hp} {xs : List V} {ts : List Tk} {q : Addr} {t : Tk} (a : TkL H xs ts) (h : H q = some (.tup t.vals)) : TkL H (xs ++ [.ref q]) (ts ++ [t]) := Paired.snoc a ⟨q, rfl, h⟩
theorem TkL.app {H : Hp} : ∀ {xs ys : List V} {ts us : List Tk}, TkL H xs ts → TkL H ys us → TkL H (xs ++ ys) (ts ++ us)
  | _, _, _, _, .nil, b => b
  | _, _, _, _, .cons h r, b => .cons h (TkL.app r b)
theorem TkL.len {H : Hp} {xs : List V} {ts : List Tk} (a : TkL H xs ts) : xs.length = ts.length := Paired.length a
theorem Tk.inj {t u : Tk} (h : t.vals = u.vals) : t = u := by
  cases t <;> cases u <;> simp only [Tk.vals, List.cons.injEq, V.int.injEq, and_true, true_and, reduceCtorEq, and_false, false_and] at h
  · obtain ⟨a, b⟩ := h; rw [a, b]
  · obtain ⟨a, b, c⟩ := h; rw [a, b, c]
  · obtain ⟨a, b, c, d⟩ := h; rw [a, b, c, d]
theorem TkL.inj {H : Hp} : ∀ {xs : List V} {ts us : List Tk}, TkL H xs ts → TkL H xs us → ts = us
  | _, _, _, .nil, .nil => rfl
  | _, _, _, .cons ⟨q, e, h⟩ r, .cons ⟨q2, e2, h2⟩ r2 => by
    rw [e] at e2
    cases e2
    have e3 := h.symm.trans h2
    rw [Tk.inj (HO.tup.inj (Option.some.inj e3)), TkL.inj r r2]
theorem TkL.get {H : Hp} : ∀ {xs : List V} {ts : List Tk} {i : Nat} {x : V}, TkL H xs ts → xs[i]? = some x → ∃ t q, ts[i]? = some t ∧ x = .ref q ∧ H q = some (.tup t.vals)
  | _, _, _, _, .nil, h => by simp at h
  | _, _, 0, x, .cons ⟨q, e, h⟩ r, hx => ⟨_, q, rfl, by rw [← e]; exact (Option.some.inj hx).symm, h⟩
  | _, _, i + 1, x, .cons _ r, hx => TkL.get (i := i) r hx

/-! ### the least cost -/
/-- what the singles cost of the rides that are not served up to m zones -/
def sgSum (S : List Int) (m : Int) (rides : List Int) : Int := ((rides.filter fun z => decide (m < z)).map (low S)).sum
def ownCost (D : List Int) (own : Int) : Int := if 0 < own then low D own else 0
def dayCost (S D : List Int) (held : Int) (rides : List Int) (own : Int) : Int := ownCost D own + sgSum S (max held own) rides
def dayBest (S D : List Int) (held : Int) (rides : List Int) : Int := lowL ((0 :: rides).map (dayCost S D held rides))
def weekCost (S D W : List Int) (days : List (List Int)) (held : Int) : Int := ownCost W held + (days.map (dayBest S D held)).sum
def weekBest (S D W : List Int) (days : List (List Int)) : Int := lowL ((0 :: days.flatten).map (weekCost S D W days))
def In5 (z : Int) : Prop := 1 ≤ z ∧ z ≤ 5
instance (z : Int) : Decidable (In5 z) := by unfold In5; infer_instance

/-! ### which tickets are told -/
structure DayOk (S D : List Int) (d held : Int) (rides : List Int) (ts : List Tk) : Prop where
  ok : ∀ t ∈ ts, (∃ z, t = .dy d z (pr D z) ∧ In5 z) ∨ ∃ (r : Nat) (z : Int), t = .sg d r z (pr S z) ∧ r < rides.length ∧ In5 z
  served : ∀ (r : Nat) (z : Int), rides[r]? = some z → z ≤ held ∨ (∃ y, .dy d y (pr D y) ∈ ts ∧ z ≤ y) ∨ ∃ y, .sg d r y (pr S y) ∈ ts ∧ z ≤ y
structure WeekOk (S D W : List Int) (days : List (List Int)) (ts : List Tk) : Prop where
  ok : ∀ t ∈ ts, (∃ z, t = .wk z (pr W z) ∧ In5 z) ∨ (∃ (d : Nat) (z : Int), t = .dy d z (pr D z) ∧ d < days.length ∧ In5 z) ∨
    ∃ (d r : Nat) (z : Int) (rides : List Int), t = .sg d r z (pr S z) ∧ days[d]? = some rides ∧ r < rides.length ∧ In5 z
  served : ∀ (d r : Nat) (rides : List Int) (z : Int), days[d]? = some rides → rides[r]? = some z → (∃ y, .wk y (pr W y) ∈ ts ∧ z ≤ y) ∨ (∃ y, .dy d y (pr D y) ∈ ts ∧ z ≤ y) ∨ ∃ y, .sg d r y (pr S y) ∈ ts ∧ z ≤ y

/-! ### the heap: a list of lists of whole numbers -/
structure LLAt (K : PySem.W.Frag) (H : Hp) (a : Addr) (ps : List Addr) (days : List (List Int)) : Prop where
  sq : SqL K H a (ps.map V.ref)
  len : ps.length = days.length
  at_ : ∀ (i : Nat) (p : Addr) (r : List Int), ps[i]? = some p → days[i]? = some r → H p = some (.lst (r.map V.int))
theorem LLAt.same {K : PySem.W.Frag} {H H' : Hp} {a : Addr} {ps : List Addr} {days : List (List Int)} (l : LLAt K H a ps days) (s : Same H H') : LLAt K H' a ps days :=
  ⟨s.seq l.sq, l.len, fun i p r h1 h2 => s _ _ (l.at_ i p r h1 h2)⟩
def LL (K : PySem.W.Frag) (H : Hp) (a : Addr) (days : List (List Int)) : Prop := ∃ ps, LLAt K H a ps days
theorem LL.same {K : PySem.W.Frag} {H H' : Hp} {a : Addr} {days : List (List Int)} (l : LL K H a days) (s : Same H H') : LL K H' a days := let ⟨ps, h⟩ := l; ⟨ps, h.same s⟩

/-! ### promises -/
def sp_cost_of (K : PySem.W.Frag) (A : Ad) : Sp := fun vs H Q _ => ∃ (a : Addr) (xs : List V) (ts : List Tk), vs = [.ref a] ∧ SqL K H a xs ∧ TkL H xs ts ∧ xs.length ≤ 40000 ∧ ∀ H', Same H H' → Q (.int (tkCost ts)) H'
def sp_for_day (K : PySem.W.Frag) (A : Ad) : Sp := fun vs H Q _ => ∃ (p a : Addr) (d held : Int) (S D W rides : List Int), vs = [.ref p, .int d, .ref a, .int held] ∧ Tar A H p S D W ∧ SqL K H a (rides.map V.int) ∧ (∀ z ∈ rides, In5 z) ∧ rides.length ≤ 1000 ∧
  ∀ (l : Addr) (xs : List V) (ts : List Tk) (H' : Hp), Same H H' → H l = none → H' l = some (.lst xs) → TkL H' xs ts → DayOk S D d held rides ts → tkCost ts = dayBest S D held rides → ts.length ≤ 2 * rides.length → Q (.ref l) H'
def sp_for_week (K : PySem.W.Frag) (A : Ad) : Sp := fun vs H Q _ => ∃ (p a : Addr) (held : Int) (S D W : List Int) (days : List (List Int)), vs = [.ref p, .ref a, .int held] ∧ Tar A H p S D W ∧ LL K H a days ∧ (∀ r ∈ days, ∀ z ∈ r, In5 z) ∧ days.flatten.length ≤ 1000 ∧ days.length ≤ 20 ∧ 0 ≤ held ∧ held ≤ 5 ∧
  ∀ (l : Addr) (xs : List V) (ts : List Tk) (H' : Hp), Same H H' → H l = none → H' l = some (.lst xs) → TkL H' xs ts → WeekOk S D W days ts → tkCost ts = weekCost S D W days held → ts.length ≤ 2 * days.flatten.length + held.toNat → Q (.ref l) H'
def sp_least (K : PySem.W.Frag) (A : Ad) : Sp := fun vs H Q E => ∃ (p a : Addr) (S D W : List Int) (days : List (List Int)), vs = [.ref p, .ref a] ∧ Tar A H p S D W ∧ LL K H a days ∧ days.flatten.length ≤ 1000 ∧ days.length ≤ 20 ∧
  ((∀ r ∈ days, ∀ z ∈ r, In5 z) → ∀ (t l : Addr) (xs : List V) (ts : List Tk) (H' : Hp), Same H H' → H l = none → H t = none → H' t = some (.tup [.int (weekBest S D W days), .ref l]) → H' l = some (.lst xs) → TkL H' xs ts → WeekOk S D W days ts →
    tkCost ts = weekBest S D W days → ts.length ≤ 7 * days.flatten.length → Q (.ref t) H') ∧
  (¬ (∀ r ∈ days, ∀ z ∈ r, In5 z) → E (.ref A.c_BadZones) none H)
end FW

/-! A new list of new lists of whole numbers. -/
namespace FW
open PySem PySem.Spec PyProof.Rows L2
structure NewLL (H H' : Hp) (l : Addr) (ps : List Addr) (days : List (List Int)) : Prop where
  same : Same H H'
  lst : H' l = some (.lst (ps.map V.ref))
  len : ps.length = days.length
  nd : ps.Nodup
  ln : l ∉ ps
  l0 : H l = none
  p0 : ∀ p ∈ ps, H p = none
  at_ : ∀ (i : Nat) (p : Addr) (r : List Int), ps[i]? = some p → days[i]? = some r → H' p = some (.lst (r.map V.int))
theorem NewLL.ll {K : PySem.W.Frag} {H H' : Hp} {l : Addr} {ps : List Addr} {days : List (List Int)} (n : NewLL H H' l ps days) : LLAt K H' l ps days := ⟨SqL.of n.lst, n.len, n.at_⟩
theorem NewLL.ext {H H' H'' : Hp} {l : Addr} {ps : List Addr} {days : List (List Int)} (n : NewLL H H' l ps days) (s : Same H' H'') : NewLL H H'' l ps days :=
  ⟨n.same.trans s, s _ _ n.lst, n.len, n.nd, n.ln, n.l0, n.p0, fun i p r h1 h2 => s _ _ (n.at_ i p r h1 h2)⟩
theorem NewLL.pre {H0 H H' : Hp} {l : Addr} {ps : List Addr} {days : List (List Int)} (n : NewLL H H' l ps days) (s : Same H0 H) : NewLL H0 H' l ps days :=
  ⟨s.trans n.same, n.lst, n.len, n.nd, n.ln, s.free n.l0, fun p hp => s.free (n.p0 p hp), n.at_⟩
theorem NewLL.nil {H : Hp} {l : Addr} (h : H l = none) : NewLL H (upd H l (.lst [])) l [] [] :=
  ⟨Same.new h, upd_same, rfl, List.nodup_nil, by simp, h, fun p hp => by simp at hp, fun i p r h => by simp at h⟩
theorem get_snoc {α : Type} {l : List α} {x y : α} {i : Nat} (h : (l ++ [x])[i]? = some y) : (i < l.length ∧ l[i]? = some y) ∨ (i = l.length ∧ y = x) := by
  by_cases c : i < l.length
  · rw [List.getElem?_append_left c] at h
    exact .inl ⟨c, h⟩
  · have hi : i < (l ++ [x]).length := (List.getElem?_eq_some_iff.mp h).1
    rw [List.length_append, List.length_singleton] at hi
    have e : i = l.length := by omega
    rw [e, List.getElem?_append_right (Nat.le_refl _), Nat.sub_self] at h
    exact .inr ⟨e, (Option.some.inj h).symm⟩
theorem NewLL.snoc {H H' H'' : Hp} {l D : Addr} {ps : List Addr} {days : List (List Int)} {r : List Int} (n : NewLL H H' l ps days) (hD : H' D = none) (s : Same H' H'') (e : H'' D = some (.lst (r.map V.int))) :
    NewLL H (upd H'' l (.lst (ps.map V.ref ++ [.ref D]))) l (ps ++ [D]) (days ++ [r]) where
  same := (n.same.trans s).mut n.l0
  lst := by rw [upd_same, List.map_append]; rfl
  len := by rw [List.length_append, List.length_append, n.len]; rfl
  nd := List.nodup_append.mpr ⟨n.nd, by simp, fun a ha b hb => by
    have eb : b = D := by simpa using hb
    rw [eb]
    intro e2
    obtain ⟨j, hj⟩ := List.mem_iff_getElem?.mp ha
    have hjl : j < days.length := by rw [← n.len]; exact (List.getElem?_eq_some_iff.mp hj).1
    have := n.at_ j a _ hj (List.getElem?_eq_getElem hjl)
    rw [e2, hD] at this
    cases this⟩
  ln := fun m => by
    rcases List.mem_append.mp m with g | g
    · exact n.ln g
    · have : l = D := by simpa using g
      rw [← this, n.lst] at hD
      cases hD
  l0 := n.l0
  p0 := fun p hp => by
    rcases List.mem_append.mp hp with g | g
    · exact n.p0 p g
    · have : p = D := by simpa using g
      rw [this]
      exact n.same.free hD
  at_ := fun i p q h1 h2 => by
    rcases get_snoc h1 with ⟨c, g⟩ | ⟨c, g⟩
    · rcases get_snoc h2 with ⟨c2, g2⟩ | ⟨c2, g2⟩
      · have np : p ≠ l := fun z => n.ln (by rw [← z]; exact List.mem_iff_getElem?.mpr ⟨i, g⟩)
        rw [upd_ne np]
        exact s _ _ (n.at_ i p q g g2)
      · have := n.len
        omega
    · rcases get_snoc h2 with ⟨c2, g2⟩ | ⟨c2, g2⟩
      · have := n.len
        omega
      · have np : D ≠ l := fun z => by rw [z, n.lst] at hD; cases hD
        rw [g, g2, upd_ne np]
        exact e
theorem NewLL.put {H H' : Hp} {l p : Addr} {ps : List Addr} {days : List (List Int)} {j : Nat} {r r' : List Int} (n : NewLL H H' l ps days) (hp : ps[j]? = some p) (hr : days[j]? = some r) :
    NewLL H (upd H' p (.lst (r'.map V.int))) l ps (days.set j r') where
  same := n.same.mut (n.p0 p (List.mem_iff_getElem?.mpr ⟨j, hp⟩))
  lst := by
    have nl : l ≠ p := fun z => n.ln (by rw [z]; exact List.mem_iff_getElem?.mpr ⟨j, hp⟩)
    rw [upd_ne nl]
    exact n.lst
  len := by rw [List.length_set]; exact n.len
  nd := n.nd
  ln := n.ln
  l0 := n.l0
  p0 := n.p0
  at_ := fun i q s h1 h2 => by
    by_cases e : i = j
    · subst e
      rw [hp] at h1
      cases h1
      have hj : i < days.length := (List.getElem?_eq_some_iff.mp hr).1
      rw [List.getElem?_set_self hj] at h2
      cases h2
      exact upd_same
    · rw [List.getElem?_set_ne (fun z => e z.symm)] at h2
      have nq : q ≠ p := fun z => by
        rw [z] at h1
        exact e (nd_ix n.nd h1 hp)
      rw [upd_ne nq]
      exact n.at_ i q s h1 h2
theorem NewLL.of_news {H H' : Hp} {D : Addr} {addrs : List Addr} {days : List (List Int)} {obj : Nat → HO} (n : News H D obj addrs H') (hD : H D = none) (hl : addrs.length = days.length) (ho : ∀ (i : Nat) (r : List Int), days[i]? = some r → obj i = .lst (r.map V.int)) : NewLL H H' D addrs days :=
  ⟨n.same.trans (del_sub _ _), n.lst, hl, n.nd, fun m => by
    obtain ⟨j, hj⟩ := List.mem_iff_getElem?.mp m
    exact (del_get (n.at_ j D hj)).2 rfl, hD, n.old, fun i p r h1 h2 => by rw [(del_get (n.at_ i p h1)).1, ho i r h2]⟩
/-- how many numbers there are -/
def llen (days : List (List Int)) : Nat := (days.map List.length).sum
theorem llen_flatten (days : List (List Int)) : days.flatten.length = llen days := by
  unfold llen
  rw [List.length_flatten]
theorem llen_set : ∀ {days : List (List Int)} {j : Nat} {r r' : List Int}, days[j]? = some r → llen (days.set j r') + r.length = llen days + r'.length
  | [], j, r, r', h => by simp at h
  | a :: l, 0, r, r', h => by
    have e : a = r := Option.some.inj h
    subst e
    simp only [llen, List.set_cons_zero, List.map_cons, List.sum_cons]
    omega
  | a :: l, j + 1, r, r', h => by
    have ih := llen_set (days := l) (j := j) (r := r) (r' := r') h
    simp only [llen, List.set_cons_succ, List.map_cons, List.sum_cons] at ih ⊢
    omega
theorem all_set {P : Int → Prop} {days : List (List Int)} {j : Nat} {r' : List Int} (h : ∀ r ∈ days, ∀ z ∈ r, P z) (h' : ∀ z ∈ r', P z) : ∀ r ∈ days.set j r', ∀ z ∈ r, P z := fun r hr => by
  rcases List.mem_or_eq_of_mem_set hr with g | g
  · exact h r g
  · rw [g]
    exact h'
end FW

/-! Covers: no tickets cost less than the least. -/
namespace FW
open PySem PySem.Spec PyProof.Rows L2
theorem ex_max (b : Int) : ∀ {l : List Int}, (∃ x ∈ l, x ≤ b) → ∃ m ∈ l, m ≤ b ∧ ∀ y ∈ l, y ≤ b → y ≤ m
  | [], h => by obtain ⟨x, hx, _⟩ := h; cases hx
  | a :: r, h => by
    by_cases c : ∃ x ∈ r, x ≤ b
    · obtain ⟨m, hm, h1, h2⟩ := ex_max b c
      by_cases e : a ≤ b ∧ m < a
      · refine ⟨a, List.mem_cons_self, e.1, fun y hy hb => ?_⟩
        rcases List.mem_cons.mp hy with g | g
        · omega
        · have := h2 y g hb
          omega
      · refine ⟨m, List.mem_cons_of_mem _ hm, h1, fun y hy hb => ?_⟩
        rcases List.mem_cons.mp hy with g | g
        · omega
        · exact h2 y g hb
    · obtain ⟨x, hx, hb⟩ := h
      rcases List.mem_cons.mp hx with g | g
      · subst g
        refine ⟨x, List.mem_cons_self, hb, fun y hy hyb => ?_⟩
        rcases List.mem_cons.mp hy with g | g
        · omega
        · exact absurd ⟨y, g, hyb⟩ c
      · exact absurd ⟨x, g, hb⟩ c
theorem ownCost_nn {D : List Int} {own : Int} (h : Row5 D) : 0 ≤ ownCost D own := by
  unfold ownCost
  split
  · exact low_nn h.2
  · exact Int.le_refl _
theorem ownCost_mono {D : List Int} {a b : Int} (h : Row5 D) (hab : a ≤ b) (hb : b ≤ 5) : ownCost D a ≤ ownCost D b := by
  unfold ownCost
  by_cases c : 0 < a
  · rw [if_pos c, if_pos (by omega)]
    exact low_mono (by omega) hab (by rw [h.1]; omega)
  · rw [if_neg c]
    exact ownCost_nn h
theorem sgSum_cut {S : List Int} {m n : Int} {rides : List Int} (h : ∀ z ∈ rides, (m < z ↔ n < z)) : sgSum S m rides = sgSum S n rides := by
  unfold sgSum
  have e : rides.filter (fun z => decide (m < z)) = rides.filter (fun z => decide (n < z)) := List.filter_congr fun z hz => by simp only [h z hz]
  rw [e]
theorem dayBest_le {S D : List Int} {held own : Int} {rides : List Int} (hD : Row5 D) (h0 : 0 ≤ own) (h5 : own ≤ 5) : dayBest S D held rides ≤ dayCost S D held rides own := by
  obtain ⟨m, hm, h1, h2⟩ := ex_max own (l := 0 :: rides) ⟨0, List.mem_cons_self, h0⟩
  have e : dayCost S D held rides m ≤ dayCost S D held rides own := by
    unfold dayCost
    have e1 := ownCost_mono hD h1 h5
    have e2 : sgSum S (max held m) rides = sgSum S (max held own) rides := sgSum_cut fun z hz => by
      have := h2 z (List.mem_cons_of_mem _ hz)
      omega
    omega
  have := lowL_le (List.mem_map.mpr ⟨m, hm, rfl⟩ : dayCost S D held rides m ∈ (0 :: rides).map (dayCost S D held rides))
  unfold dayBest
  omega
theorem weekBest_le {S D W : List Int} {held : Int} {days : List (List Int)} (hW : Row5 W) (h0 : 0 ≤ held) (h5 : held ≤ 5) : weekBest S D W days ≤ weekCost S D W days held := by
  obtain ⟨m, hm, h1, h2⟩ := ex_max held (l := 0 :: days.flatten) ⟨0, List.mem_cons_self, h0⟩
  have e : weekCost S D W days m ≤ weekCost S D W days held := by
    unfold weekCost
    have e1 := ownCost_mono hW h1 h5
    have e2 : days.map (dayBest S D m) = days.map (dayBest S D held) := List.map_congr_left fun rides hr => by
      unfold dayBest
      have e3 : dayCost S D m rides = dayCost S D held rides := by
        funext own
        unfold dayCost
        have e4 : sgSum S (max m own) rides = sgSum S (max held own) rides := sgSum_cut fun z hz => by
          have := h2 z (List.mem_cons_of_mem _ (List.mem_flatten.mpr ⟨rides, hr, hz⟩))
          omega
        rw [e4]
      rw [e3]
    rw [e2]
    omega
  have := lowL_le (List.mem_map.mpr ⟨m, hm, rfl⟩ : weekCost S D W days m ∈ (0 :: days.flatten).map (weekCost S D W days))
  unfold weekBest
  omega
theorem sum_nn : ∀ {l : List Int}, (∀ x ∈ l, 0 ≤ x) → 0 ≤ l.sum
  | [], _ => Int.le_refl _
  | a :: r, h => by
    rw [List.sum_cons]
    have h1 := h a List.mem_cons_self
    have h2 := sum_nn (l := r) fun x hx => h x (List.mem_cons_of_mem _ hx)
    omega
theorem sgSum_nn {S : List Int} {m : Int} {rides : List Int} (h : Row5 S) : 0 ≤ sgSum S m rides := sum_nn fun x hx => by
  obtain ⟨z, _, rfl⟩ := List.mem_map.mp hx
  exact low_nn h.2
theorem dayCost_nn {S D : List Int} {held own : Int} {rides : List Int} (hS : Row5 S) (hD : Row5 D) : 0 ≤ dayCost S D held rides own := by
  unfold dayCost
  have := ownCost_nn (own := own) hD
  have := sgSum_nn (m := max held own) (rides := rides) hS
  omega
theorem dayBest_nn {S D : List Int} {held : Int} {rides : List Int} (hS : Row5 S) (hD : Row5 D) : 0 ≤ dayBest S D held rides := by
  unfold dayBest
  obtain ⟨k, _, e⟩ := List.mem_map.mp (lowL_mem (l := (0 :: rides).map (dayCost S D held rides)) (by simp))
  rw [← e]
  exact dayCost_nn hS hD
theorem weekBest_nn {S D W : List Int} {days : List (List Int)} (hS : Row5 S) (hD : Row5 D) (hW : Row5 W) : 0 ≤ weekBest S D W days := by
  unfold weekBest
  obtain ⟨k, _, e⟩ := List.mem_map.mp (lowL_mem (l := (0 :: days.flatten).map (weekCost S D W days)) (by simp))
  rw [← e]
  unfold weekCost
  have h1 := ownCost_nn (own := k) hW
  have h2 : 0 ≤ (days.map (dayBest S D k)).sum := sum_nn fun x hx => by
    obtain ⟨r, _, rfl⟩ := List.mem_map.mp hx
    exact dayBest_nn hS hD
  omega
end FW

/-! What the laws' helpers promise that make rows of prices, days of rides. -/
namespace FW
open PySem PySem.Spec PyProof.Rows L2
def sp_l_rows (K : PySem.W.Frag) (A : Ad) : Sp := fun vs H Q _ => ∃ (a : Addr) (ns : List Int), vs = [.ref a] ∧ SqL K H a (ns.map V.int) ∧ ns.length ≤ 63 ∧
  ∀ (l : Addr) (ps : List Addr) (S D W : List Int) (H' : Hp), Row5 S → Row5 D → Row5 W → NewLL H H' l ps [S, D, W] → Q (.ref l) H'
def sp_l_days (K : PySem.W.Frag) (A : Ad) : Sp := fun vs H Q _ => ∃ (a : Addr) (ns : List Int), vs = [.ref a] ∧ SqL K H a (ns.map V.int) ∧ ns.length ≤ 63 ∧
  ∀ (l : Addr) (ps : List Addr) (days : List (List Int)) (H' : Hp), (∀ r ∈ days, ∀ z ∈ r, In5 z) → llen days ≤ 200 → days.length ≤ 7 → NewLL H H' l ps days → Q (.ref l) H'
def sp_l_paid (K : PySem.W.Frag) (A : Ad) : Sp := fun vs H Q _ => ∃ (n o : Int) (R L : Addr) (S D W : List Int) (days : List (List Int)), vs = [.int n, .int o, .ref R, .ref L] ∧ LL K H R [S, D, W] ∧ LL K H L days ∧ Row5 S ∧ Row5 D ∧ Row5 W ∧
  (∀ r ∈ days, ∀ z ∈ r, In5 z) ∧ days.length ≤ 20 ∧ llen days ≤ 1000 ∧ ∀ v : Int, weekBest S D W days ≤ v → Q (.int v) H
/-- the s-th row of prices -/
def rowOf (ns : List Int) (most : Int) (first : Int) (s : Nat) : List Int := (List.range 5).map fun (k : Nat) => cell ns (first + 5 * (s : Int) + (k : Int)) % most
theorem rowOf_len (ns : List Int) (most first : Int) (s : Nat) : (rowOf ns most first s).length = 5 := by
  unfold rowOf
  rw [List.length_map, List.length_range]
theorem rowOf_ok {ns : List Int} {most first : Int} {s : Nat} (h : 0 < most) : Row5 (rowOf ns most first s) := ⟨rowOf_len _ _ _ _, fun x hx => by
  obtain ⟨k, _, rfl⟩ := List.mem_map.mp hx
  exact Int.emod_nonneg _ (by omega)⟩
theorem at_ref {addrs : List Addr} {i : Nat} {p : Addr} (h : addrs[i]? = some p) : atI (addrs.map V.ref) (0 + (i : Int)) = some (.ref p) := by
  rw [Int.zero_add]
  exact atI_nat (by rw [List.getElem?_map, h]; rfl)
theorem at_refi {addrs : List Addr} {i : Int} {p : Addr} (h0 : 0 ≤ i) (h : addrs[i.toNat]? = some p) : atI (addrs.map V.ref) i = some (.ref p) := atI_lt h0 (by rw [List.getElem?_map, h]; rfl)
theorem get_some {α : Type} {l : List α} {i : Nat} (h : i < l.length) : ∃ x, l[i]? = some x := ⟨l[i], List.getElem?_eq_getElem h⟩
theorem LLAt.get {K : PySem.W.Frag} {H : Hp} {a : Addr} {ps : List Addr} {days : List (List Int)} {i : Int} {r : List Int} (l : LLAt K H a ps days) (h0 : 0 ≤ i) (h : days[i.toNat]? = some r) : ∃ p, atI (ps.map V.ref) i = some (.ref p) ∧ H p = some (.lst (r.map V.int)) := by
  have hi : i.toNat < ps.length := by rw [l.len]; exact (List.getElem?_eq_some_iff.mp h).1
  obtain ⟨p, hp⟩ := get_some hi
  exact ⟨p, at_refi h0 hp, l.at_ _ _ _ hp h⟩
/-- one of some whole numbers by its place -/
theorem pick {ns : List Int} {i : Int} (h0 : 0 ≤ i) (h : i < ns.length) : ∃ m : Int, atI (ns.map V.int) i = some (.int m) ∧ m ∈ ns := ⟨_, atI_map h0 h, by
  rw [List.getD_eq_getElem?_getD, List.getElem?_eq_getElem (by omega)]
  exact List.getElem_mem _⟩
end FW

/-! Slices of lists of whole numbers. -/
namespace FW
open PySem PySem.Spec PyProof.Rows L2
theorem cut_ints (xs : List Int) (lo hi : Option Int) : ∃ ys : List Int, cutV (xs.map V.int) lo hi = ys.map V.int ∧ ys.length ≤ xs.length := by
  unfold cutV
  refine ⟨(xs.drop (HT.sIx (xs.map V.int).length 0 lo)).take (HT.sIx (xs.map V.int).length (xs.map V.int).length hi - HT.sIx (xs.map V.int).length 0 lo), by rw [List.map_take, List.map_drop], ?_⟩
  rw [List.length_take, List.length_drop]
  omega
theorem cut_1 (xs : List V) : cutV xs (some 1) none = xs.drop 1 := by
  unfold cutV
  have e : HT.sIx xs.length 0 (some ((1 : Nat) : Int)) = min 1 xs.length := HT.sIx_nat xs.length 0 1
  have e : HT.sIx xs.length 0 (some 1) = min 1 xs.length := e
  rw [e, HT.sIx_none]
  cases xs with
  | nil => rfl
  | cons x r =>
    rw [List.length_cons, Nat.min_eq_left (by omega)]
    exact List.take_of_length_le (by rw [List.length_drop, List.length_cons]; exact Nat.le_refl _)
theorem cut_to1 (xs : List V) : cutV xs none (some 1) = xs.take 1 := by
  unfold cutV
  have e : HT.sIx xs.length xs.length (some ((1 : Nat) : Int)) = min 1 xs.length := HT.sIx_nat xs.length _ 1
  have e : HT.sIx xs.length xs.length (some 1) = min 1 xs.length := e
  rw [e, HT.sIx_none, List.drop_zero, Nat.sub_zero]
  cases xs with
  | nil => rfl
  | cons x r => rw [List.length_cons, Nat.min_eq_left (by omega)]
theorem cut_nat (xs : List Int) (a b : Nat) : ∃ ys : List Int, cutV (xs.map V.int) (some (a : Int)) (some (b : Int)) = ys.map V.int ∧ ys.length ≤ b - a := by
  unfold cutV
  rw [HT.sIx_nat, HT.sIx_nat]
  refine ⟨(xs.drop (min a (xs.map V.int).length)).take (min b (xs.map V.int).length - min a (xs.map V.int).length), by rw [List.map_take, List.map_drop], ?_⟩
  rw [List.length_take]
  omega
theorem cut_len (xs : List Int) (a b : Nat) (h : a ≤ b) : ∃ ys : List Int, cutV (xs.map V.int) (some (a : Int)) (some (b : Int)) = ys.map V.int ∧ ys.length = min b xs.length - min a xs.length := by
  unfold cutV
  rw [HT.sIx_nat, HT.sIx_nat]
  refine ⟨(xs.drop (min a (xs.map V.int).length)).take (min b (xs.map V.int).length - min a (xs.map V.int).length), by rw [List.map_take, List.map_drop], ?_⟩
  rw [List.length_take, List.length_drop, List.length_map]
  omega
end FW

namespace FW
open PySem PySem.Spec PyProof.Rows L2
/-- Tariff(..): a new one -/
theorem mk_tariff {K : PySem.W.Frag} {A : Ad} {H : Hp} {T dx a b c : Addr} {S D W : List Int} {Q : VK} {E : XK} (nT : H T = none) (nd : H dx = none) (ha : SqL K H a (S.map V.int)) (hb : SqL K H b (D.map V.int)) (hc : SqL K H c (W.map V.int)) (rS : Row5 S) (rD : Row5 D) (rW : Row5 W)
    (q : ∀ H', Same H H' → Tar A H' T S D W → Q .non H') : sp_Tariff_init K A [.ref T, .ref a, .ref b, .ref c] (upd (upd H dx (.own T)) T (.ins A.c_Tariff dx [])) Q E := by
  have sN : Same H (upd (upd H dx (.own T)) T (.ins A.c_Tariff dx [])) := (Same.new nd).mut nT
  refine ⟨T, dx, a, b, c, S, D, W, rfl, upd_same, sN.seq ha, sN.seq hb, sN.seq hc, fun _ a' b' c' H' t _ _ _ _ _ _ kp => ?_, fun n => absurd ⟨rS, rD, rW⟩ n⟩
  exact q H' (fun x o e => kp x o (sN x o e) (ne_of_none e nT)) ⟨_, _, _, t⟩
theorem mk_tariff2 {K : PySem.W.Frag} {A : Ad} {H : Hp} {T dx a b c : Addr} {S D W : List Int} {Q : VK} {E : XK} (nT : H T = none) (nd : H dx = none) (ha : SqL K H a (S.map V.int)) (hb : SqL K H b (D.map V.int)) (hc : SqL K H c (W.map V.int)) (rS : Row5 S) (rD : Row5 D) (rW : Row5 W)
    (q : ∀ H' a' b' c', Same H H' → TarAt A H' T a' b' c' S D W → H a' = none → H b' = none → H c' = none → Q .non H') : sp_Tariff_init K A [.ref T, .ref a, .ref b, .ref c] (upd (upd H dx (.own T)) T (.ins A.c_Tariff dx [])) Q E := by
  have sN : Same H (upd (upd H dx (.own T)) T (.ins A.c_Tariff dx [])) := (Same.new nd).mut nT
  refine ⟨T, dx, a, b, c, S, D, W, rfl, upd_same, sN.seq ha, sN.seq hb, sN.seq hc, fun _ a' b' c' H' t na nb nc _ _ _ kp => ?_, fun n => absurd ⟨rS, rD, rW⟩ n⟩
  exact q H' a' b' c' (fun x o e => kp x o (sN x o e) (ne_of_none e nT)) t (sN.free na) (sN.free nb) (sN.free nc)
end FW

namespace FW
open PySem PySem.Spec PyProof.Rows L2
def sp_l_made (K : PySem.W.Frag) (A : Ad) : Sp := fun vs H Q _ => ∃ (R : Addr) (ps : List Addr) (S D W : List Int), vs = [.ref R] ∧ LLAt K H R ps [S, D, W] ∧
  (Row5 S ∧ Row5 D ∧ Row5 W → ∀ (T : Addr) (H' : Hp), Same H H' → Tar A H' T S D W → Q (.ref T) H') ∧ (¬ (Row5 S ∧ Row5 D ∧ Row5 W) → ∀ H', Same H H' → Q .non H')
def sp_l_any_refusal (K : PySem.W.Frag) (A : Ad) : Sp := fun vs H Q _ => ∃ (R : Addr) (ps : List Addr) (S D W : List Int), vs = [.ref R] ∧ LLAt K H R ps [S, D, W] ∧ ¬ (Row5 S ∧ Row5 D ∧ Row5 W) ∧ ∀ H', Same H H' → Q (.bl true) H'
def sp_l_asked (K : PySem.W.Frag) (A : Ad) : Sp := fun vs H Q E => ∃ (T : Addr) (S D W : List Int) (i z : Int), vs = [.ref T, .int i, .int z] ∧ Tar A H T S D W ∧ (In5 z → ∀ (v : Int) (H' : Hp), Same H H' → Q (.int v) H') ∧ (¬ In5 z → ∀ H', Same H H' → E (.ref A.c_BadZones) none H')
def sp_l_zones_refused (K : PySem.W.Frag) (A : Ad) : Sp := fun vs H Q _ => ∃ (T : Addr) (S D W : List Int) (i z : Int), vs = [.ref T, .int i, .int z] ∧ Tar A H T S D W ∧ ∀ H', Same H H' → Q (.bl (decide (¬ In5 z))) H'
def sp_l_zones_refused_by_any (K : PySem.W.Frag) (A : Ad) : Sp := fun vs H Q _ => ∃ (T : Addr) (S D W : List Int) (i z : Int), vs = [.ref T, .int i, .int z] ∧ Tar A H T S D W ∧ ¬ In5 z ∧ ∀ H', Same H H' → Q (.bl true) H'
def sp_law (K : PySem.W.Frag) (A : Ad) : Sp := spLaw K
end FW

namespace FW
open PySem PySem.Spec PyProof.Rows L2
def N_l_cell_at : List Str := ["_law_script", "_law_k"]
def t_l_cell_at (K : PySem.W.Frag) (A : Ad) (E : XK) : TS :=
 tSeq (tIfS (tTest (tOp rLtI (tVar 1) (tCB (rLenS K) (tCons (tVar 0) (tNil))))) (tRet (tOp (rIxL K) (tVar 0) (tVar 1))) (tNext))
 (tRet (tC (.int 0)))
def N_l_kind : List Str := ["_law_e", "_law_kinds"]
def t_l_kind (K : PySem.W.Frag) (A : Ad) (C a : Addr) (E : XK) : TS :=
 tSeq (tAsg (tLst (tCons (tCB (rIsEH K C a) (tCons (tVar 0) (tCons (tC (.ref A.c_BadLink)) (tNil)))) (tCons (tCB (rIsEH K C a) (tCons (tVar 0) (tCons (tC (.ref A.c_BadStop)) (tNil)))) (tCons (tCB (rIsEH K C a) (tCons (tVar 0) (tCons (tC (.ref A.c_NoWay)) (tNil)))) (tCons (tCB (rIsEH K C a) (tCons (tVar 0) (tCons (tC (.ref A.c_BadPrices)) (tNil)))) (tNil)))))) (gName 1))
 (tSeq (tAsg (tOp rCat (tVar 1) (tLst (tCons (tCB (rIsEH K C a) (tCons (tVar 0) (tCons (tC (.ref A.c_BadZones)) (tNil)))) (tCons (tCB (rIsEH K C a) (tCons (tVar 0) (tCons (tC (.ref A.c_PastDay)) (tNil)))) (tNil))))) (gName 1))
 (tSeq (tIfS (tOr (tNot (tB (tCB (rIsEH K C a) (tCons (tVar 0) (tCons (tC (.ty "ValueError")) (tNil)))))) (tTest (tOp rNe (tBM K "list" (rCountB K) (tVar 1) (tCons (tC (.bl true)) (tNil))) (tC (.int 1))))) (tRet (tUn rNeg (tC (.int 1)))) (tNext))
 (tRet (tBM K "list" (rIndex K) (tVar 1) (tCons (tC (.bl true)) (tNil))))))
def N_l_made : List Str := ["_law_rows"]
def t_l_made (K : PySem.W.Frag) (A : Ad) (E : XK) : TS :=
 tTryOnly K (.ref A.c_BadPrices) (fun W => tRet (tMakeS A.c_Tariff (sp_Tariff_init K A) (WE W) (tCons (tOp (rIxL K) (tVar 0) (tC (.int 0))) (tCons (tOp (rIxL K) (tVar 0) (tC (.int 1))) (tCons (tOp (rIxL K) (tVar 0) (tC (.int 2))) (tNil)))))) (fun _ _ _ => tRet (tC .non))
def N_l_any_refusal : List Str := ["_law_rows", "_law_e"]
def t_l_any_refusal (K : PySem.W.Frag) (A : Ad) (E : XK) : TS :=
 tSeq (tTryAs K (.ref A.c_FareError) 1 (fun W => tDrop (tMakeS A.c_Tariff (sp_Tariff_init K A) (WE W) (tCons (tOp (rIxL K) (tVar 0) (tC (.int 0))) (tCons (tOp (rIxL K) (tVar 0) (tC (.int 1))) (tCons (tOp (rIxL K) (tVar 0) (tC (.int 2))) (tNil)))))) (fun a C => tRet (tOp rEq (tCallE (sp_l_kind K A) C a (tCons (tVar 1) (tNil))) (tC (.int 3)))))
 (tRet (tC (.bl false)))
def N_l_asked : List Str := ["_law_tariff", "_law_sort", "_law_zones"]
def t_l_asked (K : PySem.W.Frag) (A : Ad) (E : XK) : TS :=
 tSeq (tIfS (tTest (tOp rEq (tVar 1) (tC (.int 0)))) (tRet (tMeth A.c_Tariff "single" (sp_Tariff_single K A) [] E (tVar 0) (tCons (tVar 2) (tNil)))) (tNext))
 (tSeq (tIfS (tTest (tOp rEq (tVar 1) (tC (.int 1)))) (tRet (tMeth A.c_Tariff "day" (sp_Tariff_day K A) [] E (tVar 0) (tCons (tVar 2) (tNil)))) (tNext))
 (tRet (tMeth A.c_Tariff "week" (sp_Tariff_week K A) [] E (tVar 0) (tCons (tVar 2) (tNil)))))
def N_l_zones_refused : List Str := ["_law_tariff", "_law_sort", "_law_zones"]
def t_l_zones_refused (K : PySem.W.Frag) (A : Ad) (E : XK) : TS :=
 tSeq (tTryOnly K (.ref A.c_BadZones) (fun W => tDrop (tCallS (sp_l_asked K A) (WE W) (tCons (tVar 0) (tCons (tVar 1) (tCons (tVar 2) (tNil)))))) (fun _ _ _ => tRet (tC (.bl true))))
 (tRet (tC (.bl false)))
def N_l_zones_refused_by_any : List Str := ["_law_tariff", "_law_sort", "_law_zones", "_law_e"]
def t_l_zones_refused_by_any (K : PySem.W.Frag) (A : Ad) (E : XK) : TS :=
 tSeq (tTryAs K (.ref A.c_FareError) 3 (fun W => tDrop (tCallS (sp_l_asked K A) (WE W) (tCons (tVar 0) (tCons (tVar 1) (tCons (tVar 2) (tNil)))))) (fun a C => tRet (tOp rEq (tCallE (sp_l_kind K A) C a (tCons (tVar 3) (tNil))) (tC (.int 4)))))
 (tRet (tC (.bl false)))
@[irreducible] def t_law_b1_s1 (K : PySem.W.Frag) (A : Ad) (E : XK) : TS :=
 tIfS (tAnd (tB (tVar 9)) (tNot (tB (tCall (sp_l_zones_refused_by_any K A) [] E0 (tCons (tVar 7) (tCons (tVar 5) (tCons (tVar 8) (tNil)))))))) (tRet (tC (.bl false))) (tNext)
@[irreducible] def t_law_b1 (K : PySem.W.Frag) (A : Ad) (E : XK) : TS :=
 tSeq (tIfS (tTest (tOp rNe (tCall (sp_l_zones_refused K A) [] E0 (tCons (tVar 7) (tCons (tVar 5) (tCons (tVar 8) (tNil))))) (tVar 9))) (tRet (tC (.bl false))) (tNext))
 (t_law_b1_s1 K A E)
@[irreducible] def t_law_s15 (K : PySem.W.Frag) (A : Ad) (E : XK) : TS :=
 tRet (tC (.bl true))
@[irreducible] def t_law_s14 (K : PySem.W.Frag) (A : Ad) (E : XK) : TS :=
 tSeq (tFor (iRng1 (tCons (tC (.int 3)) (tNil))) (gName 5) (t_law_b1 K A E))
 (t_law_s15 K A E)
@[irreducible] def t_law_s13 (K : PySem.W.Frag) (A : Ad) (E : XK) : TS :=
 tSeq (tAsg (tOrV (tOp rLtI (tVar 8) (tC (.int 1))) (tOp rGtI (tVar 8) (tC (.int 5)))) (gName 9))
 (t_law_s14 K A E)
@[irreducible] def t_law_s12 (K : PySem.W.Frag) (A : Ad) (E : XK) : TS :=
 tSeq (tIfS (tTest (tOp rEq (tOp rModI (tOp rDivI (tCall (sp_l_cell_at K A) [] E0 (tCons (tVar 0) (tCons (tC (.int 2)) (tNil)))) (tC (.int 13))) (tC (.int 4))) (tC (.int 1)))) (tAsg (tOp rAdd (tVar 8) (tOp rMulI (tOp rSub (tOp rMulI (tOp rModI (tOp rDivI (tCall (sp_l_cell_at K A) [] E0 (tCons (tVar 0) (tCons (tC (.int 2)) (tNil)))) (tC (.int 52))) (tC (.int 2))) (tC (.int 2))) (tC (.int 1))) (tOp rPowI (tC (.int 10)) (tC (.int 6))))) (gName 8)) (tNext))
 (t_law_s13 K A E)
@[irreducible] def t_law_s11 (K : PySem.W.Frag) (A : Ad) (E : XK) : TS :=
 tSeq (tAsg (tOp rSub (tOp rModI (tCall (sp_l_cell_at K A) [] E0 (tCons (tVar 0) (tCons (tC (.int 2)) (tNil)))) (tC (.int 13))) (tC (.int 3))) (gName 8))
 (t_law_s12 K A E)
@[irreducible] def t_law_s10 (K : PySem.W.Frag) (A : Ad) (E : XK) : TS :=
 tSeq (tIfS (tNot (tB (tVar 6))) (tRet (tC (.bl false))) (tNext))
 (t_law_s11 K A E)
@[irreducible] def t_law_s9 (K : PySem.W.Frag) (A : Ad) (E : XK) : TS :=
 tSeq (tIfS (tTest (tOp rIsN (tVar 7) (tC .non))) (tRet (tAndV (tNotV (tVar 6)) (tCall (sp_l_any_refusal K A) [] E0 (tCons (tVar 4) (tNil))))) (tNext))
 (t_law_s10 K A E)
@[irreducible] def t_law_s8 (K : PySem.W.Frag) (A : Ad) (E : XK) : TS :=
 tSeq (tAsg (tCall (sp_l_made K A) [] E0 (tCons (tLc (iList K (tVar 4)) (gName 11) (tYes) (tCB (rListS K) (tCons (tVar 11) (tNil))) [11]) (tNil))) (gName 7))
 (t_law_s9 K A E)
@[irreducible] def t_law_s7 (K : PySem.W.Frag) (A : Ad) (E : XK) : TS :=
 tSeq (tAsg (tOrV (tOp rEq (tVar 1) (tC (.int 0))) (tAndV (tOp rEq (tVar 1) (tC (.int 1))) (tOp rEq (tVar 3) (tC (.int 5))))) (gName 6))
 (t_law_s8 K A E)
@[irreducible] def t_law_s6 (K : PySem.W.Frag) (A : Ad) (E : XK) : TS :=
 tSeq (tIfS (tTest (tOp rEq (tVar 1) (tC (.int 2)))) (tAsg (tOp rSub (tUn rNeg (tC (.int 1))) (tOp rModI (tOp rDivI (tCall (sp_l_cell_at K A) [] E0 (tCons (tVar 0) (tCons (tC (.int 1)) (tNil)))) (tC (.int 10))) (tOp rPowI (tC (.int 10)) (tC (.int 12))))) (gSub (tOp (rIxL K) (tVar 4) (tVar 2)) (tOp rModI (tVar 3) (tC (.int 5))) rSetL)) (tNext))
 (t_law_s7 K A E)
@[irreducible] def t_law_s5 (K : PySem.W.Frag) (A : Ad) (E : XK) : TS :=
 tSeq (tIfS (tTest (tOp rEq (tVar 1) (tC (.int 1)))) (tAsg (tSl (rSlL K) (tOp rCat (tOp (rIxL K) (tVar 4) (tVar 2)) (tOp (rIxL K) (tVar 4) (tVar 2))) (tNoPart) (tPart (tVar 3))) (gSub (tVar 4) (tVar 2) rSetL)) (tNext))
 (t_law_s6 K A E)
@[irreducible] def t_law_s4 (K : PySem.W.Frag) (A : Ad) (E : XK) : TS :=
 tSeq (tFor (iRng1 (tCons (tC (.int 3)) (tNil))) (gName 5) (tDrop (tBM K "list" rAppend (tVar 4) (tCons (tLc (iRng1 (tCons (tC (.int 5)) (tNil))) (gName 10) (tYes) (tOp rModI (tCall (sp_l_cell_at K A) [] E0 (tCons (tVar 0) (tCons (tOp rAdd (tOp rAdd (tC (.int 3)) (tOp rMulI (tC (.int 5)) (tVar 5))) (tVar 10)) (tNil)))) (tC (.int 1000))) [10]) (tNil)))))
 (t_law_s5 K A E)
@[irreducible] def t_law_s3 (K : PySem.W.Frag) (A : Ad) (E : XK) : TS :=
 tSeq (tAsg (tLst (tNil)) (gName 4))
 (t_law_s4 K A E)
@[irreducible] def t_law_s2 (K : PySem.W.Frag) (A : Ad) (E : XK) : TS :=
 tSeq (tAsg (tOp rModI (tCall (sp_l_cell_at K A) [] E0 (tCons (tVar 0) (tCons (tC (.int 1)) (tNil)))) (tC (.int 10))) (gName 3))
 (t_law_s3 K A E)
@[irreducible] def t_law_s1 (K : PySem.W.Frag) (A : Ad) (E : XK) : TS :=
 tSeq (tAsg (tOp rModI (tOp rDivI (tCall (sp_l_cell_at K A) [] E0 (tCons (tVar 0) (tCons (tC (.int 0)) (tNil)))) (tC (.int 3))) (tC (.int 3))) (gName 2))
 (t_law_s2 K A E)
def N_law : List Str := ["_law_script", "_law_way", "_law_which", "_law_place", "_law_rows", "_law_sort", "_law_good", "_law_tariff", "_law_zones", "_law_due", "_law_k", "_law_row"]
def t_law (K : PySem.W.Frag) (A : Ad) (E : XK) : TS :=
 tSeq (tAsg (tOp rModI (tCall (sp_l_cell_at K A) [] E0 (tCons (tVar 0) (tCons (tC (.int 0)) (tNil)))) (tC (.int 3))) (gName 1))
 (t_law_s1 K A E)
end FW

namespace FW
open PySem PySem.Spec PyProof.Rows L2
section
variable {K : PySem.W.Frag} {A : Ad} {C a : Addr} {vs : List V} {H : Hp} {Q : VK} {E : XK}
theorem rd_kind_0 (X : IsX K A C true false false false false false) (q : ∀ H', Same H H' → Q (.int 0) H') : t_l_kind K A C a E { nx := fun _ H' => Q .non H', rt := Q } (start N_l_kind [.ref a]) H := by
  have x1 := X.l
  have x2 := X.s
  have x3 := X.n
  have x4 := X.p
  have x5 := X.z
  have x6 := X.d
  have x7 := X.v
  unfold t_l_kind
  walk_at "rd"
  intro u hu
  have s1 : Same H (upd H u (.lst [.bl true, .bl false, .bl false, .bl false])) := Same.new hu
  have u1 : upd H u (.lst [.bl true, .bl false, .bl false, .bl false]) u = some (.lst [.bl true, .bl false, .bl false, .bl false]) := upd_same
  generalize upd H u (.lst [.bl true, .bl false, .bl false, .bl false]) = H1 at *
  walk_at "rd"
  intro v hv
  have s2 : Same H1 (upd H1 v (.lst [.bl false, .bl false])) := Same.new hv
  have v1 : upd H1 v (.lst [.bl false, .bl false]) v = some (.lst [.bl false, .bl false]) := upd_same
  generalize upd H1 v (.lst [.bl false, .bl false]) = H2 at *
  have u2 := s2 _ _ u1
  walk_at "rd"
  intro y hy
  have s3 : Same H2 (upd H2 y (.lst ([.bl true, .bl false, .bl false, .bl false] ++ [.bl false, .bl false]))) := Same.new hy
  have y1 : upd H2 y (.lst ([.bl true, .bl false, .bl false, .bl false] ++ [.bl false, .bl false])) y = some (.lst [.bl true, .bl false, .bl false, .bl false, .bl false, .bl false]) := upd_same
  generalize upd H2 y (.lst ([.bl true, .bl false, .bl false, .bl false] ++ [.bl false, .bl false])) = H3 at *
  walk_at "rd"
  refine ⟨(rfl : ([V.bl true, V.bl false, V.bl false, V.bl false, V.bl false, V.bl false] : List V)[(0 : Nat)]? = some (V.bl true)), rfl, fun m z' hm hz' => ?_, ?_⟩
  · exact absurd hm (Nat.not_lt_zero _)
  exact q _ ((s1.trans s2).trans s3)
theorem rd_kind_1 (X : IsX K A C false true false false false false) (q : ∀ H', Same H H' → Q (.int 1) H') : t_l_kind K A C a E { nx := fun _ H' => Q .non H', rt := Q } (start N_l_kind [.ref a]) H := by
  have x1 := X.l
  have x2 := X.s
  have x3 := X.n
  have x4 := X.p
  have x5 := X.z
  have x6 := X.d
  have x7 := X.v
  unfold t_l_kind
  walk_at "rd"
  intro u hu
  have s1 : Same H (upd H u (.lst [.bl false, .bl true, .bl false, .bl false])) := Same.new hu
  have u1 : upd H u (.lst [.bl false, .bl true, .bl false, .bl false]) u = some (.lst [.bl false, .bl true, .bl false, .bl false]) := upd_same
  generalize upd H u (.lst [.bl false, .bl true, .bl false, .bl false]) = H1 at *
  walk_at "rd"
  intro v hv
  have s2 : Same H1 (upd H1 v (.lst [.bl false, .bl false])) := Same.new hv
  have v1 : upd H1 v (.lst [.bl false, .bl false]) v = some (.lst [.bl false, .bl false]) := upd_same
  generalize upd H1 v (.lst [.bl false, .bl false]) = H2 at *
  have u2 := s2 _ _ u1
  walk_at "rd"
  intro y hy
  have s3 : Same H2 (upd H2 y (.lst ([.bl false, .bl true, .bl false, .bl false] ++ [.bl false, .bl false]))) := Same.new hy
  have y1 : upd H2 y (.lst ([.bl false, .bl true, .bl false, .bl false] ++ [.bl false, .bl false])) y = some (.lst [.bl false, .bl true, .bl false, .bl false, .bl false, .bl false]) := upd_same
  generalize upd H2 y (.lst ([.bl false, .bl true, .bl false, .bl false] ++ [.bl false, .bl false])) = H3 at *
  walk_at "rd"
  refine ⟨(rfl : ([V.bl false, V.bl true, V.bl false, V.bl false, V.bl false, V.bl false] : List V)[(1 : Nat)]? = some (V.bl true)), rfl, fun m z' hm hz' => ?_, ?_⟩
  · match m, hm, hz' with
    | 0, _, hz' => cases hz'; rfl
  exact q _ ((s1.trans s2).trans s3)
theorem rd_kind_2 (X : IsX K A C false false true false false false) (q : ∀ H', Same H H' → Q (.int 2) H') : t_l_kind K A C a E { nx := fun _ H' => Q .non H', rt := Q } (start N_l_kind [.ref a]) H := by
  have x1 := X.l
  have x2 := X.s
  have x3 := X.n
  have x4 := X.p
  have x5 := X.z
  have x6 := X.d
  have x7 := X.v
  unfold t_l_kind
  walk_at "rd"
  intro u hu
  have s1 : Same H (upd H u (.lst [.bl false, .bl false, .bl true, .bl false])) := Same.new hu
  have u1 : upd H u (.lst [.bl false, .bl false, .bl true, .bl false]) u = some (.lst [.bl false, .bl false, .bl true, .bl false]) := upd_same
  generalize upd H u (.lst [.bl false, .bl false, .bl true, .bl false]) = H1 at *
  walk_at "rd"
  intro v hv
  have s2 : Same H1 (upd H1 v (.lst [.bl false, .bl false])) := Same.new hv
  have v1 : upd H1 v (.lst [.bl false, .bl false]) v = some (.lst [.bl false, .bl false]) := upd_same
  generalize upd H1 v (.lst [.bl false, .bl false]) = H2 at *
  have u2 := s2 _ _ u1
  walk_at "rd"
  intro y hy
  have s3 : Same H2 (upd H2 y (.lst ([.bl false, .bl false, .bl true, .bl false] ++ [.bl false, .bl false]))) := Same.new hy
  have y1 : upd H2 y (.lst ([.bl false, .bl false, .bl true, .bl false] ++ [.bl false, .bl false])) y = some (.lst [.bl false, .bl false, .bl true, .bl false, .bl false, .bl false]) := upd_same
  generalize upd H2 y (.lst ([.bl false, .bl false, .bl true, .bl false] ++ [.bl false, .bl false])) = H3 at *
  walk_at "rd"
  refine ⟨(rfl : ([V.bl false, V.bl false, V.bl true, V.bl false, V.bl false, V.bl false] : List V)[(2 : Nat)]? = some (V.bl true)), rfl, fun m z' hm hz' => ?_, ?_⟩
  · match m, hm, hz' with
    | 0, _, hz' => cases hz'; rfl
    | 1, _, hz' => cases hz'; rfl
  exact q _ ((s1.trans s2).trans s3)
theorem rd_kind_3 (X : IsX K A C false false false true false false) (q : ∀ H', Same H H' → Q (.int 3) H') : t_l_kind K A C a E { nx := fun _ H' => Q .non H', rt := Q } (start N_l_kind [.ref a]) H := by
  have x1 := X.l
  have x2 := X.s
  have x3 := X.n
  have x4 := X.p
  have x5 := X.z
  have x6 := X.d
  have x7 := X.v
  unfold t_l_kind
  walk_at "rd"
  intro u hu
  have s1 : Same H (upd H u (.lst [.bl false, .bl false, .bl false, .bl true])) := Same.new hu
  have u1 : upd H u (.lst [.bl false, .bl false, .bl false, .bl true]) u = some (.lst [.bl false, .bl false, .bl false, .bl true]) := upd_same
  generalize upd H u (.lst [.bl false, .bl false, .bl false, .bl true]) = H1 at *
  walk_at "rd"
  intro v hv
  have s2 : Same H1 (upd H1 v (.lst [.bl false, .bl false])) := Same.new hv
  have v1 : upd H1 v (.lst [.bl false, .bl false]) v = some (.lst [.bl false, .bl false]) := upd_same
  generalize upd H1 v (.lst [.bl false, .bl false]) = H2 at *
  have u2 := s2 _ _ u1
  walk_at "rd"
  intro y hy
  have s3 : Same H2 (upd H2 y (.lst ([.bl false, .bl false, .bl false, .bl true] ++ [.bl false, .bl false]))) := Same.new hy
  have y1 : upd H2 y (.lst ([.bl false, .bl false, .bl false, .bl true] ++ [.bl false, .bl false])) y = some (.lst [.bl false, .bl false, .bl false, .bl true, .bl false, .bl false]) := upd_same
  generalize upd H2 y (.lst ([.bl false, .bl false, .bl false, .bl true] ++ [.bl false, .bl false])) = H3 at *
  walk_at "rd"
  refine ⟨(rfl : ([V.bl false, V.bl false, V.bl false, V.bl true, V.bl false, V.bl false] : List V)[(3 : Nat)]? = some (V.bl true)), rfl, fun m z' hm hz' => ?_, ?_⟩
  · match m, hm, hz' with
    | 0, _, hz' => cases hz'; rfl
    | 1, _, hz' => cases hz'; rfl
    | 2, _, hz' => cases hz'; rfl
  exact q _ ((s1.trans s2).trans s3)
theorem rd_kind_4 (X : IsX K A C false false false false true false) (q : ∀ H', Same H H' → Q (.int 4) H') : t_l_kind K A C a E { nx := fun _ H' => Q .non H', rt := Q } (start N_l_kind [.ref a]) H := by
  have x1 := X.l
  have x2 := X.s
  have x3 := X.n
  have x4 := X.p
  have x5 := X.z
  have x6 := X.d
  have x7 := X.v
  unfold t_l_kind
  walk_at "rd"
  intro u hu
  have s1 : Same H (upd H u (.lst [.bl false, .bl false, .bl false, .bl false])) := Same.new hu
  have u1 : upd H u (.lst [.bl false, .bl false, .bl false, .bl false]) u = some (.lst [.bl false, .bl false, .bl false, .bl false]) := upd_same
  generalize upd H u (.lst [.bl false, .bl false, .bl false, .bl false]) = H1 at *
  walk_at "rd"
  intro v hv
  have s2 : Same H1 (upd H1 v (.lst [.bl true, .bl false])) := Same.new hv
  have v1 : upd H1 v (.lst [.bl true, .bl false]) v = some (.lst [.bl true, .bl false]) := upd_same
  generalize upd H1 v (.lst [.bl true, .bl false]) = H2 at *
  have u2 := s2 _ _ u1
  walk_at "rd"
  intro y hy
  have s3 : Same H2 (upd H2 y (.lst ([.bl false, .bl false, .bl false, .bl false] ++ [.bl true, .bl false]))) := Same.new hy
  have y1 : upd H2 y (.lst ([.bl false, .bl false, .bl false, .bl false] ++ [.bl true, .bl false])) y = some (.lst [.bl false, .bl false, .bl false, .bl false, .bl true, .bl false]) := upd_same
  generalize upd H2 y (.lst ([.bl false, .bl false, .bl false, .bl false] ++ [.bl true, .bl false])) = H3 at *
  walk_at "rd"
  refine ⟨(rfl : ([V.bl false, V.bl false, V.bl false, V.bl false, V.bl true, V.bl false] : List V)[(4 : Nat)]? = some (V.bl true)), rfl, fun m z' hm hz' => ?_, ?_⟩
  · match m, hm, hz' with
    | 0, _, hz' => cases hz'; rfl
    | 1, _, hz' => cases hz'; rfl
    | 2, _, hz' => cases hz'; rfl
    | 3, _, hz' => cases hz'; rfl
  exact q _ ((s1.trans s2).trans s3)
theorem rd_kind_5 (X : IsX K A C false false false false false true) (q : ∀ H', Same H H' → Q (.int 5) H') : t_l_kind K A C a E { nx := fun _ H' => Q .non H', rt := Q } (start N_l_kind [.ref a]) H := by
  have x1 := X.l
  have x2 := X.s
  have x3 := X.n
  have x4 := X.p
  have x5 := X.z
  have x6 := X.d
  have x7 := X.v
  unfold t_l_kind
  walk_at "rd"
  intro u hu
  have s1 : Same H (upd H u (.lst [.bl false, .bl false, .bl false, .bl false])) := Same.new hu
  have u1 : upd H u (.lst [.bl false, .bl false, .bl false, .bl false]) u = some (.lst [.bl false, .bl false, .bl false, .bl false]) := upd_same
  generalize upd H u (.lst [.bl false, .bl false, .bl false, .bl false]) = H1 at *
  walk_at "rd"
  intro v hv
  have s2 : Same H1 (upd H1 v (.lst [.bl false, .bl true])) := Same.new hv
  have v1 : upd H1 v (.lst [.bl false, .bl true]) v = some (.lst [.bl false, .bl true]) := upd_same
  generalize upd H1 v (.lst [.bl false, .bl true]) = H2 at *
  have u2 := s2 _ _ u1
  walk_at "rd"
  intro y hy
  have s3 : Same H2 (upd H2 y (.lst ([.bl false, .bl false, .bl false, .bl false] ++ [.bl false, .bl true]))) := Same.new hy
  have y1 : upd H2 y (.lst ([.bl false, .bl false, .bl false, .bl false] ++ [.bl false, .bl true])) y = some (.lst [.bl false, .bl false, .bl false, .bl false, .bl false, .bl true]) := upd_same
  generalize upd H2 y (.lst ([.bl false, .bl false, .bl false, .bl false] ++ [.bl false, .bl true])) = H3 at *
  walk_at "rd"
  refine ⟨(rfl : ([V.bl false, V.bl false, V.bl false, V.bl false, V.bl false, V.bl true] : List V)[(5 : Nat)]? = some (V.bl true)), rfl, fun m z' hm hz' => ?_, ?_⟩
  · match m, hm, hz' with
    | 0, _, hz' => cases hz'; rfl
    | 1, _, hz' => cases hz'; rfl
    | 2, _, hz' => cases hz'; rfl
    | 3, _, hz' => cases hz'; rfl
    | 4, _, hz' => cases hz'; rfl
  exact q _ ((s1.trans s2).trans s3)
theorem rd_l_kind (h : sp_l_kind K A C a vs H Q E) : t_l_kind K A C a E { nx := fun _ H' => Q .non H', rt := Q } (start N_l_kind vs) H := by
  obtain ⟨j, rfl, hj, X, q⟩ := h
  match j, hj, X, q with
  | 0, _, X, q => exact rd_kind_0 X q
  | 1, _, X, q => exact rd_kind_1 X q
  | 2, _, X, q => exact rd_kind_2 X q
  | 3, _, X, q => exact rd_kind_3 X q
  | 4, _, X, q => exact rd_kind_4 X q
  | 5, _, X, q => exact rd_kind_5 X q
end
end FW

namespace FW
open PySem PySem.Spec PyProof.Rows L2
section
variable {K : PySem.W.Frag} {A : Ad} {vs : List V} {H : Hp} {Q : VK} {E : XK}
theorem rd_l_made (O : OkT K A) (x1 : PySem.W.exmOne K (.ref A.c_BadPrices) (.ref A.c_BadPrices) = some true) (h : sp_l_made K A vs H Q E) : t_l_made K A E { nx := fun _ H' => Q .non H', rt := Q } (start N_l_made vs) H := by
  obtain ⟨R, ps, S, D, W, rfl, l, k1, k2⟩ := h
  obtain ⟨p0, g0, f0⟩ := l.get (i := 0) (by decide) rfl
  obtain ⟨p1, g1, f1⟩ := l.get (i := 1) (by decide) rfl
  obtain ⟨p2, g2, f2⟩ := l.get (i := 2) (by decide) rfl
  have lq := l.sq
  unfold t_l_made
  walk_at "rd"
  intro T dx nT nd nex
  have sN : Same H (upd (upd H dx (.own T)) T (.ins A.c_Tariff dx [])) := (Same.new nd).mut nT
  refine ⟨T, dx, p0, p1, p2, S, D, W, rfl, upd_same, SqL.of (sN _ _ f0), SqL.of (sN _ _ f1), SqL.of (sN _ _ f2), fun good a' b' c' H' t _ _ _ _ _ _ kp => ?_, fun bad H' s => ?_⟩
  · exact ⟨rfl, k1 good T H' (fun x o e => kp x o (sN x o e) (ne_of_none e nT)) ⟨_, _, _, t⟩⟩
  · exact ⟨true, x1, fun _ a ha => k2 bad H' (sN.trans s), fun z => nomatch z⟩
theorem rd_l_asked (O : OkT K A) (h : sp_l_asked K A vs H Q E) : t_l_asked K A E { nx := fun _ H' => Q .non H', rt := Q } (start N_l_asked vs) H := by
  obtain ⟨T, S, D, W, i, z, rfl, ta, k1, k2⟩ := h
  obtain ⟨a', b', c', tt⟩ := id ta
  obtain ⟨dx, hT⟩ := tt.ob
  have cl := O.cl
  have no1 : (tarF a' b' c').lookup ("single" : Str) = none := tarF_no _ _ _ (by decide +kernel) (by decide +kernel) (by decide +kernel)
  have no2 : (tarF a' b' c').lookup ("day" : Str) = none := tarF_no _ _ _ (by decide +kernel) (by decide +kernel) (by decide +kernel)
  have no3 : (tarF a' b' c').lookup ("week" : Str) = none := tarF_no _ _ _ (by decide +kernel) (by decide +kernel) (by decide +kernel)
  unfold t_l_asked
  walk_at "rd"
  refine ite_d (fun _ => ?_) (fun _ => ?_)
  · walk_at "rd"
    exact ⟨fun c H' s => k1 c _ H' s, fun c => k2 c H (Same.refl _)⟩
  walk_at "rd"
  refine ite_d (fun _ => ?_) (fun _ => ?_)
  · walk_at "rd"
    exact ⟨fun c H' s => k1 c _ H' s, fun c => k2 c H (Same.refl _)⟩
  walk_at "rd"
  exact ⟨fun c H' s => k1 c _ H' s, fun c => k2 c H (Same.refl _)⟩
theorem rd_l_any_refusal (O : OkT K A) (X : IsX K A A.c_BadPrices false false false true false false) (h : sp_l_any_refusal K A vs H Q E) : t_l_any_refusal K A E { nx := fun _ H' => Q .non H', rt := Q } (start N_l_any_refusal vs) H := by
  obtain ⟨R, ps, S, D, W, rfl, l, bad, q⟩ := h
  obtain ⟨p0, g0, f0⟩ := l.get (i := 0) (by decide) rfl
  obtain ⟨p1, g1, f1⟩ := l.get (i := 1) (by decide) rfl
  obtain ⟨p2, g2, f2⟩ := l.get (i := 2) (by decide) rfl
  have lq := l.sq
  unfold t_l_any_refusal
  refine ⟨_, rfl, R, _, _, _, rfl, rfl, lq, g0, _, rfl, R, _, _, _, rfl, rfl, lq, g1, _, rfl, R, _, _, _, rfl, rfl, lq, g2, fun T dx nT nd nex => ?_⟩
  have sN : Same H (upd (upd H dx (.own T)) T (.ins A.c_Tariff dx [])) := (Same.new nd).mut nT
  refine ⟨T, dx, p0, p1, p2, S, D, W, rfl, upd_same, SqL.of (sN _ _ f0), SqL.of (sN _ _ f1), SqL.of (sN _ _ f2), fun good => absurd good bad, fun _ H' s => ?_⟩
  refine was X.x X.c fun a ha => ?_
  refine ⟨_, rfl, 3, rfl, by decide, X, fun H1 s1 => ?_⟩
  walk_at "rd"
  exact q H1 ((sN.trans s).trans s1)
theorem rd_l_zones_refused (x1 : PySem.W.exmOne K (.ref A.c_BadZones) (.ref A.c_BadZones) = some true) (h : sp_l_zones_refused K A vs H Q E) : t_l_zones_refused K A E { nx := fun _ H' => Q .non H', rt := Q } (start N_l_zones_refused vs) H := by
  obtain ⟨T, S, D, W, i, z, rfl, ta, q⟩ := h
  unfold t_l_zones_refused
  refine ⟨_, rfl, _, rfl, _, rfl, T, S, D, W, i, z, rfl, ta, fun c v H' s => ?_, fun c H' s => ⟨true, x1, fun _ a ha => ?_, fun z => nomatch z⟩⟩
  · have := q H' s
    rw [decide_eq_false (fun n => n c)] at this
    exact this
  · have := q H' s
    rw [decide_eq_true c] at this
    exact this
theorem rd_l_zones_refused_by_any (X : IsX K A A.c_BadZones false false false false true false) (h : sp_l_zones_refused_by_any K A vs H Q E) : t_l_zones_refused_by_any K A E { nx := fun _ H' => Q .non H', rt := Q } (start N_l_zones_refused_by_any vs) H := by
  obtain ⟨T, S, D, W, i, z, rfl, ta, bad, q⟩ := h
  unfold t_l_zones_refused_by_any
  refine ⟨_, rfl, _, rfl, _, rfl, T, S, D, W, i, z, rfl, ta, fun c => absurd c bad, fun c H' s => was X.x X.c fun a ha => ?_⟩
  refine ⟨_, rfl, 4, rfl, by decide, X, fun H1 s1 => ?_⟩
  walk_at "rd"
  exact q H1 (s.trans s1)
end
end FW

namespace FW
open PySem PySem.Spec PyProof.Rows L2
section
variable {K : PySem.W.Frag} {A : Ad} {vs : List V} {H : Hp} {Q : VK} {E : XK}
theorem rd_l_cell_at (h : sp_l_cell_at K A vs H Q E) : t_l_cell_at K A E { nx := fun _ H' => Q .non H', rt := Q } (start N_l_cell_at vs) H := by
  obtain ⟨a, ns, k, rfl, hS, h0, q⟩ := h
  unfold t_l_cell_at
  walk_at "rd"
  rw [List.length_map]
  refine ite_d (fun c => ?_) (fun c => ?_)
  · have e : atI (ns.map V.int) k = some (.int (cell ns k)) := atI_map h0 c
    walk_at "rd"
    exact q
  · have e : cell ns k = 0 := by
      unfold cell
      rw [List.getD_eq_getElem?_getD, List.getElem?_eq_none (by omega)]
      rfl
    rw [e] at q
    exact q
end
end FW

namespace FW
open PySem PySem.Spec PyProof.Rows L2
theorem cut_take (xs : List V) (k : Nat) : cutV xs none (some (k : Int)) = xs.take k := by
  unfold cutV
  rw [HT.sIx_nat, HT.sIx_none, List.drop_zero, Nat.sub_zero]
  by_cases c : k ≤ xs.length
  · rw [Nat.min_eq_left c]
  · rw [Nat.min_eq_right (by omega), List.take_length, List.take_of_length_le (by omega)]
def Good (days : List (List Int)) : Prop := ∀ r ∈ days, Row5 r
theorem good_set {days : List (List Int)} {j : Nat} {r : List Int} (h : Good days) (hj : j < days.length) : Good (days.set j r) ↔ Row5 r := by
  constructor
  · intro g
    exact g r (List.mem_set hj r)
  · intro g x hx
    rcases List.mem_or_eq_of_mem_set hx with m | m
    · exact h x m
    · rw [m]; exact g
/-- a row is put in another's place -/
theorem NewLL.swapRow {K : PySem.W.Frag} {H H' : Hp} {l q : Addr} {ps : List Addr} {days : List (List Int)} {j : Nat} {r : List Int} (n : NewLL H H' l ps days) (hq : H' q = some (.lst (r.map V.int))) (nq : q ≠ l) :
    LLAt K (upd H' l (.lst ((ps.map V.ref).set j (.ref q)))) l (ps.set j q) (days.set j r) where
  sq := by
    refine SqL.of (upd_same.trans ?_)
    rw [List.map_set]
  len := by rw [List.length_set, List.length_set]; exact n.len
  at_ := fun i p x h1 h2 => by
    rw [List.getElem?_set] at h1 h2
    by_cases e : j = i
    · rw [if_pos e] at h1 h2
      by_cases c : j < ps.length
      · rw [if_pos c] at h1
        rw [if_pos (by rw [← n.len]; exact c)] at h2
        cases h1
        cases h2
        rw [upd_ne nq]
        exact hq
      · rw [if_neg c] at h1
        cases h1
    · rw [if_neg e] at h1 h2
      have np : p ≠ l := fun z => n.ln (by rw [← z]; exact List.mem_of_getElem? h1)
      rw [upd_ne np]
      exact n.at_ i p x h1 h2
theorem three {days : List (List Int)} (h : days.length = 3) : ∃ a b c, days = [a, b, c] := by
  match days, h with
  | [a, b, c], _ => exact ⟨a, b, c, rfl⟩
section
variable {K : PySem.W.Frag} {A : Ad} {vs : List V} {H : Hp} {Q : VK} {E : XK}
theorem rd_law14 {T : Addr} {a R : V} {S D W : List Int} {z : Int} {Dn : Ends} {o1 o2 o3 o5 o6 : Option V} (ta : Tar A H T S D W) (q : ∀ H', Dn.rt (.bl true) H') :
    t_law_s14 K A E Dn [some a, o1, o2, o3, some R, o5, o6, some (.ref T), some (.int z), some (.bl (decide (¬ In5 z))), none, none] H := by
  unfold t_law_s14
  walk_at "rd"
  refine for_range (lo := 0) (fun i σ H' => Hold (∃ (o5 : Option V), σ = [some a, o1, o2, o3, some R, o5, o6, some (.ref T), some (.int z), some (.bl (decide (¬ In5 z))), none, none] ∧ Tar A H' T S D W)) ⟨o5, rfl, ta⟩ ?_ ?_
  · rintro i σ H' hi ⟨o5, rfl, ta⟩
    unfold t_law_b1
    walk_at "rd"
    intro H1 s1
    have ta1 := ta.same s1
    walk_at "rd"
    show t_law_b1_s1 K A E _ [some a, o1, o2, o3, some R, some (.int (0 + (i : Int))), o6, some (.ref T), some (.int z), some (.bl (decide (¬ In5 z))), none, none] H1
    unfold t_law_b1_s1
    by_cases c : In5 z
    · rw [decide_eq_false (fun n => n c)]
      walk_at "rd"
      exact ⟨_, rfl, ta1⟩
    · rw [decide_eq_true c]
      walk_at "rd"
      intro H2 s2
      walk_at "rd"
      exact ⟨_, rfl, ta1.same s2⟩
  · rintro σ H' ⟨o5, rfl, ta⟩
    unfold t_law_s15
    exact q H'
theorem rd_law11 {T a : Addr} {R : V} {ns : List Int} {S D W : List Int} {Dn : Ends} {o1 o2 o3 o5 o6 : Option V} (hS : SqL K H a (ns.map V.int)) (ta : Tar A H T S D W) (q : ∀ H', Dn.rt (.bl true) H') :
    t_law_s11 K A E Dn [some (.ref a), o1, o2, o3, some R, o5, o6, some (.ref T), none, none, none, none] H := by
  have fin : ∀ z : Int, t_law_s13 K A E Dn [some (.ref a), o1, o2, o3, some R, o5, o6, some (.ref T), some (.int z), none, none, none] H := by
    intro z
    unfold t_law_s13
    have nx : ∀ b : Bool, b = decide (¬ In5 z) → t_law_s14 K A E Dn [some (.ref a), o1, o2, o3, some R, o5, o6, some (.ref T), some (.int z), some (.bl b), none, none] H := by
      intro b e
      rw [e]
      exact rd_law14 ta q
    walk_at "rd"
    refine ite_d (fun c => ?_) (fun c => ?_)
    · refine nx _ ?_
      have c : z < 1 := c
      exact (decide_eq_true (p := ¬ In5 z) (fun n => by have := n.1; omega)).symm
    · walk_at "rd"
      refine nx _ ?_
      have c : ¬ z < 1 := c
      by_cases c2 : 5 < z
      · rw [decide_eq_true c2]
        exact (decide_eq_true (p := ¬ In5 z) (fun n => by have := n.2; omega)).symm
      · rw [decide_eq_false c2]
        exact (decide_eq_false (p := ¬ In5 z) (fun n => n ⟨by omega, by omega⟩)).symm
  unfold t_law_s11
  walk_at "rd"
  show t_law_s12 K A E Dn [some (.ref a), o1, o2, o3, some R, o5, o6, some (.ref T), some (.int (cell ns 2 % 13 - 3)), none, none, none] H
  unfold t_law_s12
  have y0 : 0 ≤ cell ns 2 / 52 % 2 := Int.emod_nonneg _ (by decide)
  have y1 : cell ns 2 / 52 % 2 < 2 := Int.emod_lt_of_pos _ (by decide)
  walk_at "rd"
  refine ite_d (fun _ => ?_) (fun _ => ?_)
  · walk_at "rd"
    exact fin _
  · exact fin _
theorem rd_law7 (O : OkT K A) {a R : Addr} {ns : List Int} {ps : List Addr} {days : List (List Int)} {way place : Int} {Dn : Ends} {o2 o5 : Option V} (hS : SqL K H a (ns.map V.int)) (l : LLAt K H R ps days) (h3 : days.length = 3) (hl : ∀ r ∈ days, r.length ≤ 100) (hg : Good days ↔ (way = 0 ∨ (way = 1 ∧ place = 5)))
    (q : ∀ H', Dn.rt (.bl true) H') : t_law_s7 K A E Dn [some (.ref a), some (.int way), o2, some (.int place), some (.ref R), o5, none, none, none, none, none, none] H := by
  have fin : ∀ b : Bool, (b = true ↔ Good days) → t_law_s8 K A E Dn [some (.ref a), some (.int way), o2, some (.int place), some (.ref R), o5, some (.bl b), none, none, none, none, none] H := by
    intro b hb
    unfold t_law_s8
    have lq := l.sq
    have hpl := l.len
    walk_at "rd"
    intro X hX
    refine lc_listN (a := R) hX lq (by rw [List.length_map]; omega) (fun j => .lst ((days.getD j []).map V.int)) ?_ ?_
    · intro i x H4 hx s6 G N hG
      rw [List.getElem?_map] at hx
      obtain ⟨p, hp, rfl⟩ := Option.map_eq_some_iff.mp hx
      obtain ⟨r, hr⟩ := get_some (l := days) (i := i) (by rw [← hpl]; exact (List.getElem?_eq_some_iff.mp hp).1)
      have rp := s6 _ _ (l.at_ _ _ _ hp hr)
      have rl := hl r (List.mem_of_getElem? hr)
      walk_at "rd"
      intro y hy
      refine hG _ _ hy (Same.new hy) ?_
      rw [upd_same, List.getD_eq_getElem?_getD, hr]
      rfl
    · intro H4 qs hqs N
      rw [List.length_map, hpl] at hqs
      have n4 := NewLL.of_news (days := days) N hX hqs fun i r hr => by
        show HO.lst ((days.getD i []).map V.int) = _
        rw [List.getD_eq_getElem?_getD, hr]
        rfl
      have s4 := n4.same
      have l4 := l.same s4
      obtain ⟨A1, A2, A3, e3⟩ := three h3
      have l4' : LLAt K H4 X qs [A1, A2, A3] := by rw [← e3]; exact n4.ll
      have l4R : LLAt K H4 R ps [A1, A2, A3] := by rw [← e3]; exact l4
      have gd : Good days ↔ (Row5 A1 ∧ Row5 A2 ∧ Row5 A3) := by
        rw [e3]
        unfold Good
        simp only [List.mem_cons, List.not_mem_nil, or_false, forall_eq_or_imp, forall_eq]
      refine ⟨X, qs, A1, A2, A3, rfl, l4', fun good T H5 s5 ta => ?_, fun bad H5 s5 => ?_⟩
      · have eb : b = true := hb.mpr (gd.mpr good)
        subst eb
        show t_law_s9 K A E Dn [some (.ref a), some (.int way), o2, some (.int place), some (.ref R), o5, some (.bl true), some (.ref T), none, none, none, none] H5
        unfold t_law_s9
        walk_at "rd"
        show t_law_s10 K A E Dn [some (.ref a), some (.int way), o2, some (.int place), some (.ref R), o5, some (.bl true), some (.ref T), none, none, none, none] H5
        unfold t_law_s10
        walk_at "rd"
        exact rd_law11 ((s4.trans s5).seq hS) ta q
      · have eb : b = false := by
          cases b with
          | false => rfl
          | true => exact absurd (gd.mp (hb.mp rfl)) bad
        subst eb
        show t_law_s9 K A E Dn [some (.ref a), some (.int way), o2, some (.int place), some (.ref R), o5, some (.bl false), some .non, none, none, none, none] H5
        unfold t_law_s9
        have l5R := l4R.same s5
        walk_at "rd"
        exact fun H' _ => q H'
  unfold t_law_s7
  walk_at "rd"
  refine ite_d (fun c => ?_) (fun c => ?_)
  · exact fin _ ⟨fun _ => hg.mpr (.inl (V.int.inj c)), fun _ => rfl⟩
  have c0 : ¬ way = 0 := fun z => c (congrArg V.int z)
  walk_at "rd"
  refine ite_d (fun c1 => ?_) (fun c1 => ?_)
  · have c1' : way = 1 := V.int.inj c1
    walk_at "rd"
    refine fin _ ⟨fun e => hg.mpr (.inr ⟨c1', V.int.inj (of_decide_eq_true e)⟩), fun g => decide_eq_true ?_⟩
    rcases hg.mp g with z | ⟨_, z⟩
    · exact absurd z c0
    · exact congrArg V.int z
  · have c1' : ¬ way = 1 := fun z => c1 (congrArg V.int z)
    refine fin false ⟨fun e => ?_, fun g => ?_⟩
    · cases e
    · rcases hg.mp g with z | ⟨z, _⟩
      · exact absurd z c0
      · exact absurd z c1'
theorem rd_law (O : OkT K A) (h : sp_law K A vs H Q E) : t_law K A E { nx := fun _ H' => Q .non H', rt := Q } (start N_law vs) H := by
  obtain ⟨a, ns, rfl, hS, hl, q⟩ := h
  unfold t_law
  walk_at "rd"
  show t_law_s1 K A E _ [some (.ref a), some (.int (cell ns 0 % 3)), none, none, none, none, none, none, none, none, none, none] H
  unfold t_law_s1
  have v0 : 0 ≤ cell ns 0 % 3 := Int.emod_nonneg _ (by decide)
  have v1 : cell ns 0 % 3 < 3 := Int.emod_lt_of_pos _ (by decide)
  have w0 : 0 ≤ cell ns 0 / 3 % 3 := Int.emod_nonneg _ (by decide)
  have w1 : cell ns 0 / 3 % 3 < 3 := Int.emod_lt_of_pos _ (by decide)
  have p0 : 0 ≤ cell ns 1 % 10 := Int.emod_nonneg _ (by decide)
  have p1 : cell ns 1 % 10 < 10 := Int.emod_lt_of_pos _ (by decide)
  walk_at "rd"
  show t_law_s2 K A E _ [some (.ref a), some (.int (cell ns 0 % 3)), some (.int (cell ns 0 / 3 % 3)), none, none, none, none, none, none, none, none, none] H
  unfold t_law_s2
  walk_at "rd"
  show t_law_s3 K A E _ [some (.ref a), some (.int (cell ns 0 % 3)), some (.int (cell ns 0 / 3 % 3)), some (.int (cell ns 1 % 10)), none, none, none, none, none, none, none, none] H
  generalize cell ns 0 % 3 = way at *
  generalize cell ns 0 / 3 % 3 = which at *
  generalize cell ns 1 % 10 = place at *
  unfold t_law_s3
  walk_at "rd"
  intro R hR
  have nR := NewLL.nil hR
  show t_law_s4 K A E _ [some (.ref a), some (.int way), some (.int which), some (.int place), some (.ref R), none, none, none, none, none, none, none] _
  unfold t_law_s4
  walk_at "rd"
  refine for_range (lo := 0) (fun i σ H' => Hold (∃ (o : Option V) (ps : List Addr), σ = [some (.ref a), some (.int way), some (.int which), some (.int place), some (.ref R), o, none, none, none, none, none, none] ∧ NewLL H H' R ps ((List.range i).map (rowOf ns 1000 3)))) ⟨none, [], rfl, nR⟩ ?_ ?_
  · rintro i σ H' hi ⟨o, ps, rfl, N⟩
    have s1 := N.same
    have r1 := N.lst
    have hpl := N.len
    rw [List.length_map, List.length_range] at hpl
    have hi3 : i < 3 := hi
    walk_at "rd"
    intro D1 hD1
    refine lc_rangeF hD1 (by decide) (fun k => some (V.int (cell ns (3 + 5 * (0 + (i : Int)) + (0 + (k : Int))) % 1000))) ?_ ?_
    · intro k H2 hk s2 G N2 hG hN
      walk_at "rd"
      exact hG _ _ rfl (Same.refl _)
    · intro H2 s2 e2
      have s2' := s2.trans (del_sub _ _)
      have e3 : H2 D1 = some (.lst ((rowOf ns 1000 3 i).map V.int)) := by
        rw [e2]
        unfold rowOf
        rw [List.map_map]
        simp only [Int.zero_add]
        rw [fm_some]
        rfl
      walk_at "rd"
      refine ⟨_, ps ++ [D1], rfl, ?_⟩
      rw [List.range_succ, List.map_append]
      exact N.snoc hD1 s2' e3
  · rintro σ H' ⟨o, ps, rfl, N⟩
    have s1 := N.same
    have hS1 := s1.seq hS
    have g0 : Good ((List.range (3 : Int).toNat).map (rowOf ns 1000 3)) := fun r hr => by
      obtain ⟨k, _, rfl⟩ := List.mem_map.mp hr
      exact rowOf_ok (by decide)
    have h3 : ((List.range (3 : Int).toNat).map (rowOf ns 1000 3)).length = 3 := rfl
    generalize (List.range (3 : Int).toNat).map (rowOf ns 1000 3) = days at *
    have hpl := N.len
    have dl : ∀ r ∈ days, r.length ≤ 100 := fun r hr => by have := (g0 r hr).1; omega
    obtain ⟨row, hrow⟩ := get_some (l := days) (i := which.toNat) (by omega)
    obtain ⟨p, hp⟩ := get_some (l := ps) (i := which.toNat) (by omega)
    have a1 := at_refi w0 hp
    have rp := N.at_ _ _ _ hp hrow
    have r5 := (g0 _ (List.mem_of_getElem? hrow))
    have r5l := r5.1
    have rl := N.lst
    unfold t_law_s5
    walk_at "rd"
    refine ite_d (fun c => ?_) (fun c => ?_)
    · have c' : way = 1 := V.int.inj c
      walk_at "rd"
      intro u hu
      have s2 : Same H' (upd H' u (.lst (row.map V.int ++ row.map V.int))) := Same.new hu
      have u2 : upd H' u (.lst (row.map V.int ++ row.map V.int)) u = some (.lst ((row ++ row).map V.int)) := by rw [upd_same, List.map_append]
      generalize upd H' u (.lst (row.map V.int ++ row.map V.int)) = H2 at *
      walk_at "rd"
      intro v hv
      have ep : place = ((place.toNat : Nat) : Int) := by omega
      have ecut : cutV ((row ++ row).map V.int) none (some place) = ((row ++ row).take place.toNat).map V.int := by rw [ep, cut_take, Int.toNat_natCast, List.map_take]
      rw [ecut]
      have s3 : Same H2 (upd H2 v (.lst (((row ++ row).take place.toNat).map V.int))) := Same.new hv
      have v3 : upd H2 v (.lst (((row ++ row).take place.toNat).map V.int)) v = some (.lst (((row ++ row).take place.toNat).map V.int)) := upd_same
      generalize upd H2 v (.lst (((row ++ row).take place.toNat).map V.int)) = H3 at *
      have s13 := s2.trans s3
      have N3 := N.ext s13
      have rl3 := N3.lst
      have eI : ixN (ps.map V.ref).length which = some which.toNat := by
        rw [List.length_map, hpl, h3]
        unfold ixN
        rw [if_pos w0, if_pos (by omega)]
      have nv : v ≠ R := fun z => by rw [← z] at rl; rw [(s2 _ _ rl)] at hv; cases hv
      walk_at "rd"
      have lk := N3.swapRow (K := K) (j := which.toNat) v3 nv
      have hS3 := (N3.same.mut hR : Same H (upd H3 R (.lst ((ps.map V.ref).set which.toNat (.ref v))))).seq hS
      have len10 : ((row ++ row).take place.toNat).length = place.toNat := by rw [List.length_take, List.length_append]; omega
      have gs := good_set (r := (row ++ row).take place.toNat) g0 (j := which.toNat) (by omega)
      have gk : Good (days.set which.toNat ((row ++ row).take place.toNat)) ↔ (way = 0 ∨ (way = 1 ∧ place = 5)) := by
        rw [gs]
        constructor
        · intro g
          have := g.1
          exact .inr ⟨c', by omega⟩
        · rintro (z | ⟨_, z⟩)
          · omega
          · refine ⟨by rw [len10, z]; rfl, fun x hx => ?_⟩
            have m := List.mem_of_mem_take hx
            rcases List.mem_append.mp m with m | m <;> exact r5.2 x m
      have h3' : (days.set which.toNat ((row ++ row).take place.toNat)).length = 3 := by rw [List.length_set]; exact h3
      have dl' : ∀ r ∈ days.set which.toNat ((row ++ row).take place.toNat), r.length ≤ 100 := fun r hr => by
        rcases List.mem_or_eq_of_mem_set hr with m | m
        · exact dl r m
        · rw [m, len10]; omega
      show t_law_s6 K A E _ [some (.ref a), some (.int way), some (.int which), some (.int place), some (.ref R), o, none, none, none, none, none, none] (upd H3 R (.lst ((ps.map V.ref).set which.toNat (.ref v))))
      unfold t_law_s6
      have c2 : ¬ (V.int way = V.int 2) := fun z => by have := V.int.inj z; omega
      walk_at "rd"
      exact rd_law7 O hS3 lk h3' dl' gk q
    · have c' : ¬ way = 1 := fun z => c (congrArg V.int z)
      show t_law_s6 K A E _ [some (.ref a), some (.int way), some (.int which), some (.int place), some (.ref R), o, none, none, none, none, none, none] H'
      unfold t_law_s6
      walk_at "rd"
      refine ite_d (fun c2 => ?_) (fun c2 => ?_)
      · have c2' : way = 2 := V.int.inj c2
        have q0 : 0 ≤ place % 5 := Int.emod_nonneg _ (by decide)
        have q1 : place % 5 < 5 := Int.emod_lt_of_pos _ (by decide)
        have eI : ixN (row.map V.int).length (place % 5) = some (place % 5).toNat := by
          rw [List.length_map, r5l]
          unfold ixN
          rw [if_pos q0, if_pos (by omega)]
        have x0 : 0 ≤ cell ns 1 / 10 % (10 ^ (12 : Int).toNat) := Int.emod_nonneg _ (by decide)
        walk_at "rd"
        generalize cell ns 1 / 10 % (10 ^ (12 : Int).toNat) = x at *
        have N2 := N.put (r' := row.set (place % 5).toNat (-1 - x)) hp hrow
        rw [List.map_set] at N2
        have lk := N2.ll (K := K)
        have gs := good_set (r := row.set (place % 5).toNat (-1 - x)) g0 (j := which.toNat) (by omega)
        refine rd_law7 O (N2.same.seq hS) lk (by rw [List.length_set]; exact h3) (fun r hr => ?_) ?_ q
        · rcases List.mem_or_eq_of_mem_set hr with m | m
          · exact dl r m
          · rw [m, List.length_set]; omega
        · rw [gs]
          constructor
          · intro g
            have := g.2 (-1 - x) (List.mem_set (by omega) _)
            omega
          · rintro (z | ⟨z, _⟩) <;> omega
      · have c2' : ¬ way = 2 := fun z => c2 (congrArg V.int z)
        exact rd_law7 O hS1 (N.ll (K := K)) h3 dl ⟨fun _ => .inl (by omega), fun _ => g0⟩ q
end
end FW

namespace FW
open PySem PySem.Spec PyProof.Rows L2
theorem units65 {k : Nat} {A : Around} (r : Room k A) : A.units + 65 < cLine := by
  have h := r.un
  omega
def topS (i : Nat) : Stmt := PySem.Challenge.pw_fareweb_k02_prices_refused.main.body.getD i (.Pass ⟨0, 0, 0, 0⟩)
abbrev s_need_zones : Stmt := topS 10
abbrev s_cheapest : Stmt := topS 11
abbrev s_Tariff_init : Stmt := inClass (topS 12) 0
abbrev s_Tariff_single : Stmt := inClass (topS 12) 1
abbrev s_Tariff_day : Stmt := inClass (topS 12) 2
abbrev s_Tariff_week : Stmt := inClass (topS 12) 3
abbrev s_l_cell_at : Stmt := topS 14
abbrev s_l_kind : Stmt := topS 15
abbrev s_l_made : Stmt := topS 16
abbrev s_l_any_refusal : Stmt := topS 17
abbrev s_l_asked : Stmt := topS 18
abbrev s_l_zones_refused : Stmt := topS 19
abbrev s_l_zones_refused_by_any : Stmt := topS 20
abbrev s_law : Stmt := topS 21
theorem sc_need_zones : FnScope N_need_zones ["zones"] (defScope s_need_zones) := ⟨rfl, rfl, rfl, by decide +kernel, rfl, by decide +kernel, by decide +kernel⟩
theorem sc_cheapest : FnScope N_cheapest ["row", "zones"] (defScope s_cheapest) := ⟨rfl, rfl, rfl, by decide +kernel, rfl, by decide +kernel, by decide +kernel⟩
theorem sc_Tariff_init : FnScope N_Tariff_init ["self", "singles", "days", "weeks"] (defScope s_Tariff_init) := ⟨rfl, rfl, rfl, by decide +kernel, rfl, by decide +kernel, by decide +kernel⟩
theorem sc_Tariff_single : FnScope N_Tariff_single ["self", "zones"] (defScope s_Tariff_single) := ⟨rfl, rfl, rfl, by decide +kernel, rfl, by decide +kernel, by decide +kernel⟩
theorem sc_Tariff_day : FnScope N_Tariff_day ["self", "zones"] (defScope s_Tariff_day) := ⟨rfl, rfl, rfl, by decide +kernel, rfl, by decide +kernel, by decide +kernel⟩
theorem sc_Tariff_week : FnScope N_Tariff_week ["self", "zones"] (defScope s_Tariff_week) := ⟨rfl, rfl, rfl, by decide +kernel, rfl, by decide +kernel, by decide +kernel⟩
theorem sc_l_cell_at : FnScope N_l_cell_at ["_law_script", "_law_k"] (defScope s_l_cell_at) := ⟨rfl, rfl, rfl, by decide +kernel, rfl, by decide +kernel, by decide +kernel⟩
theorem sc_l_kind : FnScope N_l_kind ["_law_e"] (defScope s_l_kind) := ⟨rfl, rfl, rfl, by decide +kernel, rfl, by decide +kernel, by decide +kernel⟩
theorem sc_l_made : FnScope N_l_made ["_law_rows"] (defScope s_l_made) := ⟨rfl, rfl, rfl, by decide +kernel, rfl, by decide +kernel, by decide +kernel⟩
theorem sc_l_any_refusal : FnScope N_l_any_refusal ["_law_rows"] (defScope s_l_any_refusal) := ⟨rfl, rfl, rfl, by decide +kernel, rfl, by decide +kernel, by decide +kernel⟩
theorem sc_l_asked : FnScope N_l_asked ["_law_tariff", "_law_sort", "_law_zones"] (defScope s_l_asked) := ⟨rfl, rfl, rfl, by decide +kernel, rfl, by decide +kernel, by decide +kernel⟩
theorem sc_l_zones_refused : FnScope N_l_zones_refused ["_law_tariff", "_law_sort", "_law_zones"] (defScope s_l_zones_refused) := ⟨rfl, rfl, rfl, by decide +kernel, rfl, by decide +kernel, by decide +kernel⟩
theorem sc_l_zones_refused_by_any : FnScope N_l_zones_refused_by_any ["_law_tariff", "_law_sort", "_law_zones"] (defScope s_l_zones_refused_by_any) := ⟨rfl, rfl, rfl, by decide +kernel, rfl, by decide +kernel, by decide +kernel⟩
theorem sc_law : FnScope N_law ["_law_script"] (defScope s_law) := ⟨rfl, rfl, rfl, by decide +kernel, rfl, by decide +kernel, by decide +kernel⟩
structure Txt (K : PySem.W.Frag) (mg : Str → Option Value) (A : Ad) where
  a_need_zones : Addr
  d_need_zones : FuncData
  F_need_zones : Fun K "need_zones" "need_zones" s_need_zones a_need_zones d_need_zones
  b_need_zones : Binds K d_need_zones ["zones"] []
  g_need_zones : mg "need_zones" = some (.ref a_need_zones)
  k_need_zones : PySem.W.keepIn K (.ref a_need_zones) = true
  a_cheapest : Addr
  d_cheapest : FuncData
  F_cheapest : Fun K "cheapest" "cheapest" s_cheapest a_cheapest d_cheapest
  b_cheapest : Binds K d_cheapest ["row", "zones"] []
  g_cheapest : mg "cheapest" = some (.ref a_cheapest)
  k_cheapest : PySem.W.keepIn K (.ref a_cheapest) = true
  a_Tariff_init : Addr
  d_Tariff_init : FuncData
  F_Tariff_init : Fun K "__init__" "Tariff.__init__" s_Tariff_init a_Tariff_init d_Tariff_init
  b_Tariff_init : Binds K d_Tariff_init ["self", "singles", "days", "weeks"] []
  M_Tariff : Mk K A.c_Tariff a_Tariff_init
  a_Tariff_single : Addr
  d_Tariff_single : FuncData
  F_Tariff_single : Fun K "single" "Tariff.single" s_Tariff_single a_Tariff_single d_Tariff_single
  b_Tariff_single : Binds K d_Tariff_single ["self", "zones"] []
  h_Tariff_single : Meth K A.c_Tariff "single" a_Tariff_single
  a_Tariff_day : Addr
  d_Tariff_day : FuncData
  F_Tariff_day : Fun K "day" "Tariff.day" s_Tariff_day a_Tariff_day d_Tariff_day
  b_Tariff_day : Binds K d_Tariff_day ["self", "zones"] []
  h_Tariff_day : Meth K A.c_Tariff "day" a_Tariff_day
  a_Tariff_week : Addr
  d_Tariff_week : FuncData
  F_Tariff_week : Fun K "week" "Tariff.week" s_Tariff_week a_Tariff_week d_Tariff_week
  b_Tariff_week : Binds K d_Tariff_week ["self", "zones"] []
  h_Tariff_week : Meth K A.c_Tariff "week" a_Tariff_week
  a_l_cell_at : Addr
  d_l_cell_at : FuncData
  F_l_cell_at : Fun K "_law_cell_at" "_law_cell_at" s_l_cell_at a_l_cell_at d_l_cell_at
  b_l_cell_at : Binds K d_l_cell_at ["_law_script", "_law_k"] []
  g_l_cell_at : mg "_law_cell_at" = some (.ref a_l_cell_at)
  k_l_cell_at : PySem.W.keepIn K (.ref a_l_cell_at) = true
  a_l_kind : Addr
  d_l_kind : FuncData
  F_l_kind : Fun K "_law_kind" "_law_kind" s_l_kind a_l_kind d_l_kind
  b_l_kind : Binds K d_l_kind ["_law_e"] []
  g_l_kind : mg "_law_kind" = some (.ref a_l_kind)
  k_l_kind : PySem.W.keepIn K (.ref a_l_kind) = true
  a_l_made : Addr
  d_l_made : FuncData
  F_l_made : Fun K "_law_made" "_law_made" s_l_made a_l_made d_l_made
  b_l_made : Binds K d_l_made ["_law_rows"] []
  g_l_made : mg "_law_made" = some (.ref a_l_made)
  k_l_made : PySem.W.keepIn K (.ref a_l_made) = true
  a_l_any_refusal : Addr
  d_l_any_refusal : FuncData
  F_l_any_refusal : Fun K "_law_any_refusal" "_law_any_refusal" s_l_any_refusal a_l_any_refusal d_l_any_refusal
  b_l_any_refusal : Binds K d_l_any_refusal ["_law_rows"] []
  g_l_any_refusal : mg "_law_any_refusal" = some (.ref a_l_any_refusal)
  k_l_any_refusal : PySem.W.keepIn K (.ref a_l_any_refusal) = true
  a_l_asked : Addr
  d_l_asked : FuncData
  F_l_asked : Fun K "_law_asked" "_law_asked" s_l_asked a_l_asked d_l_asked
  b_l_asked : Binds K d_l_asked ["_law_tariff", "_law_sort", "_law_zones"] []
  g_l_asked : mg "_law_asked" = some (.ref a_l_asked)
  k_l_asked : PySem.W.keepIn K (.ref a_l_asked) = true
  a_l_zones_refused : Addr
  d_l_zones_refused : FuncData
  F_l_zones_refused : Fun K "_law_zones_refused" "_law_zones_refused" s_l_zones_refused a_l_zones_refused d_l_zones_refused
  b_l_zones_refused : Binds K d_l_zones_refused ["_law_tariff", "_law_sort", "_law_zones"] []
  g_l_zones_refused : mg "_law_zones_refused" = some (.ref a_l_zones_refused)
  k_l_zones_refused : PySem.W.keepIn K (.ref a_l_zones_refused) = true
  a_l_zones_refused_by_any : Addr
  d_l_zones_refused_by_any : FuncData
  F_l_zones_refused_by_any : Fun K "_law_zones_refused_by_any" "_law_zones_refused_by_any" s_l_zones_refused_by_any a_l_zones_refused_by_any d_l_zones_refused_by_any
  b_l_zones_refused_by_any : Binds K d_l_zones_refused_by_any ["_law_tariff", "_law_sort", "_law_zones"] []
  g_l_zones_refused_by_any : mg "_law_zones_refused_by_any" = some (.ref a_l_zones_refused_by_any)
  k_l_zones_refused_by_any : PySem.W.keepIn K (.ref a_l_zones_refused_by_any) = true
  a_law : Addr
  d_law : FuncData
  F_law : Fun K "law" "law" s_law a_law d_law
  b_law : Binds K d_law ["_law_script"] []
  g_law : mg "law" = some (.ref a_law)
  k_law : PySem.W.keepIn K (.ref a_law) = true
  L_Tariff : Cls K A.c_Tariff
  g_Tariff : mg "Tariff" = some (.ref A.c_Tariff)
  n_Tariff_days : NoAttr K A.c_Tariff "days"
  n_Tariff_singles : NoAttr K A.c_Tariff "singles"
  n_Tariff_weeks : NoAttr K A.c_Tariff "weeks"
  z_ValueError : mg "ValueError" = none
  z_isinstance : mg "isinstance" = none
  z_len : mg "len" = none
  z_list : mg "list" = none
  z_min : mg "min" = none
  z_range : mg "range" = none
  c_MOST_ZONES : ∃ t, mg "MOST_ZONES" = some (.int 5 t)
  g_FareError : mg "FareError" = some (.ref A.c_FareError)
  x_FareError : PySem.W.excIn K A.c_FareError [.type "ValueError", .type "Exception", .type "BaseException", .type "object"] "ValueError.__new__" = true
  k_FareError : PySem.W.keepIn K (.ref A.c_FareError) = true
  y_FareError : PySem.W.subIn K (.ref A.c_FareError) (.type "BaseException") = some true
  t_FareError : PySem.W.typeIn K (.ref A.c_FareError) = some (.type "type")
  g_BadLink : mg "BadLink" = some (.ref A.c_BadLink)
  x_BadLink : PySem.W.excIn K A.c_BadLink [.type "ValueError", .type "Exception", .type "BaseException", .type "object"] "ValueError.__new__" = true
  k_BadLink : PySem.W.keepIn K (.ref A.c_BadLink) = true
  y_BadLink : PySem.W.subIn K (.ref A.c_BadLink) (.type "BaseException") = some true
  t_BadLink : PySem.W.typeIn K (.ref A.c_BadLink) = some (.type "type")
  g_BadStop : mg "BadStop" = some (.ref A.c_BadStop)
  x_BadStop : PySem.W.excIn K A.c_BadStop [.type "ValueError", .type "Exception", .type "BaseException", .type "object"] "ValueError.__new__" = true
  k_BadStop : PySem.W.keepIn K (.ref A.c_BadStop) = true
  y_BadStop : PySem.W.subIn K (.ref A.c_BadStop) (.type "BaseException") = some true
  t_BadStop : PySem.W.typeIn K (.ref A.c_BadStop) = some (.type "type")
  g_NoWay : mg "NoWay" = some (.ref A.c_NoWay)
  x_NoWay : PySem.W.excIn K A.c_NoWay [.type "ValueError", .type "Exception", .type "BaseException", .type "object"] "ValueError.__new__" = true
  k_NoWay : PySem.W.keepIn K (.ref A.c_NoWay) = true
  y_NoWay : PySem.W.subIn K (.ref A.c_NoWay) (.type "BaseException") = some true
  t_NoWay : PySem.W.typeIn K (.ref A.c_NoWay) = some (.type "type")
  g_BadPrices : mg "BadPrices" = some (.ref A.c_BadPrices)
  x_BadPrices : PySem.W.excIn K A.c_BadPrices [.type "ValueError", .type "Exception", .type "BaseException", .type "object"] "ValueError.__new__" = true
  k_BadPrices : PySem.W.keepIn K (.ref A.c_BadPrices) = true
  y_BadPrices : PySem.W.subIn K (.ref A.c_BadPrices) (.type "BaseException") = some true
  t_BadPrices : PySem.W.typeIn K (.ref A.c_BadPrices) = some (.type "type")
  g_BadZones : mg "BadZones" = some (.ref A.c_BadZones)
  x_BadZones : PySem.W.excIn K A.c_BadZones [.type "ValueError", .type "Exception", .type "BaseException", .type "object"] "ValueError.__new__" = true
  k_BadZones : PySem.W.keepIn K (.ref A.c_BadZones) = true
  y_BadZones : PySem.W.subIn K (.ref A.c_BadZones) (.type "BaseException") = some true
  t_BadZones : PySem.W.typeIn K (.ref A.c_BadZones) = some (.type "type")
  g_PastDay : mg "PastDay" = some (.ref A.c_PastDay)
  x_PastDay : PySem.W.excIn K A.c_PastDay [.type "ValueError", .type "Exception", .type "BaseException", .type "object"] "ValueError.__new__" = true
  k_PastDay : PySem.W.keepIn K (.ref A.c_PastDay) = true
  y_PastDay : PySem.W.subIn K (.ref A.c_PastDay) (.type "BaseException") = some true
  t_PastDay : PySem.W.typeIn K (.ref A.c_PastDay) = some (.type "type")
  e1_BadPrices : PySem.W.exmOne K (.ref A.c_BadPrices) (.ref A.c_BadPrices) = some true
  e1_BadZones : PySem.W.exmOne K (.ref A.c_BadZones) (.ref A.c_BadZones) = some true
  I_BadPrices : IsX K A A.c_BadPrices false false false true false false
  I_BadZones : IsX K A A.c_BadZones false false false false true false
theorem Txt.okT {K : PySem.W.Frag} {mg : Str → Option Value} {A : Ad} (T : Txt K mg A) : OkT K A := ⟨T.L_Tariff, T.n_Tariff_singles, T.n_Tariff_days, T.n_Tariff_weeks⟩
section
variable {P : Program} {w : World} {K : PySem.W.Frag} {mg : Str → Option Value} {base : Heap} {A : Ad}
theorem ok_need_zones (T : Txt K mg A) : FnOk P w K mg base (L2.CX P w) 1 T.a_need_zones T.d_need_zones ["zones"] (sp_need_zones K A) := by
  refine T.F_need_zones.okX sc_need_zones (by unfold sp_need_zones; walk_at "len") (fun cdv B outer s H vs Q E hr h => ⟨t_need_zones K A E, ?_, rd_need_zones h⟩)
  exact pss_one (ps_if (PW.pt (pw_or (pt_cmpR op_lt (pv 0) (pe_int) (nomark _)) (pw_or1 (pt_cmpR op_gt (pv 0) (pe_gc rfl (glob_int T.c_MOST_ZONES)) (nomark _))))) (pss_one (ps_raise rfl (takes_of rfl rfl rfl rfl) (pmk_own PySem.F.excBase_ValueError T.x_BadZones T.g_BadZones T.k_BadZones (raises_own T.y_BadZones T.t_BadZones) (by exact rfl)))) (pss_nil))
theorem ok_cheapest (T : Txt K mg A) : FnOk P w K mg base (L2.CX P w) 2 T.a_cheapest T.d_cheapest ["row", "zones"] (sp_cheapest K A) := by
  refine T.F_cheapest.okX sc_cheapest (by unfold sp_cheapest; walk_at "len") (fun cdv B outer s H vs Q E hr h => ⟨t_cheapest K A E, ?_, rd_cheapest h⟩)
  exact pss_cons (ps_expr (pe_call (ok_need_zones T) (hr.mono (by decide)) (by rfl) T.g_need_zones T.k_need_zones T.b_need_zones .nil (passes_call (takes_of rfl rfl rfl rfl) (fun _ _ _ _ h => h)) (pa_cons (pv 1) (pa_nil))))  (pss_cons (ps_set (i := 2) sc_cheapest.nd rfl (by first | exact Or.inl rfl | exact Or.inr rfl) (pv 1))  (pss_cons (ps_for (passes_of rfl) rfl (pi_range2 (by rfl) T.z_range (pa_cons (pv 1) (pa_cons (pe_op op_add (pe_gc rfl (glob_int T.c_MOST_ZONES)) (pe_int)) (pa_nil)))) (pg_name (i := 3) sc_cheapest.nd rfl (by first | exact Or.inl rfl | exact Or.inr rfl)) (pss_one (ps_if (pt_cmpR op_lt (pe_ix ix_list (pv 0) (pe_op op_sub (pv 3) (pe_int)) (fun _ _ => rfl)) (pe_ix ix_list (pv 0) (pe_op op_sub (pv 2) (pe_int)) (fun _ _ => rfl)) (nomark _)) (pss_one (ps_set (i := 2) sc_cheapest.nd rfl (by first | exact Or.inl rfl | exact Or.inr rfl) (pv 3))) (pss_nil))))  (pss_one (ps_ret (pe_tup (pa_cons (pv 2) (pa_cons (pe_ix ix_list (pv 0) (pe_op op_sub (pv 2) (pe_int)) (fun _ _ => rfl)) (pa_nil))))))))
theorem ok_Tariff_init (T : Txt K mg A) : FnOk P w K mg base (L2.CX P w) 1 T.a_Tariff_init T.d_Tariff_init ["self", "singles", "days", "weeks"] (sp_Tariff_init K A) := by
  refine T.F_Tariff_init.okX sc_Tariff_init (by unfold sp_Tariff_init; walk_at "len") (fun cdv B outer s H vs Q E hr h => ⟨t_Tariff_init K A E, ?_, rd_Tariff_init T.okT h⟩)
  exact pss_cons (ps_for (passes_of rfl) rfl (pi_list (pe_lst (pa_cons (pv 1) (pa_cons (pv 2) (pa_cons (pv 3) (pa_nil)))))) (pg_name (i := 4) sc_Tariff_init.nd rfl (by first | exact Or.inl rfl | exact Or.inr rfl)) (pss_one (ps_if (PW.pt (pw_or (pt_cmpR op_ne (pe_callB call_len_seq (by rfl) T.z_len (by decide +kernel) (pa_cons (pv 4) (pa_nil))) (pe_gc rfl (glob_int T.c_MOST_ZONES)) (nomark _)) (pw_or1 (pt_cmpR op_lt (pe_callB (cr_min rfl) (by rfl) T.z_min (by decide +kernel) (pa_cons (pv 4) (pa_nil))) (pe_int) (nomark _))))) (pss_one (ps_raise rfl (takes_of rfl rfl rfl rfl) (pmk_own PySem.F.excBase_ValueError T.x_BadPrices T.g_BadPrices T.k_BadPrices (raises_own T.y_BadPrices T.t_BadPrices) (by exact rfl)))) (pss_nil))))  (pss_cons (ps_fld (pv 0) (pe_callTy call_list_of (by rfl) T.z_list (by decide +kernel) (pa_cons (pv 1) (pa_nil))) rfl)  (pss_cons (ps_fld (pv 0) (pe_callTy call_list_of (by rfl) T.z_list (by decide +kernel) (pa_cons (pv 2) (pa_nil))) rfl)  (pss_one (ps_fld (pv 0) (pe_callTy call_list_of (by rfl) T.z_list (by decide +kernel) (pa_cons (pv 3) (pa_nil))) rfl))))
theorem ok_Tariff_single (T : Txt K mg A) : FnOk P w K mg base (L2.CX P w) 3 T.a_Tariff_single T.d_Tariff_single ["self", "zones"] (sp_Tariff_single K A) := by
  refine T.F_Tariff_single.okX sc_Tariff_single (by unfold sp_Tariff_single; walk_at "len") (fun cdv B outer s H vs Q E hr h => ⟨t_Tariff_single K A E, ?_, rd_Tariff_single T.okT h⟩)
  exact pss_one (ps_ret (pe_ix ix_tup (pe_call (ok_cheapest T) (hr.mono (by decide)) (by rfl) T.g_cheapest T.k_cheapest T.b_cheapest .nil (passes_call (takes_of rfl rfl rfl rfl) (fun _ _ _ _ h => h)) (pa_cons (pe_fld (pv 0) rfl) (pa_cons (pv 1) (pa_nil)))) (pe_int) (fun _ _ => rfl)))
theorem ok_Tariff_day (T : Txt K mg A) : FnOk P w K mg base (L2.CX P w) 3 T.a_Tariff_day T.d_Tariff_day ["self", "zones"] (sp_Tariff_day K A) := by
  refine T.F_Tariff_day.okX sc_Tariff_day (by unfold sp_Tariff_day; walk_at "len") (fun cdv B outer s H vs Q E hr h => ⟨t_Tariff_day K A E, ?_, rd_Tariff_day T.okT h⟩)
  exact pss_one (ps_ret (pe_ix ix_tup (pe_call (ok_cheapest T) (hr.mono (by decide)) (by rfl) T.g_cheapest T.k_cheapest T.b_cheapest .nil (passes_call (takes_of rfl rfl rfl rfl) (fun _ _ _ _ h => h)) (pa_cons (pe_fld (pv 0) rfl) (pa_cons (pv 1) (pa_nil)))) (pe_int) (fun _ _ => rfl)))
theorem ok_Tariff_week (T : Txt K mg A) : FnOk P w K mg base (L2.CX P w) 3 T.a_Tariff_week T.d_Tariff_week ["self", "zones"] (sp_Tariff_week K A) := by
  refine T.F_Tariff_week.okX sc_Tariff_week (by unfold sp_Tariff_week; walk_at "len") (fun cdv B outer s H vs Q E hr h => ⟨t_Tariff_week K A E, ?_, rd_Tariff_week T.okT h⟩)
  exact pss_one (ps_ret (pe_ix ix_tup (pe_call (ok_cheapest T) (hr.mono (by decide)) (by rfl) T.g_cheapest T.k_cheapest T.b_cheapest .nil (passes_call (takes_of rfl rfl rfl rfl) (fun _ _ _ _ h => h)) (pa_cons (pe_fld (pv 0) rfl) (pa_cons (pv 1) (pa_nil)))) (pe_int) (fun _ _ => rfl)))
theorem ok_l_cell_at (T : Txt K mg A) : FnOk P w K mg base (L2.CX P w) 1 T.a_l_cell_at T.d_l_cell_at ["_law_script", "_law_k"] (sp_l_cell_at K A) := by
  refine T.F_l_cell_at.okX sc_l_cell_at (by unfold sp_l_cell_at; walk_at "len") (fun cdv B outer s H vs Q E hr h => ⟨t_l_cell_at K A E, ?_, rd_l_cell_at h⟩)
  exact pss_cons (ps_if (pt_cmpR op_lt (pv 1) (pe_callB call_len_seq (by rfl) T.z_len (by decide +kernel) (pa_cons (pv 0) (pa_nil))) (nomark _)) (pss_one (ps_ret (pe_ix ix_list (pv 0) (pv 1) (fun _ _ => rfl)))) (pss_nil))  (pss_one (ps_ret (pe_int)))
theorem ok_l_kind (T : Txt K mg A) : FnE P w K mg base (L2.CX P w) 1 T.a_l_kind T.d_l_kind ["_law_e"] (sp_l_kind K A) := by
  refine fn_okE T.F_l_kind sc_l_kind (by unfold sp_l_kind; intro C a; walk_at "len") (fun cdv B ov s H vs Q E C pe cc zc fl h => ⟨t_l_kind K A C pe.1 E, ?_, rd_l_kind h⟩)
  have mem : pe ∈ [pe] := List.mem_singleton_self _
  exact pss_cons (ps_set (i := 1) sc_l_kind.nd rfl (by first | exact Or.inl rfl | exact Or.inr rfl) (pe_lst (pa_cons (pe_callB (call_isH2 mem cc zc fl) (by rfl) T.z_isinstance (by decide +kernel) (pa_cons (pv 0) (pa_cons (pe_glob (v := .ref A.c_BadLink) rfl T.g_BadLink rfl) (pa_nil)))) (pa_cons (pe_callB (call_isH2 mem cc zc fl) (by rfl) T.z_isinstance (by decide +kernel) (pa_cons (pv 0) (pa_cons (pe_glob (v := .ref A.c_BadStop) rfl T.g_BadStop rfl) (pa_nil)))) (pa_cons (pe_callB (call_isH2 mem cc zc fl) (by rfl) T.z_isinstance (by decide +kernel) (pa_cons (pv 0) (pa_cons (pe_glob (v := .ref A.c_NoWay) rfl T.g_NoWay rfl) (pa_nil)))) (pa_cons (pe_callB (call_isH2 mem cc zc fl) (by rfl) T.z_isinstance (by decide +kernel) (pa_cons (pv 0) (pa_cons (pe_glob (v := .ref A.c_BadPrices) rfl T.g_BadPrices rfl) (pa_nil)))) (pa_nil)))))))  (pss_cons (ps_set (i := 1) sc_l_kind.nd rfl (by first | exact Or.inl rfl | exact Or.inr rfl) (pe_op op_cat (pv 1) (pe_lst (pa_cons (pe_callB (call_isH2 mem cc zc fl) (by rfl) T.z_isinstance (by decide +kernel) (pa_cons (pv 0) (pa_cons (pe_glob (v := .ref A.c_BadZones) rfl T.g_BadZones rfl) (pa_nil)))) (pa_cons (pe_callB (call_isH2 mem cc zc fl) (by rfl) T.z_isinstance (by decide +kernel) (pa_cons (pv 0) (pa_cons (pe_glob (v := .ref A.c_PastDay) rfl T.g_PastDay rfl) (pa_nil)))) (pa_nil))))))  (pss_cons (ps_if (PW.pt (pw_or (pt_not (pt_val (pe_callB (call_isH2 mem cc zc fl) (by rfl) T.z_isinstance (by decide +kernel) (pa_cons (pv 0) (pa_cons (pe_bltn (v := .ty "ValueError") (by rfl) T.z_ValueError (by decide +kernel) rfl) (pa_nil)))))) (pw_or1 (pt_cmpR op_ne (pe_bm PySem.F.plainAttrs_list PySem.F.slot_list_count PySem.F.type_list_count mt_countB (pv 1) (pa_cons (pe_bl) (pa_nil))) (pe_int) (nomark _))))) (pss_one (ps_ret (pe_un un_neg (pe_int)))) (pss_nil))  (pss_one (ps_ret (pe_bm PySem.F.plainAttrs_list PySem.F.slot_list_index PySem.F.type_list_index mt_index (pv 1) (pa_cons (pe_bl) (pa_nil)))))))
theorem ok_l_made (T : Txt K mg A) : FnOk P w K mg base (L2.CX P w) 3 T.a_l_made T.d_l_made ["_law_rows"] (sp_l_made K A) := by
  refine T.F_l_made.okX sc_l_made (by unfold sp_l_made; walk_at "len") (fun cdv B outer s H vs Q E hr h => ⟨t_l_made K A E, ?_, rd_l_made T.okT T.e1_BadPrices h⟩)
  exact pss_one (ps_try_only (tb := fun W => tRet (tMakeS A.c_Tariff (sp_Tariff_init K A) (WE W) (tCons (tOp (rIxL K) (tVar 0) (tC (.int 0))) (tCons (tOp (rIxL K) (tVar 0) (tC (.int 1))) (tCons (tOp (rIxL K) (tVar 0) (tC (.int 2))) (tNil)))))) (ts := fun _ _ _ => tRet (tC .non)) (Wout := fun _ _ _ _ => False) rfl rfl ⟨rfl, by decide, Or.inl T.g_BadPrices⟩ takes0 (fun W pn xe tk _ => pss_one (ps_ret (pe_makeS T.M_Tariff (ok_Tariff_init T) (hr.mono (by decide)) (by rfl) T.g_Tariff T.b_Tariff_init (fun σ => passAt tk σ) (pa_cons (pe_ix ix_list (pv 0) (pe_int) (fun _ _ => rfl)) (pa_cons (pe_ix ix_list (pv 0) (pe_int) (fun _ _ => rfl)) (pa_cons (pe_ix ix_list (pv 0) (pe_int) (fun _ _ => rfl)) (pa_nil))))))) (fun a oe cls d pn _ _ => pss_one (ps_ret (pe_non))))
theorem ok_l_any_refusal (T : Txt K mg A) : FnOk P w K mg base (L2.CX P w) 3 T.a_l_any_refusal T.d_l_any_refusal ["_law_rows"] (sp_l_any_refusal K A) := by
  refine T.F_l_any_refusal.okX sc_l_any_refusal (by unfold sp_l_any_refusal; walk_at "len") (fun cdv B outer s H vs Q E hr h => ⟨t_l_any_refusal K A E, ?_, rd_l_any_refusal T.okT T.I_BadPrices h⟩)
  exact pss_cons (ps_try_as (i := 1) (tb := fun W => tDrop (tMakeS A.c_Tariff (sp_Tariff_init K A) (WE W) (tCons (tOp (rIxL K) (tVar 0) (tC (.int 0))) (tCons (tOp (rIxL K) (tVar 0) (tC (.int 1))) (tCons (tOp (rIxL K) (tVar 0) (tC (.int 2))) (tNil)))))) (ts := fun a cls d => tExc K cls d (fun C => tRet (tOp rEq (tCallE (sp_l_kind K A) C a (tCons (tVar 1) (tNil))) (tC (.int 3))))) (Wout := fun _ _ _ _ => False) rfl rfl sc_l_any_refusal.nd rfl rfl ⟨rfl, by decide, Or.inl T.g_FareError⟩ takes0 (fun W pn xe tk _ => pss_one (ps_expr (pe_makeS T.M_Tariff (ok_Tariff_init T) (hr.mono (by decide)) (by rfl) T.g_Tariff T.b_Tariff_init (fun σ => passAt tk σ) (pa_cons (pe_ix ix_list (pv 0) (pe_int) (fun _ _ => rfl)) (pa_cons (pe_ix ix_list (pv 0) (pe_int) (fun _ _ => rfl)) (pa_cons (pe_ix ix_list (pv 0) (pe_int) (fun _ _ => rfl)) (pa_nil))))))) (fun a oe cls d pn hz hf => pss_exc fun C e1 e2 hC => pss_one (ps_ret (pe_cmpR op_eq (pe_callE (pe := (a, oe)) (by exact List.mem_cons_self) hC (by rw [← e1, ← e2]; exact hz) hf (ok_l_kind T) (roomM (hr.mono (by decide))) (by rfl) T.g_l_kind T.k_l_kind T.b_l_kind passL (pa_cons (pv 1) (pa_nil))) (pe_int) (nomark _)))))  (pss_one (ps_ret (pe_bl)))
theorem ok_l_asked (T : Txt K mg A) : FnOk P w K mg base (L2.CX P w) 4 T.a_l_asked T.d_l_asked ["_law_tariff", "_law_sort", "_law_zones"] (sp_l_asked K A) := by
  refine T.F_l_asked.okX sc_l_asked (by unfold sp_l_asked; walk_at "len") (fun cdv B outer s H vs Q E hr h => ⟨t_l_asked K A E, ?_, rd_l_asked T.okT h⟩)
  exact pss_cons (ps_if (pt_cmpR op_eq (pv 1) (pe_int) (nomark _)) (pss_one (ps_ret (pe_meth (pv 0) T.L_Tariff T.h_Tariff_single (ok_Tariff_single T) (hr.mono (by decide)) T.b_Tariff_single .nil (passes_call (takes_of rfl rfl rfl rfl) (fun _ _ _ _ h => h)) (pa_cons (pv 2) (pa_nil))))) (pss_nil))  (pss_cons (ps_if (pt_cmpR op_eq (pv 1) (pe_int) (nomark _)) (pss_one (ps_ret (pe_meth (pv 0) T.L_Tariff T.h_Tariff_day (ok_Tariff_day T) (hr.mono (by decide)) T.b_Tariff_day .nil (passes_call (takes_of rfl rfl rfl rfl) (fun _ _ _ _ h => h)) (pa_cons (pv 2) (pa_nil))))) (pss_nil))  (pss_one (ps_ret (pe_meth (pv 0) T.L_Tariff T.h_Tariff_week (ok_Tariff_week T) (hr.mono (by decide)) T.b_Tariff_week .nil (passes_call (takes_of rfl rfl rfl rfl) (fun _ _ _ _ h => h)) (pa_cons (pv 2) (pa_nil))))))
theorem ok_l_zones_refused (T : Txt K mg A) : FnOk P w K mg base (L2.CX P w) 5 T.a_l_zones_refused T.d_l_zones_refused ["_law_tariff", "_law_sort", "_law_zones"] (sp_l_zones_refused K A) := by
  refine T.F_l_zones_refused.okX sc_l_zones_refused (by unfold sp_l_zones_refused; walk_at "len") (fun cdv B outer s H vs Q E hr h => ⟨t_l_zones_refused K A E, ?_, rd_l_zones_refused T.e1_BadZones h⟩)
  exact pss_cons (ps_try_only (tb := fun W => tDrop (tCallS (sp_l_asked K A) (WE W) (tCons (tVar 0) (tCons (tVar 1) (tCons (tVar 2) (tNil)))))) (ts := fun _ _ _ => tRet (tC (.bl true))) (Wout := fun _ _ _ _ => False) rfl rfl ⟨rfl, by decide, Or.inl T.g_BadZones⟩ takes0 (fun W pn xe tk _ => pss_one (ps_expr (pe_callS (ok_l_asked T) (hr.mono (by decide)) (by rfl) T.g_l_asked T.k_l_asked T.b_l_asked (fun σ => passAt tk σ) (pa_cons (pv 0) (pa_cons (pv 1) (pa_cons (pv 2) (pa_nil))))))) (fun a oe cls d pn _ _ => pss_one (ps_ret (pe_bl))))  (pss_one (ps_ret (pe_bl)))
theorem ok_l_zones_refused_by_any (T : Txt K mg A) : FnOk P w K mg base (L2.CX P w) 5 T.a_l_zones_refused_by_any T.d_l_zones_refused_by_any ["_law_tariff", "_law_sort", "_law_zones"] (sp_l_zones_refused_by_any K A) := by
  refine T.F_l_zones_refused_by_any.okX sc_l_zones_refused_by_any (by unfold sp_l_zones_refused_by_any; walk_at "len") (fun cdv B outer s H vs Q E hr h => ⟨t_l_zones_refused_by_any K A E, ?_, rd_l_zones_refused_by_any T.I_BadZones h⟩)
  exact pss_cons (ps_try_as (i := 3) (tb := fun W => tDrop (tCallS (sp_l_asked K A) (WE W) (tCons (tVar 0) (tCons (tVar 1) (tCons (tVar 2) (tNil)))))) (ts := fun a cls d => tExc K cls d (fun C => tRet (tOp rEq (tCallE (sp_l_kind K A) C a (tCons (tVar 3) (tNil))) (tC (.int 4))))) (Wout := fun _ _ _ _ => False) rfl rfl sc_l_zones_refused_by_any.nd rfl rfl ⟨rfl, by decide, Or.inl T.g_FareError⟩ takes0 (fun W pn xe tk _ => pss_one (ps_expr (pe_callS (ok_l_asked T) (hr.mono (by decide)) (by rfl) T.g_l_asked T.k_l_asked T.b_l_asked (fun σ => passAt tk σ) (pa_cons (pv 0) (pa_cons (pv 1) (pa_cons (pv 2) (pa_nil))))))) (fun a oe cls d pn hz hf => pss_exc fun C e1 e2 hC => pss_one (ps_ret (pe_cmpR op_eq (pe_callE (pe := (a, oe)) (by exact List.mem_cons_self) hC (by rw [← e1, ← e2]; exact hz) hf (ok_l_kind T) (roomM (hr.mono (by decide))) (by rfl) T.g_l_kind T.k_l_kind T.b_l_kind passL (pa_cons (pv 3) (pa_nil))) (pe_int) (nomark _)))))  (pss_one (ps_ret (pe_bl)))
theorem ok_law (T : Txt K mg A) : FnOk P w K mg base (L2.CX P w) 6 T.a_law T.d_law ["_law_script"] (sp_law K A) := by
  refine T.F_law.okX sc_law (by unfold sp_law; walk_at "len") (fun cdv B outer s H vs Q E hr h => ⟨t_law K A E, ?_, rd_law T.okT h⟩)
  unfold t_law t_law_s1 t_law_s2 t_law_s3 t_law_s4 t_law_s5 t_law_s6 t_law_s7 t_law_s8 t_law_s9 t_law_s10 t_law_s11 t_law_s12 t_law_s13 t_law_s14 t_law_s15 t_law_b1 t_law_b1_s1
  exact pss_cons (ps_set (i := 1) sc_law.nd rfl (by first | exact Or.inl rfl | exact Or.inr rfl) (pe_op op_mod (pe_call (ok_l_cell_at T) (hr.mono (by decide)) (by rfl) T.g_l_cell_at T.k_l_cell_at T.b_l_cell_at .nil passL (pa_cons (pv 0) (pa_cons (pe_int) (pa_nil)))) (pe_int)))  (pss_cons (ps_set (i := 2) sc_law.nd rfl (by first | exact Or.inl rfl | exact Or.inr rfl) (pe_op op_mod (pe_op op_fdiv (pe_call (ok_l_cell_at T) (hr.mono (by decide)) (by rfl) T.g_l_cell_at T.k_l_cell_at T.b_l_cell_at .nil passL (pa_cons (pv 0) (pa_cons (pe_int) (pa_nil)))) (pe_int)) (pe_int)))  (pss_cons (ps_set (i := 3) sc_law.nd rfl (by first | exact Or.inl rfl | exact Or.inr rfl) (pe_op op_mod (pe_call (ok_l_cell_at T) (hr.mono (by decide)) (by rfl) T.g_l_cell_at T.k_l_cell_at T.b_l_cell_at .nil passL (pa_cons (pv 0) (pa_cons (pe_int) (pa_nil)))) (pe_int)))  (pss_cons (ps_set (i := 4) sc_law.nd rfl (by first | exact Or.inl rfl | exact Or.inr rfl) (pe_lst pa_nil))  (pss_cons (ps_for (passes_of rfl) rfl (pi_range1 (by rfl) T.z_range (pa_cons (pe_int) (pa_nil))) (pg_name (i := 5) sc_law.nd rfl (by first | exact Or.inl rfl | exact Or.inr rfl)) (pss_one (ps_expr (pe_bm PySem.F.plainAttrs_list PySem.F.slot_list_append PySem.F.type_list_append mt_append (pv 4) (pa_cons (pe_lc (own := [("_law_k", 10)]) rfl sc_law.nd (pi_range1 (by rfl) T.z_range (pa_cons (pe_int) (pa_nil))) (blkOk_by (N := N_law) (sc := defScope s_law) (by decide +kernel)) (fun _ _ _ _ _ => pg_name (i := 10) sc_law.nd rfl (by first | exact Or.inl rfl | exact Or.inr rfl)) (fun _ _ _ _ _ => pts_nil) (fun _ _ _ _ _ => pe_op op_mod (pe_call (ok_l_cell_at T) (hr.mono (by decide)) (by rfl) T.g_l_cell_at T.k_l_cell_at T.b_l_cell_at .nil passL (pa_cons (pv 0) (pa_cons (pe_op op_add (pe_op op_add (pe_int) (pe_op op_mul (pe_int) (pv 5))) (pv 10)) (pa_nil)))) (pe_int))) (pa_nil))))))  (pss_cons (ps_if (pt_cmpR op_eq (pv 1) (pe_int) (nomark _)) (pss_one (ps_asg (pe_slice sl_list (pe_op op_cat (pe_ix ix_list (pv 4) (pv 2) (fun _ _ => rfl)) (pe_ix ix_list (pv 4) (pv 2) (fun _ _ => rfl))) (po_none) (po_some (pv 3))) (pg_sub (pv 4) (pv 2) set_list))) (pss_nil))  (pss_cons (ps_if (pt_cmpR op_eq (pv 1) (pe_int) (nomark _)) (pss_one (ps_asg (pe_op op_sub (pe_un un_neg (pe_int)) (pe_op op_mod (pe_op op_fdiv (pe_call (ok_l_cell_at T) (hr.mono (by decide)) (by rfl) T.g_l_cell_at T.k_l_cell_at T.b_l_cell_at .nil passL (pa_cons (pv 0) (pa_cons (pe_int) (pa_nil)))) (pe_int)) (pe_op op_pow (pe_int) (pe_int)))) (pg_sub (pe_ix ix_list (pv 4) (pv 2) (fun _ _ => rfl)) (pe_op op_mod (pv 3) (pe_int)) set_list))) (pss_nil))  (pss_cons (ps_set (i := 6) sc_law.nd rfl (by first | exact Or.inl rfl | exact Or.inr rfl) (pe_or (pe_cmpR op_eq (pv 1) (pe_int) (nomark _)) (pe_one (pe_and (pe_cmpR op_eq (pv 1) (pe_int) (nomark _)) (pe_one (pe_cmpR op_eq (pv 3) (pe_int) (nomark _)))))))  (pss_cons (ps_set (i := 7) sc_law.nd rfl (by first | exact Or.inl rfl | exact Or.inr rfl) (pe_call (ok_l_made T) (hr.mono (by decide)) (by rfl) T.g_l_made T.k_l_made T.b_l_made .nil passL (pa_cons (pe_lc (own := [("_law_row", 11)]) rfl sc_law.nd (pi_list (pv 4)) (blkOk_by (N := N_law) (sc := defScope s_law) (by decide +kernel)) (fun _ _ _ _ _ => pg_name (i := 11) sc_law.nd rfl (by first | exact Or.inl rfl | exact Or.inr rfl)) (fun _ _ _ _ _ => pts_nil) (fun _ _ _ _ _ => pe_callTy call_list_of (by rfl) T.z_list (by decide +kernel) (pa_cons (pv 11) (pa_nil)))) (pa_nil))))  (pss_cons (ps_if (pt_cmpR op_isN (pv 7) (pe_non) (nomark _)) (pss_one (ps_ret (pe_and (pe_not (pv 6)) (pe_one (pe_call (ok_l_any_refusal T) (hr.mono (by decide)) (by rfl) T.g_l_any_refusal T.k_l_any_refusal T.b_l_any_refusal .nil passL (pa_cons (pv 4) (pa_nil))))))) (pss_nil))  (pss_cons (ps_if (pt_not (pt_val (pv 6))) (pss_one (ps_ret (pe_bl))) (pss_nil))  (pss_cons (ps_set (i := 8) sc_law.nd rfl (by first | exact Or.inl rfl | exact Or.inr rfl) (pe_op op_sub (pe_op op_mod (pe_call (ok_l_cell_at T) (hr.mono (by decide)) (by rfl) T.g_l_cell_at T.k_l_cell_at T.b_l_cell_at .nil passL (pa_cons (pv 0) (pa_cons (pe_int) (pa_nil)))) (pe_int)) (pe_int)))  (pss_cons (ps_if (pt_cmpR op_eq (pe_op op_mod (pe_op op_fdiv (pe_call (ok_l_cell_at T) (hr.mono (by decide)) (by rfl) T.g_l_cell_at T.k_l_cell_at T.b_l_cell_at .nil passL (pa_cons (pv 0) (pa_cons (pe_int) (pa_nil)))) (pe_int)) (pe_int)) (pe_int) (nomark _)) (pss_one (ps_set (i := 8) sc_law.nd rfl (by first | exact Or.inl rfl | exact Or.inr rfl) (pe_op op_add (pv 8) (pe_op op_mul (pe_op op_sub (pe_op op_mul (pe_op op_mod (pe_op op_fdiv (pe_call (ok_l_cell_at T) (hr.mono (by decide)) (by rfl) T.g_l_cell_at T.k_l_cell_at T.b_l_cell_at .nil passL (pa_cons (pv 0) (pa_cons (pe_int) (pa_nil)))) (pe_int)) (pe_int)) (pe_int)) (pe_int)) (pe_op op_pow (pe_int) (pe_int)))))) (pss_nil))  (pss_cons (ps_set (i := 9) sc_law.nd rfl (by first | exact Or.inl rfl | exact Or.inr rfl) (pe_or (pe_cmpR op_lt (pv 8) (pe_int) (nomark _)) (pe_one (pe_cmpR op_gt (pv 8) (pe_int) (nomark _)))))  (pss_cons (ps_for (passes_of rfl) rfl (pi_range1 (by rfl) T.z_range (pa_cons (pe_int) (pa_nil))) (pg_name (i := 5) sc_law.nd rfl (by first | exact Or.inl rfl | exact Or.inr rfl)) (pss_cons (ps_if (pt_cmpR op_ne (pe_call (ok_l_zones_refused T) (hr.mono (by decide)) (by rfl) T.g_l_zones_refused T.k_l_zones_refused T.b_l_zones_refused .nil passL (pa_cons (pv 7) (pa_cons (pv 5) (pa_cons (pv 8) (pa_nil))))) (pv 9) (nomark _)) (pss_one (ps_ret (pe_bl))) (pss_nil))  (pss_one (ps_if (PW.pt (pw_and (pt_val (pv 9)) (pw_and1 (pt_not (pt_val (pe_call (ok_l_zones_refused_by_any T) (hr.mono (by decide)) (by rfl) T.g_l_zones_refused_by_any T.k_l_zones_refused_by_any T.b_l_zones_refused_by_any .nil passL (pa_cons (pv 7) (pa_cons (pv 5) (pa_cons (pv 8) (pa_nil)))))))))) (pss_one (ps_ret (pe_bl))) (pss_nil)))))  (pss_one (ps_ret (pe_bl)))))))))))))))))
end
end FW

namespace FW
open PySem PySem.Spec PyProof.Rows L2
theorem all_mk {l : PySem.W.OpenLaw} {w : World} {K : PySem.W.Frag} {h : Heap} {mg : Str → Option Value} {fa : Addr} (X : K.In h) (G : h.Ns mainGlobals mg) (hfa : mg "law" = some (.ref fa))
  {C_FareError C_BadLink C_BadStop C_NoWay C_BadPrices C_BadZones C_PastDay C_Tariff f_need_zones f_cheapest f_Tariff_init f_Tariff_single f_Tariff_day f_Tariff_week f_l_cell_at f_l_kind f_l_made f_l_any_refusal f_l_asked f_l_zones_refused f_l_zones_refused_by_any f_law : Addr} {od_need_zones an_need_zones od_cheapest an_cheapest od_Tariff_init an_Tariff_init od_Tariff_single an_Tariff_single od_Tariff_day an_Tariff_day od_Tariff_week an_Tariff_week od_l_cell_at an_l_cell_at od_l_kind an_l_kind od_l_made an_l_made od_l_any_refusal an_l_any_refusal od_l_asked an_l_asked od_l_zones_refused an_l_zones_refused od_l_zones_refused_by_any an_l_zones_refused_by_any od_law an_law : Option Addr} {sl_need_zones sl_cheapest sl_Tariff_init sl_Tariff_single sl_Tariff_day sl_Tariff_week sl_l_cell_at sl_l_kind sl_l_made sl_l_any_refusal sl_l_asked sl_l_zones_refused sl_l_zones_refused_by_any sl_law : Array (Option Value)} {oc_need_zones kV_need_zones dc_need_zones pm_need_zones cd_need_zones ct_need_zones oc_cheapest kV_cheapest dc_cheapest pm_cheapest cd_cheapest ct_cheapest oc_Tariff_init kV_Tariff_init dc_Tariff_init pm_Tariff_init cd_Tariff_init ct_Tariff_init oc_Tariff_single kV_Tariff_single dc_Tariff_single pm_Tariff_single cd_Tariff_single ct_Tariff_single oc_Tariff_day kV_Tariff_day dc_Tariff_day pm_Tariff_day cd_Tariff_day ct_Tariff_day oc_Tariff_week kV_Tariff_week dc_Tariff_week pm_Tariff_week cd_Tariff_week ct_Tariff_week oc_l_cell_at kV_l_cell_at dc_l_cell_at pm_l_cell_at cd_l_cell_at ct_l_cell_at oc_l_kind kV_l_kind dc_l_kind pm_l_kind cd_l_kind ct_l_kind oc_l_made kV_l_made dc_l_made pm_l_made cd_l_made ct_l_made oc_l_any_refusal kV_l_any_refusal dc_l_any_refusal pm_l_any_refusal cd_l_any_refusal ct_l_any_refusal oc_l_asked kV_l_asked dc_l_asked pm_l_asked cd_l_asked ct_l_asked oc_l_zones_refused kV_l_zones_refused dc_l_zones_refused pm_l_zones_refused cd_l_zones_refused ct_l_zones_refused oc_l_zones_refused_by_any kV_l_zones_refused_by_any dc_l_zones_refused_by_any pm_l_zones_refused_by_any cd_l_zones_refused_by_any ct_l_zones_refused_by_any oc_law kV_law dc_law pm_law cd_law ct_law : Value} {tk_MOST_ZONES : Tok}
  (aE_FareError : PySem.W.nsIn K mainGlobals "FareError" = some (some (.ref C_FareError)))
  (xE_FareError : PySem.W.excIn K C_FareError [.type "ValueError", .type "Exception", .type "BaseException", .type "object"] "ValueError.__new__" = true)
  (kE_FareError : PySem.W.keepIn K (.ref C_FareError) = true)
  (yE_FareError : PySem.W.subIn K (.ref C_FareError) (.type "BaseException") = some true)
  (tE_FareError : PySem.W.typeIn K (.ref C_FareError) = some (.type "type"))
  (aE_BadLink : PySem.W.nsIn K mainGlobals "BadLink" = some (some (.ref C_BadLink)))
  (xE_BadLink : PySem.W.excIn K C_BadLink [.type "ValueError", .type "Exception", .type "BaseException", .type "object"] "ValueError.__new__" = true)
  (kE_BadLink : PySem.W.keepIn K (.ref C_BadLink) = true)
  (yE_BadLink : PySem.W.subIn K (.ref C_BadLink) (.type "BaseException") = some true)
  (tE_BadLink : PySem.W.typeIn K (.ref C_BadLink) = some (.type "type"))
  (aE_BadStop : PySem.W.nsIn K mainGlobals "BadStop" = some (some (.ref C_BadStop)))
  (xE_BadStop : PySem.W.excIn K C_BadStop [.type "ValueError", .type "Exception", .type "BaseException", .type "object"] "ValueError.__new__" = true)
  (kE_BadStop : PySem.W.keepIn K (.ref C_BadStop) = true)
  (yE_BadStop : PySem.W.subIn K (.ref C_BadStop) (.type "BaseException") = some true)
  (tE_BadStop : PySem.W.typeIn K (.ref C_BadStop) = some (.type "type"))
  (aE_NoWay : PySem.W.nsIn K mainGlobals "NoWay" = some (some (.ref C_NoWay)))
  (xE_NoWay : PySem.W.excIn K C_NoWay [.type "ValueError", .type "Exception", .type "BaseException", .type "object"] "ValueError.__new__" = true)
  (kE_NoWay : PySem.W.keepIn K (.ref C_NoWay) = true)
  (yE_NoWay : PySem.W.subIn K (.ref C_NoWay) (.type "BaseException") = some true)
  (tE_NoWay : PySem.W.typeIn K (.ref C_NoWay) = some (.type "type"))
  (aE_BadPrices : PySem.W.nsIn K mainGlobals "BadPrices" = some (some (.ref C_BadPrices)))
  (xE_BadPrices : PySem.W.excIn K C_BadPrices [.type "ValueError", .type "Exception", .type "BaseException", .type "object"] "ValueError.__new__" = true)
  (kE_BadPrices : PySem.W.keepIn K (.ref C_BadPrices) = true)
  (yE_BadPrices : PySem.W.subIn K (.ref C_BadPrices) (.type "BaseException") = some true)
  (tE_BadPrices : PySem.W.typeIn K (.ref C_BadPrices) = some (.type "type"))
  (aE_BadZones : PySem.W.nsIn K mainGlobals "BadZones" = some (some (.ref C_BadZones)))
  (xE_BadZones : PySem.W.excIn K C_BadZones [.type "ValueError", .type "Exception", .type "BaseException", .type "object"] "ValueError.__new__" = true)
  (kE_BadZones : PySem.W.keepIn K (.ref C_BadZones) = true)
  (yE_BadZones : PySem.W.subIn K (.ref C_BadZones) (.type "BaseException") = some true)
  (tE_BadZones : PySem.W.typeIn K (.ref C_BadZones) = some (.type "type"))
  (aE_PastDay : PySem.W.nsIn K mainGlobals "PastDay" = some (some (.ref C_PastDay)))
  (xE_PastDay : PySem.W.excIn K C_PastDay [.type "ValueError", .type "Exception", .type "BaseException", .type "object"] "ValueError.__new__" = true)
  (kE_PastDay : PySem.W.keepIn K (.ref C_PastDay) = true)
  (yE_PastDay : PySem.W.subIn K (.ref C_PastDay) (.type "BaseException") = some true)
  (tE_PastDay : PySem.W.typeIn K (.ref C_PastDay) = some (.type "type"))
  (cl_ha : PySem.W.specialIn K (.builtin "object.__class__") "__get__" = some (some (.builtin "getset_descriptor.__get__")))
  (cl_ht : PySem.W.takesIn K (.builtin "object.__class__") = some true)
  (hE_FareError : PySem.W.hasDictIn K C_FareError = true)
  (hE_BadLink : PySem.W.hasDictIn K C_BadLink = true)
  (hE_BadStop : PySem.W.hasDictIn K C_BadStop = true)
  (hE_NoWay : PySem.W.hasDictIn K C_NoWay = true)
  (hE_BadPrices : PySem.W.hasDictIn K C_BadPrices = true)
  (hE_BadZones : PySem.W.hasDictIn K C_BadZones = true)
  (hE_PastDay : PySem.W.hasDictIn K C_PastDay = true)
  (gg_BadPrices : PySem.W.findIn K (.ref C_BadPrices) "__getattribute__" = some (some (.builtin "BaseException.__getattribute__")))
  (gk_BadPrices : PySem.W.findIn K (.ref C_BadPrices) "__getattr__" = some none)
  (gc_BadPrices : PySem.W.findIn K (.ref C_BadPrices) "__class__" = some (some (.builtin "object.__class__")))
  (gm_BadPrices : PySem.W.mroIn K C_BadPrices (.type "object") = some true)
  (gv_BadPrices : PySem.W.subIn K (.ref C_BadPrices) (.type "ValueError") = some true)
  (sb_BadPrices_BadLink : PySem.W.subIn K (.ref C_BadPrices) (.ref C_BadLink) = some false)
  (sb_BadPrices_BadStop : PySem.W.subIn K (.ref C_BadPrices) (.ref C_BadStop) = some false)
  (sb_BadPrices_NoWay : PySem.W.subIn K (.ref C_BadPrices) (.ref C_NoWay) = some false)
  (sb_BadPrices_BadPrices : PySem.W.subIn K (.ref C_BadPrices) (.ref C_BadPrices) = some true)
  (sb_BadPrices_BadZones : PySem.W.subIn K (.ref C_BadPrices) (.ref C_BadZones) = some false)
  (sb_BadPrices_PastDay : PySem.W.subIn K (.ref C_BadPrices) (.ref C_PastDay) = some false)
  (sb_BadPrices_FareError : PySem.W.subIn K (.ref C_BadPrices) (.ref C_FareError) = some true)
  (gg_BadZones : PySem.W.findIn K (.ref C_BadZones) "__getattribute__" = some (some (.builtin "BaseException.__getattribute__")))
  (gk_BadZones : PySem.W.findIn K (.ref C_BadZones) "__getattr__" = some none)
  (gc_BadZones : PySem.W.findIn K (.ref C_BadZones) "__class__" = some (some (.builtin "object.__class__")))
  (gm_BadZones : PySem.W.mroIn K C_BadZones (.type "object") = some true)
  (gv_BadZones : PySem.W.subIn K (.ref C_BadZones) (.type "ValueError") = some true)
  (sb_BadZones_BadLink : PySem.W.subIn K (.ref C_BadZones) (.ref C_BadLink) = some false)
  (sb_BadZones_BadStop : PySem.W.subIn K (.ref C_BadZones) (.ref C_BadStop) = some false)
  (sb_BadZones_NoWay : PySem.W.subIn K (.ref C_BadZones) (.ref C_NoWay) = some false)
  (sb_BadZones_BadPrices : PySem.W.subIn K (.ref C_BadZones) (.ref C_BadPrices) = some false)
  (sb_BadZones_BadZones : PySem.W.subIn K (.ref C_BadZones) (.ref C_BadZones) = some true)
  (sb_BadZones_PastDay : PySem.W.subIn K (.ref C_BadZones) (.ref C_PastDay) = some false)
  (sb_BadZones_FareError : PySem.W.subIn K (.ref C_BadZones) (.ref C_FareError) = some true)
  (aC_Tariff : PySem.W.nsIn K mainGlobals "Tariff" = some (some (.ref C_Tariff)))
  (pC_Tariff : PySem.W.plainGet K C_Tariff Str.empty = true)
  (dC_Tariff : PySem.W.hasDictIn K C_Tariff = true)
  (oC_Tariff : PySem.W.plainOver K C_Tariff = true)
  (sC_Tariff : PySem.W.findIn K (.ref C_Tariff) "__setattr__" = some (some (.builtin "object.__setattr__")))
  (mC_Tariff : PySem.W.makesIn K C_Tariff = true)
  (kC_Tariff : PySem.W.keepIn K (.ref C_Tariff) = true)
  (n_Tariff_days : PySem.W.findIn K (.ref C_Tariff) "days" = some none)
  (n_Tariff_singles : PySem.W.findIn K (.ref C_Tariff) "singles" = some none)
  (n_Tariff_weeks : PySem.W.findIn K (.ref C_Tariff) "weeks" = some none)
  (a_need_zones : PySem.W.nsIn K mainGlobals "need_zones" = some (some (.ref f_need_zones)))
  (l_need_zones : K.lookup f_need_zones = some ⟨oc_need_zones, od_need_zones, .func (PySem.W.fnOf "need_zones" "need_zones" (defArgs s_need_zones) (defBody s_need_zones) (defScope s_need_zones) .none kV_need_zones dc_need_zones pm_need_zones an_need_zones cd_need_zones ct_need_zones), sl_need_zones⟩)
  (c_need_zones : PySem.W.codeIn K cd_need_zones "need_zones" = true)
  (k_need_zones : PySem.W.keepIn K (.ref f_need_zones) = true)
  (a_cheapest : PySem.W.nsIn K mainGlobals "cheapest" = some (some (.ref f_cheapest)))
  (l_cheapest : K.lookup f_cheapest = some ⟨oc_cheapest, od_cheapest, .func (PySem.W.fnOf "cheapest" "cheapest" (defArgs s_cheapest) (defBody s_cheapest) (defScope s_cheapest) .none kV_cheapest dc_cheapest pm_cheapest an_cheapest cd_cheapest ct_cheapest), sl_cheapest⟩)
  (c_cheapest : PySem.W.codeIn K cd_cheapest "cheapest" = true)
  (k_cheapest : PySem.W.keepIn K (.ref f_cheapest) = true)
  (a_Tariff_init : PySem.W.findIn K (.ref C_Tariff) "__init__" = some (some (.ref f_Tariff_init)))
  (i_Tariff_init : PySem.W.isFn K (.ref f_Tariff_init) = true)
  (l_Tariff_init : K.lookup f_Tariff_init = some ⟨oc_Tariff_init, od_Tariff_init, .func (PySem.W.fnOf "__init__" "Tariff.__init__" (defArgs s_Tariff_init) (defBody s_Tariff_init) (defScope s_Tariff_init) .none kV_Tariff_init dc_Tariff_init pm_Tariff_init an_Tariff_init cd_Tariff_init ct_Tariff_init), sl_Tariff_init⟩)
  (c_Tariff_init : PySem.W.codeIn K cd_Tariff_init "Tariff.__init__" = true)
  (k_Tariff_init : PySem.W.keepIn K (.ref f_Tariff_init) = true)
  (a_Tariff_single : PySem.W.findIn K (.ref C_Tariff) "single" = some (some (.ref f_Tariff_single)))
  (i_Tariff_single : PySem.W.isFn K (.ref f_Tariff_single) = true)
  (l_Tariff_single : K.lookup f_Tariff_single = some ⟨oc_Tariff_single, od_Tariff_single, .func (PySem.W.fnOf "single" "Tariff.single" (defArgs s_Tariff_single) (defBody s_Tariff_single) (defScope s_Tariff_single) .none kV_Tariff_single dc_Tariff_single pm_Tariff_single an_Tariff_single cd_Tariff_single ct_Tariff_single), sl_Tariff_single⟩)
  (c_Tariff_single : PySem.W.codeIn K cd_Tariff_single "Tariff.single" = true)
  (k_Tariff_single : PySem.W.keepIn K (.ref f_Tariff_single) = true)
  (a_Tariff_day : PySem.W.findIn K (.ref C_Tariff) "day" = some (some (.ref f_Tariff_day)))
  (i_Tariff_day : PySem.W.isFn K (.ref f_Tariff_day) = true)
  (l_Tariff_day : K.lookup f_Tariff_day = some ⟨oc_Tariff_day, od_Tariff_day, .func (PySem.W.fnOf "day" "Tariff.day" (defArgs s_Tariff_day) (defBody s_Tariff_day) (defScope s_Tariff_day) .none kV_Tariff_day dc_Tariff_day pm_Tariff_day an_Tariff_day cd_Tariff_day ct_Tariff_day), sl_Tariff_day⟩)
  (c_Tariff_day : PySem.W.codeIn K cd_Tariff_day "Tariff.day" = true)
  (k_Tariff_day : PySem.W.keepIn K (.ref f_Tariff_day) = true)
  (a_Tariff_week : PySem.W.findIn K (.ref C_Tariff) "week" = some (some (.ref f_Tariff_week)))
  (i_Tariff_week : PySem.W.isFn K (.ref f_Tariff_week) = true)
  (l_Tariff_week : K.lookup f_Tariff_week = some ⟨oc_Tariff_week, od_Tariff_week, .func (PySem.W.fnOf "week" "Tariff.week" (defArgs s_Tariff_week) (defBody s_Tariff_week) (defScope s_Tariff_week) .none kV_Tariff_week dc_Tariff_week pm_Tariff_week an_Tariff_week cd_Tariff_week ct_Tariff_week), sl_Tariff_week⟩)
  (c_Tariff_week : PySem.W.codeIn K cd_Tariff_week "Tariff.week" = true)
  (k_Tariff_week : PySem.W.keepIn K (.ref f_Tariff_week) = true)
  (a_l_cell_at : PySem.W.nsIn K mainGlobals "_law_cell_at" = some (some (.ref f_l_cell_at)))
  (l_l_cell_at : K.lookup f_l_cell_at = some ⟨oc_l_cell_at, od_l_cell_at, .func (PySem.W.fnOf "_law_cell_at" "_law_cell_at" (defArgs s_l_cell_at) (defBody s_l_cell_at) (defScope s_l_cell_at) .none kV_l_cell_at dc_l_cell_at pm_l_cell_at an_l_cell_at cd_l_cell_at ct_l_cell_at), sl_l_cell_at⟩)
  (c_l_cell_at : PySem.W.codeIn K cd_l_cell_at "_law_cell_at" = true)
  (k_l_cell_at : PySem.W.keepIn K (.ref f_l_cell_at) = true)
  (a_l_kind : PySem.W.nsIn K mainGlobals "_law_kind" = some (some (.ref f_l_kind)))
  (l_l_kind : K.lookup f_l_kind = some ⟨oc_l_kind, od_l_kind, .func (PySem.W.fnOf "_law_kind" "_law_kind" (defArgs s_l_kind) (defBody s_l_kind) (defScope s_l_kind) .none kV_l_kind dc_l_kind pm_l_kind an_l_kind cd_l_kind ct_l_kind), sl_l_kind⟩)
  (c_l_kind : PySem.W.codeIn K cd_l_kind "_law_kind" = true)
  (k_l_kind : PySem.W.keepIn K (.ref f_l_kind) = true)
  (a_l_made : PySem.W.nsIn K mainGlobals "_law_made" = some (some (.ref f_l_made)))
  (l_l_made : K.lookup f_l_made = some ⟨oc_l_made, od_l_made, .func (PySem.W.fnOf "_law_made" "_law_made" (defArgs s_l_made) (defBody s_l_made) (defScope s_l_made) .none kV_l_made dc_l_made pm_l_made an_l_made cd_l_made ct_l_made), sl_l_made⟩)
  (c_l_made : PySem.W.codeIn K cd_l_made "_law_made" = true)
  (k_l_made : PySem.W.keepIn K (.ref f_l_made) = true)
  (a_l_any_refusal : PySem.W.nsIn K mainGlobals "_law_any_refusal" = some (some (.ref f_l_any_refusal)))
  (l_l_any_refusal : K.lookup f_l_any_refusal = some ⟨oc_l_any_refusal, od_l_any_refusal, .func (PySem.W.fnOf "_law_any_refusal" "_law_any_refusal" (defArgs s_l_any_refusal) (defBody s_l_any_refusal) (defScope s_l_any_refusal) .none kV_l_any_refusal dc_l_any_refusal pm_l_any_refusal an_l_any_refusal cd_l_any_refusal ct_l_any_refusal), sl_l_any_refusal⟩)
  (c_l_any_refusal : PySem.W.codeIn K cd_l_any_refusal "_law_any_refusal" = true)
  (k_l_any_refusal : PySem.W.keepIn K (.ref f_l_any_refusal) = true)
  (a_l_asked : PySem.W.nsIn K mainGlobals "_law_asked" = some (some (.ref f_l_asked)))
  (l_l_asked : K.lookup f_l_asked = some ⟨oc_l_asked, od_l_asked, .func (PySem.W.fnOf "_law_asked" "_law_asked" (defArgs s_l_asked) (defBody s_l_asked) (defScope s_l_asked) .none kV_l_asked dc_l_asked pm_l_asked an_l_asked cd_l_asked ct_l_asked), sl_l_asked⟩)
  (c_l_asked : PySem.W.codeIn K cd_l_asked "_law_asked" = true)
  (k_l_asked : PySem.W.keepIn K (.ref f_l_asked) = true)
  (a_l_zones_refused : PySem.W.nsIn K mainGlobals "_law_zones_refused" = some (some (.ref f_l_zones_refused)))
  (l_l_zones_refused : K.lookup f_l_zones_refused = some ⟨oc_l_zones_refused, od_l_zones_refused, .func (PySem.W.fnOf "_law_zones_refused" "_law_zones_refused" (defArgs s_l_zones_refused) (defBody s_l_zones_refused) (defScope s_l_zones_refused) .none kV_l_zones_refused dc_l_zones_refused pm_l_zones_refused an_l_zones_refused cd_l_zones_refused ct_l_zones_refused), sl_l_zones_refused⟩)
  (c_l_zones_refused : PySem.W.codeIn K cd_l_zones_refused "_law_zones_refused" = true)
  (k_l_zones_refused : PySem.W.keepIn K (.ref f_l_zones_refused) = true)
  (a_l_zones_refused_by_any : PySem.W.nsIn K mainGlobals "_law_zones_refused_by_any" = some (some (.ref f_l_zones_refused_by_any)))
  (l_l_zones_refused_by_any : K.lookup f_l_zones_refused_by_any = some ⟨oc_l_zones_refused_by_any, od_l_zones_refused_by_any, .func (PySem.W.fnOf "_law_zones_refused_by_any" "_law_zones_refused_by_any" (defArgs s_l_zones_refused_by_any) (defBody s_l_zones_refused_by_any) (defScope s_l_zones_refused_by_any) .none kV_l_zones_refused_by_any dc_l_zones_refused_by_any pm_l_zones_refused_by_any an_l_zones_refused_by_any cd_l_zones_refused_by_any ct_l_zones_refused_by_any), sl_l_zones_refused_by_any⟩)
  (c_l_zones_refused_by_any : PySem.W.codeIn K cd_l_zones_refused_by_any "_law_zones_refused_by_any" = true)
  (k_l_zones_refused_by_any : PySem.W.keepIn K (.ref f_l_zones_refused_by_any) = true)
  (a_law : PySem.W.nsIn K mainGlobals "law" = some (some (.ref f_law)))
  (l_law : K.lookup f_law = some ⟨oc_law, od_law, .func (PySem.W.fnOf "law" "law" (defArgs s_law) (defBody s_law) (defScope s_law) .none kV_law dc_law pm_law an_law cd_law ct_law), sl_law⟩)
  (c_law : PySem.W.codeIn K cd_law "law" = true)
  (k_law : PySem.W.keepIn K (.ref f_law) = true)
  (z_ValueError : PySem.W.nsIn K mainGlobals "ValueError" = some none)
  (z_isinstance : PySem.W.nsIn K mainGlobals "isinstance" = some none)
  (z_len : PySem.W.nsIn K mainGlobals "len" = some none)
  (z_list : PySem.W.nsIn K mainGlobals "list" = some none)
  (z_min : PySem.W.nsIn K mainGlobals "min" = some none)
  (z_range : PySem.W.nsIn K mainGlobals "range" = some none)
  (v_MOST_ZONES : PySem.W.nsIn K mainGlobals "MOST_ZONES" = some (some (.int 5 tk_MOST_ZONES))) :
  ∃ fd : FuncData, (∀ (s : Shared) (v : Value), BindsTo s fd ⟨[v], []⟩ [("_law_script", v)]) ∧ ∀ base : Heap, K.In base → base.Ns mainGlobals mg → FnOk l.prog w K mg base (L2.CX l.prog w) 6 fa fd ["_law_script"] (spLaw K) := by
  have e := hfa.symm.trans (PySem.W.mg_of X G a_law)
  cases e
  let A : Ad := { c_FareError := C_FareError, c_BadLink := C_BadLink, c_BadStop := C_BadStop, c_NoWay := C_NoWay, c_BadPrices := C_BadPrices, c_BadZones := C_BadZones, c_PastDay := C_PastDay, c_Tariff := C_Tariff, c_Web := fa, c_Ledger := fa }
  have F_need_zones := fun_mk (st := s_need_zones) l_need_zones c_need_zones k_need_zones
  have b_need_zones := F_need_zones.binds (ps := ["zones"]) fun _ _ _ _ _ _ us hl => match us, hl with | [_], _ => rfl
  have F_cheapest := fun_mk (st := s_cheapest) l_cheapest c_cheapest k_cheapest
  have b_cheapest := F_cheapest.binds (ps := ["row", "zones"]) fun _ _ _ _ _ _ us hl => match us, hl with | [_, _], _ => rfl
  have F_Tariff_init := fun_mk (st := s_Tariff_init) l_Tariff_init c_Tariff_init k_Tariff_init
  have b_Tariff_init := F_Tariff_init.binds (ps := ["self", "singles", "days", "weeks"]) fun _ _ _ _ _ _ us hl => match us, hl with | [_, _, _, _], _ => rfl
  have F_Tariff_single := fun_mk (st := s_Tariff_single) l_Tariff_single c_Tariff_single k_Tariff_single
  have b_Tariff_single := F_Tariff_single.binds (ps := ["self", "zones"]) fun _ _ _ _ _ _ us hl => match us, hl with | [_, _], _ => rfl
  have F_Tariff_day := fun_mk (st := s_Tariff_day) l_Tariff_day c_Tariff_day k_Tariff_day
  have b_Tariff_day := F_Tariff_day.binds (ps := ["self", "zones"]) fun _ _ _ _ _ _ us hl => match us, hl with | [_, _], _ => rfl
  have F_Tariff_week := fun_mk (st := s_Tariff_week) l_Tariff_week c_Tariff_week k_Tariff_week
  have b_Tariff_week := F_Tariff_week.binds (ps := ["self", "zones"]) fun _ _ _ _ _ _ us hl => match us, hl with | [_, _], _ => rfl
  have F_l_cell_at := fun_mk (st := s_l_cell_at) l_l_cell_at c_l_cell_at k_l_cell_at
  have b_l_cell_at := F_l_cell_at.binds (ps := ["_law_script", "_law_k"]) fun _ _ _ _ _ _ us hl => match us, hl with | [_, _], _ => rfl
  have F_l_kind := fun_mk (st := s_l_kind) l_l_kind c_l_kind k_l_kind
  have b_l_kind := F_l_kind.binds (ps := ["_law_e"]) fun _ _ _ _ _ _ us hl => match us, hl with | [_], _ => rfl
  have F_l_made := fun_mk (st := s_l_made) l_l_made c_l_made k_l_made
  have b_l_made := F_l_made.binds (ps := ["_law_rows"]) fun _ _ _ _ _ _ us hl => match us, hl with | [_], _ => rfl
  have F_l_any_refusal := fun_mk (st := s_l_any_refusal) l_l_any_refusal c_l_any_refusal k_l_any_refusal
  have b_l_any_refusal := F_l_any_refusal.binds (ps := ["_law_rows"]) fun _ _ _ _ _ _ us hl => match us, hl with | [_], _ => rfl
  have F_l_asked := fun_mk (st := s_l_asked) l_l_asked c_l_asked k_l_asked
  have b_l_asked := F_l_asked.binds (ps := ["_law_tariff", "_law_sort", "_law_zones"]) fun _ _ _ _ _ _ us hl => match us, hl with | [_, _, _], _ => rfl
  have F_l_zones_refused := fun_mk (st := s_l_zones_refused) l_l_zones_refused c_l_zones_refused k_l_zones_refused
  have b_l_zones_refused := F_l_zones_refused.binds (ps := ["_law_tariff", "_law_sort", "_law_zones"]) fun _ _ _ _ _ _ us hl => match us, hl with | [_, _, _], _ => rfl
  have F_l_zones_refused_by_any := fun_mk (st := s_l_zones_refused_by_any) l_l_zones_refused_by_any c_l_zones_refused_by_any k_l_zones_refused_by_any
  have b_l_zones_refused_by_any := F_l_zones_refused_by_any.binds (ps := ["_law_tariff", "_law_sort", "_law_zones"]) fun _ _ _ _ _ _ us hl => match us, hl with | [_, _, _], _ => rfl
  have F_law := fun_mk (st := s_law) l_law c_law k_law
  have b_law := F_law.binds (ps := ["_law_script"]) fun _ _ _ _ _ _ us hl => match us, hl with | [_], _ => rfl
  let T : Txt K mg A := {
    a_need_zones := f_need_zones, d_need_zones := _, F_need_zones := F_need_zones, b_need_zones := b_need_zones,
    g_need_zones := PySem.W.mg_of X G a_need_zones, k_need_zones := k_need_zones,
    a_cheapest := f_cheapest, d_cheapest := _, F_cheapest := F_cheapest, b_cheapest := b_cheapest,
    g_cheapest := PySem.W.mg_of X G a_cheapest, k_cheapest := k_cheapest,
    a_Tariff_init := f_Tariff_init, d_Tariff_init := _, F_Tariff_init := F_Tariff_init, b_Tariff_init := b_Tariff_init,
    M_Tariff := ⟨mC_Tariff, a_Tariff_init, i_Tariff_init, kC_Tariff⟩,
    a_Tariff_single := f_Tariff_single, d_Tariff_single := _, F_Tariff_single := F_Tariff_single, b_Tariff_single := b_Tariff_single,
    h_Tariff_single := ⟨a_Tariff_single, i_Tariff_single, k_Tariff_single⟩,
    a_Tariff_day := f_Tariff_day, d_Tariff_day := _, F_Tariff_day := F_Tariff_day, b_Tariff_day := b_Tariff_day,
    h_Tariff_day := ⟨a_Tariff_day, i_Tariff_day, k_Tariff_day⟩,
    a_Tariff_week := f_Tariff_week, d_Tariff_week := _, F_Tariff_week := F_Tariff_week, b_Tariff_week := b_Tariff_week,
    h_Tariff_week := ⟨a_Tariff_week, i_Tariff_week, k_Tariff_week⟩,
    a_l_cell_at := f_l_cell_at, d_l_cell_at := _, F_l_cell_at := F_l_cell_at, b_l_cell_at := b_l_cell_at,
    g_l_cell_at := PySem.W.mg_of X G a_l_cell_at, k_l_cell_at := k_l_cell_at,
    a_l_kind := f_l_kind, d_l_kind := _, F_l_kind := F_l_kind, b_l_kind := b_l_kind,
    g_l_kind := PySem.W.mg_of X G a_l_kind, k_l_kind := k_l_kind,
    a_l_made := f_l_made, d_l_made := _, F_l_made := F_l_made, b_l_made := b_l_made,
    g_l_made := PySem.W.mg_of X G a_l_made, k_l_made := k_l_made,
    a_l_any_refusal := f_l_any_refusal, d_l_any_refusal := _, F_l_any_refusal := F_l_any_refusal, b_l_any_refusal := b_l_any_refusal,
    g_l_any_refusal := PySem.W.mg_of X G a_l_any_refusal, k_l_any_refusal := k_l_any_refusal,
    a_l_asked := f_l_asked, d_l_asked := _, F_l_asked := F_l_asked, b_l_asked := b_l_asked,
    g_l_asked := PySem.W.mg_of X G a_l_asked, k_l_asked := k_l_asked,
    a_l_zones_refused := f_l_zones_refused, d_l_zones_refused := _, F_l_zones_refused := F_l_zones_refused, b_l_zones_refused := b_l_zones_refused,
    g_l_zones_refused := PySem.W.mg_of X G a_l_zones_refused, k_l_zones_refused := k_l_zones_refused,
    a_l_zones_refused_by_any := f_l_zones_refused_by_any, d_l_zones_refused_by_any := _, F_l_zones_refused_by_any := F_l_zones_refused_by_any, b_l_zones_refused_by_any := b_l_zones_refused_by_any,
    g_l_zones_refused_by_any := PySem.W.mg_of X G a_l_zones_refused_by_any, k_l_zones_refused_by_any := k_l_zones_refused_by_any,
    a_law := fa, d_law := _, F_law := F_law, b_law := b_law,
    g_law := PySem.W.mg_of X G a_law, k_law := k_law,
    L_Tariff := ⟨pC_Tariff, dC_Tariff, oC_Tariff, sC_Tariff⟩, g_Tariff := PySem.W.mg_of X G aC_Tariff,
    n_Tariff_days := n_Tariff_days,
    n_Tariff_singles := n_Tariff_singles,
    n_Tariff_weeks := n_Tariff_weeks,
    z_ValueError := PySem.W.mg_none_of X G z_ValueError,
    z_isinstance := PySem.W.mg_none_of X G z_isinstance,
    z_len := PySem.W.mg_none_of X G z_len,
    z_list := PySem.W.mg_none_of X G z_list,
    z_min := PySem.W.mg_none_of X G z_min,
    z_range := PySem.W.mg_none_of X G z_range,
    c_MOST_ZONES := ⟨_, PySem.W.mg_of X G v_MOST_ZONES⟩,
    g_FareError := PySem.W.mg_of X G aE_FareError, x_FareError := xE_FareError, k_FareError := kE_FareError, y_FareError := yE_FareError, t_FareError := tE_FareError,
    g_BadLink := PySem.W.mg_of X G aE_BadLink, x_BadLink := xE_BadLink, k_BadLink := kE_BadLink, y_BadLink := yE_BadLink, t_BadLink := tE_BadLink,
    g_BadStop := PySem.W.mg_of X G aE_BadStop, x_BadStop := xE_BadStop, k_BadStop := kE_BadStop, y_BadStop := yE_BadStop, t_BadStop := tE_BadStop,
    g_NoWay := PySem.W.mg_of X G aE_NoWay, x_NoWay := xE_NoWay, k_NoWay := kE_NoWay, y_NoWay := yE_NoWay, t_NoWay := tE_NoWay,
    g_BadPrices := PySem.W.mg_of X G aE_BadPrices, x_BadPrices := xE_BadPrices, k_BadPrices := kE_BadPrices, y_BadPrices := yE_BadPrices, t_BadPrices := tE_BadPrices,
    g_BadZones := PySem.W.mg_of X G aE_BadZones, x_BadZones := xE_BadZones, k_BadZones := kE_BadZones, y_BadZones := yE_BadZones, t_BadZones := tE_BadZones,
    g_PastDay := PySem.W.mg_of X G aE_PastDay, x_PastDay := xE_PastDay, k_PastDay := kE_PastDay, y_PastDay := yE_PastDay, t_PastDay := tE_PastDay,
    e1_BadPrices := PySem.W.exm_ref yE_BadPrices hE_BadPrices tE_BadPrices sb_BadPrices_BadPrices,
    e1_BadZones := PySem.W.exm_ref yE_BadZones hE_BadZones tE_BadZones sb_BadZones_BadZones,
    I_BadPrices := ⟨⟨gg_BadPrices, gk_BadPrices, yE_BadPrices, hE_BadPrices, gc_BadPrices, cl_ha, cl_ht, gm_BadPrices⟩, PySem.W.exm_ref yE_FareError hE_FareError tE_FareError sb_BadPrices_FareError, kit_own ⟨yE_FareError, hE_FareError, tE_FareError⟩ sb_BadPrices_FareError sb_BadPrices_BadPrices, kit_type meta_ve gv_BadPrices, kit_own ⟨yE_BadLink, hE_BadLink, tE_BadLink⟩ sb_BadPrices_BadLink sb_BadPrices_BadPrices, kit_own ⟨yE_BadStop, hE_BadStop, tE_BadStop⟩ sb_BadPrices_BadStop sb_BadPrices_BadPrices, kit_own ⟨yE_NoWay, hE_NoWay, tE_NoWay⟩ sb_BadPrices_NoWay sb_BadPrices_BadPrices, kit_own ⟨yE_BadPrices, hE_BadPrices, tE_BadPrices⟩ sb_BadPrices_BadPrices sb_BadPrices_BadPrices, kit_own ⟨yE_BadZones, hE_BadZones, tE_BadZones⟩ sb_BadPrices_BadZones sb_BadPrices_BadPrices, kit_own ⟨yE_PastDay, hE_PastDay, tE_PastDay⟩ sb_BadPrices_PastDay sb_BadPrices_BadPrices⟩,
    I_BadZones := ⟨⟨gg_BadZones, gk_BadZones, yE_BadZones, hE_BadZones, gc_BadZones, cl_ha, cl_ht, gm_BadZones⟩, PySem.W.exm_ref yE_FareError hE_FareError tE_FareError sb_BadZones_FareError, kit_own ⟨yE_FareError, hE_FareError, tE_FareError⟩ sb_BadZones_FareError sb_BadZones_BadZones, kit_type meta_ve gv_BadZones, kit_own ⟨yE_BadLink, hE_BadLink, tE_BadLink⟩ sb_BadZones_BadLink sb_BadZones_BadZones, kit_own ⟨yE_BadStop, hE_BadStop, tE_BadStop⟩ sb_BadZones_BadStop sb_BadZones_BadZones, kit_own ⟨yE_NoWay, hE_NoWay, tE_NoWay⟩ sb_BadZones_NoWay sb_BadZones_BadZones, kit_own ⟨yE_BadPrices, hE_BadPrices, tE_BadPrices⟩ sb_BadZones_BadPrices sb_BadZones_BadZones, kit_own ⟨yE_BadZones, hE_BadZones, tE_BadZones⟩ sb_BadZones_BadZones sb_BadZones_BadZones, kit_own ⟨yE_PastDay, hE_PastDay, tE_PastDay⟩ sb_BadZones_PastDay sb_BadZones_BadZones⟩ }
  exact ⟨PySem.W.fnOf "law" "law" (defArgs s_law) (defBody s_law) (defScope s_law) .none kV_law dc_law pm_law an_law cd_law ct_law, fun s v => .of_eq rfl, fun base _ _ => ok_law (A := A) (P := l.prog) (w := w) (base := base) T⟩
theorem walk {l : PySem.W.OpenLaw} {q : Program} {loose : List Str} {XP : (Str → Option Value) → Heap → Prop} {YP : World → Heap → Prop} {d : DefRec} {K : Params → PySem.W.Frag} (hn : l.most = some 63) (hdf : d.params.defaults = [])
    (hY : ∀ (w : World) (h : Heap), YP w h → (K w.params).In h)
    (F : ∀ (w : World) (mg : Str → Option Value) (fa : Addr) (h : Heap), (K w.params).In h → h.Ns mainGlobals mg → mg d.name = some (.ref fa) →
      ∃ fd : FuncData, (∀ (s : Shared) (u : Value), BindsTo s fd ⟨[u], []⟩ [("_law_script", u)]) ∧ ∀ base : Heap, (K w.params).In base → base.Ns mainGlobals mg → FnOk l.prog w (K w.params) mg base (L2.CX l.prog w) 6 fa fd ["_law_script"] (spLaw (K w.params))) :
    PySem.W.WalkO q loose XP YP l.row.toRowW d [] (fun f vs => PySem.call f vs) :=
  L2.walk_of (n := 63) (k := 6) (x := "_law_script") (CX := fun w => L2.CX l.prog w) (sp := fun w => spLaw (K w.params)) hn (by decide) hdf ⟨rfl, by decide, by decide⟩ hY F (fun _ _ a ns hl _ hS => ⟨a, ns, rfl, hS, hl, fun _ => rfl⟩) fun _ _ _ _ _ z => cx_none z
end FW
open PySem PySem.W PyProof.Rows
set_option maxRecDepth 100000 in
set_option maxHeartbeats 0 in
theorem PySem.Challenge.cw_fareweb_k02_prices_refused_holds : PySem.Challenge.rw_fareweb_k02_prices_refused.Holds := by
  w_on; o_law; k_head; (case hw => w_witness2)
  k_fill
  refine FW.walk (l := PySem.Challenge.rw_fareweb_k02_prices_refused) rfl rfl (fun w h Y => PySem.W.kIn_of Y) ?F
  case F =>
    intro w mg fa h KX G hmg
    refine' FW.all_mk KX G hmg ?aE_FareError ?xE_FareError ?kE_FareError ?yE_FareError ?tE_FareError ?aE_BadLink ?xE_BadLink ?kE_BadLink ?yE_BadLink ?tE_BadLink ?aE_BadStop ?xE_BadStop ?kE_BadStop ?yE_BadStop ?tE_BadStop ?aE_NoWay ?xE_NoWay ?kE_NoWay ?yE_NoWay ?tE_NoWay ?aE_BadPrices ?xE_BadPrices ?kE_BadPrices ?yE_BadPrices ?tE_BadPrices ?aE_BadZones ?xE_BadZones ?kE_BadZones ?yE_BadZones ?tE_BadZones ?aE_PastDay ?xE_PastDay ?kE_PastDay ?yE_PastDay ?tE_PastDay ?cl_ha ?cl_ht ?hE_FareError ?hE_BadLink ?hE_BadStop ?hE_NoWay ?hE_BadPrices ?hE_BadZones ?hE_PastDay ?gg_BadPrices ?gk_BadPrices ?gc_BadPrices ?gm_BadPrices ?gv_BadPrices ?sb_BadPrices_BadLink ?sb_BadPrices_BadStop ?sb_BadPrices_NoWay ?sb_BadPrices_BadPrices ?sb_BadPrices_BadZones ?sb_BadPrices_PastDay ?sb_BadPrices_FareError ?gg_BadZones ?gk_BadZones ?gc_BadZones ?gm_BadZones ?gv_BadZones ?sb_BadZones_BadLink ?sb_BadZones_BadStop ?sb_BadZones_NoWay ?sb_BadZones_BadPrices ?sb_BadZones_BadZones ?sb_BadZones_PastDay ?sb_BadZones_FareError ?aC_Tariff ?pC_Tariff ?dC_Tariff ?oC_Tariff ?sC_Tariff ?mC_Tariff ?kC_Tariff ?n_Tariff_days ?n_Tariff_singles ?n_Tariff_weeks ?a_need_zones ?l_need_zones ?c_need_zones ?k_need_zones ?a_cheapest ?l_cheapest ?c_cheapest ?k_cheapest ?a_Tariff_init ?i_Tariff_init ?l_Tariff_init ?c_Tariff_init ?k_Tariff_init ?a_Tariff_single ?i_Tariff_single ?l_Tariff_single ?c_Tariff_single ?k_Tariff_single ?a_Tariff_day ?i_Tariff_day ?l_Tariff_day ?c_Tariff_day ?k_Tariff_day ?a_Tariff_week ?i_Tariff_week ?l_Tariff_week ?c_Tariff_week ?k_Tariff_week ?a_l_cell_at ?l_l_cell_at ?c_l_cell_at ?k_l_cell_at ?a_l_kind ?l_l_kind ?c_l_kind ?k_l_kind ?a_l_made ?l_l_made ?c_l_made ?k_l_made ?a_l_any_refusal ?l_l_any_refusal ?c_l_any_refusal ?k_l_any_refusal ?a_l_asked ?l_l_asked ?c_l_asked ?k_l_asked ?a_l_zones_refused ?l_l_zones_refused ?c_l_zones_refused ?k_l_zones_refused ?a_l_zones_refused_by_any ?l_l_zones_refused_by_any ?c_l_zones_refused_by_any ?k_l_zones_refused_by_any ?a_law ?l_law ?c_law ?k_law ?z_ValueError ?z_isinstance ?z_len ?z_list ?z_min ?z_range ?v_MOST_ZONES
    (case aE_FareError => k_is)
    (case xE_FareError => k_exc)
    (case kE_FareError => k_is)
    (case yE_FareError => k_is)
    (case tE_FareError => k_is)
    (case aE_BadLink => k_is)
    (case xE_BadLink => k_exc)
    (case kE_BadLink => k_is)
    (case yE_BadLink => k_is)
    (case tE_BadLink => k_is)
    (case aE_BadStop => k_is)
    (case xE_BadStop => k_exc)
    (case kE_BadStop => k_is)
    (case yE_BadStop => k_is)
    (case tE_BadStop => k_is)
    (case aE_NoWay => k_is)
    (case xE_NoWay => k_exc)
    (case kE_NoWay => k_is)
    (case yE_NoWay => k_is)
    (case tE_NoWay => k_is)
    (case aE_BadPrices => k_is)
    (case xE_BadPrices => k_exc)
    (case kE_BadPrices => k_is)
    (case yE_BadPrices => k_is)
    (case tE_BadPrices => k_is)
    (case aE_BadZones => k_is)
    (case xE_BadZones => k_exc)
    (case kE_BadZones => k_is)
    (case yE_BadZones => k_is)
    (case tE_BadZones => k_is)
    (case aE_PastDay => k_is)
    (case xE_PastDay => k_exc)
    (case kE_PastDay => k_is)
    (case yE_PastDay => k_is)
    (case tE_PastDay => k_is)
    (case cl_ha => k_is)
    (case cl_ht => k_is)
    (case hE_FareError => k_is)
    (case hE_BadLink => k_is)
    (case hE_BadStop => k_is)
    (case hE_NoWay => k_is)
    (case hE_BadPrices => k_is)
    (case hE_BadZones => k_is)
    (case hE_PastDay => k_is)
    (case gg_BadPrices => k_is)
    (case gk_BadPrices => k_is)
    (case gc_BadPrices => k_is)
    (case gm_BadPrices => k_is)
    (case gv_BadPrices => k_is)
    (case sb_BadPrices_BadLink => k_is)
    (case sb_BadPrices_BadStop => k_is)
    (case sb_BadPrices_NoWay => k_is)
    (case sb_BadPrices_BadPrices => k_is)
    (case sb_BadPrices_BadZones => k_is)
    (case sb_BadPrices_PastDay => k_is)
    (case sb_BadPrices_FareError => k_is)
    (case gg_BadZones => k_is)
    (case gk_BadZones => k_is)
    (case gc_BadZones => k_is)
    (case gm_BadZones => k_is)
    (case gv_BadZones => k_is)
    (case sb_BadZones_BadLink => k_is)
    (case sb_BadZones_BadStop => k_is)
    (case sb_BadZones_NoWay => k_is)
    (case sb_BadZones_BadPrices => k_is)
    (case sb_BadZones_BadZones => k_is)
    (case sb_BadZones_PastDay => k_is)
    (case sb_BadZones_FareError => k_is)
    (case aC_Tariff => k_is)
    (case pC_Tariff => k_is)
    (case dC_Tariff => k_is)
    (case oC_Tariff => k_is)
    (case sC_Tariff => k_is)
    (case mC_Tariff => k_is)
    (case kC_Tariff => k_is)
    (case n_Tariff_days => k_is)
    (case n_Tariff_singles => k_is)
    (case n_Tariff_weeks => k_is)
    (case a_need_zones => k_is)
    (case l_need_zones => k_is)
    (case c_need_zones => k_is)
    (case k_need_zones => k_is)
    (case a_cheapest => k_is)
    (case l_cheapest => k_is)
    (case c_cheapest => k_is)
    (case k_cheapest => k_is)
    (case a_Tariff_init => k_is)
    (case i_Tariff_init => k_is)
    (case l_Tariff_init => k_is)
    (case c_Tariff_init => k_is)
    (case k_Tariff_init => k_is)
    (case a_Tariff_single => k_is)
    (case i_Tariff_single => k_is)
    (case l_Tariff_single => k_is)
    (case c_Tariff_single => k_is)
    (case k_Tariff_single => k_is)
    (case a_Tariff_day => k_is)
    (case i_Tariff_day => k_is)
    (case l_Tariff_day => k_is)
    (case c_Tariff_day => k_is)
    (case k_Tariff_day => k_is)
    (case a_Tariff_week => k_is)
    (case i_Tariff_week => k_is)
    (case l_Tariff_week => k_is)
    (case c_Tariff_week => k_is)
    (case k_Tariff_week => k_is)
    (case a_l_cell_at => k_is)
    (case l_l_cell_at => k_is)
    (case c_l_cell_at => k_is)
    (case k_l_cell_at => k_is)
    (case a_l_kind => k_is)
    (case l_l_kind => k_is)
    (case c_l_kind => k_is)
    (case k_l_kind => k_is)
    (case a_l_made => k_is)
    (case l_l_made => k_is)
    (case c_l_made => k_is)
    (case k_l_made => k_is)
    (case a_l_any_refusal => k_is)
    (case l_l_any_refusal => k_is)
    (case c_l_any_refusal => k_is)
    (case k_l_any_refusal => k_is)
    (case a_l_asked => k_is)
    (case l_l_asked => k_is)
    (case c_l_asked => k_is)
    (case k_l_asked => k_is)
    (case a_l_zones_refused => k_is)
    (case l_l_zones_refused => k_is)
    (case c_l_zones_refused => k_is)
    (case k_l_zones_refused => k_is)
    (case a_l_zones_refused_by_any => k_is)
    (case l_l_zones_refused_by_any => k_is)
    (case c_l_zones_refused_by_any => k_is)
    (case k_l_zones_refused_by_any => k_is)
    (case a_law => k_is)
    (case l_law => k_is)
    (case c_law => k_is)
    (case k_law => k_is)
    (case z_ValueError => k_is)
    (case z_isinstance => k_is)
    (case z_len => k_is)
    (case z_list => k_is)
    (case z_min => k_is)
    (case z_range => k_is)
    (case v_MOST_ZONES => k_is)
#print axioms PySem.Challenge.cw_fareweb_k02_prices_refused_holds

