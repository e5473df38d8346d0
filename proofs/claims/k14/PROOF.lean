import PyProof.Rows.All
import Wide.All
import OpenK.AllK
import Wide.FinOn
import HandS.ForMost
import HandS.Exc
import HandS.TryOnly
import HandS.ExcOwn
import HandS.WordsExc
import HandS.Wide
import HandS.IsInst
import HandS.Evl
import HandS.Zip
import HandS.Walk
import HandS.Deep
import HandS.ExcIs
import HandS.HotCalls
import HandS.Codes
import HandS.Steps
import PySem.Challenge.RW_takepairs_k14_refused
set_option Elab.async false
set_option linter.all false
set_option maxRecDepth 100000
set_option maxHeartbeats 2000000
/-! Tk: the layer of this claim: pairs, step lemmas for readings, rules for max and min of a pair -/
namespace Tk
open PySem PySem.Spec PyProof.Rows L2 Evl

/-! ### pairs -/
/-- v is a tuple of the two ints -/
def Pr (K : PySem.W.Frag) (H : Hp) (v : V) (x y : Int) : Prop := ∃ a, v = .ref a ∧ SqT K H a [.int x, .int y]
theorem Pr.mono {K : PySem.W.Frag} {H H' : Hp} {v : V} {x y : Int} (e : Ex H H') (h : Pr K H v x y) : Pr K H' v x y := by
  obtain ⟨a, rfl, h⟩ := h
  exact ⟨a, rfl, ex_t e h⟩
theorem Pr.of {K : PySem.W.Frag} {H : Hp} {a : Addr} {x y : Int} (h : H a = some (.tup [.int x, .int y])) : Pr K H (.ref a) x y := ⟨a, rfl, st_of h⟩

/-- .. made in the call -/
def PrS (H : Hp) (v : V) (x y : Int) : Prop := ∃ a, v = .ref a ∧ H a = some (.tup [.int x, .int y])
theorem PrS.pr {K : PySem.W.Frag} {H : Hp} {v : V} {x y : Int} (h : PrS H v x y) : Pr K H v x y := by
  obtain ⟨a, rfl, h⟩ := h
  exact ⟨a, rfl, st_of h⟩
theorem PrS.mono {H H' : Hp} {v : V} {x y : Int} (e : Ex H H') (h : PrS H v x y) : PrS H' v x y := by
  obtain ⟨a, rfl, h⟩ := h
  exact ⟨a, rfl, e _ _ h⟩

/-! ### max and min of a tuple of two ints -/
section
variable {prog : Program} {w : World} {A : Around} {E : Value → Shared → Prop} {s : Shared} {l : Addr}
theorem max_tup2 {a b : Int} {t u : Tok} {Q : Value → Shared → Prop} (hh : A.handled = none) (hT : s.heap.IsTuple l #[.int a t, .int b u])
    (h : ∀ h' tk, (∀ c o, s.heap.get? c = some o → h'.get? c = some o) → Q (if b > a then .int b u else .int a t) { s with heap := h', toks := tk }) :
    wpAny (model prog w) A (call (.builtin "max") [.ref l]) Q E s := by
  have hlt : l < s.heap.objs.size := by obtain ⟨_, e, _⟩ := hT; exact Heap.lt_size e
  have e0 : (#[.int a t, .int b u] : Array Value) = intItems #[(a, t), (b, u)] := by simp [intItems]
  rw [e0] at hT
  refine call_max_walk (wpAny_pyIter_tuple hT ?_)
  refine ⟨_, [_, l], [_], _, _, _, _, rfl, Walks.tuple (A := A.in1) hh _ l (Nat.ne_of_lt hlt) (intItems #[(a, t), (b, u)]),
    ⟨⟨_, Heap.get?_push_size _ rfl, rfl, rfl⟩, hT.push _⟩, fun c hc => ?_, by simp [intItems], CmpOf.ints_gt (numAt #[(a, t), (b, u)]) (fun _ _ => intItems_at), fun v h' tk hP hk => ?_⟩
  · show c < (s.heap.push _).objs.size
    rw [Heap.size_push]
    rcases List.mem_cons.mp hc with rfl | hc
    · exact Nat.lt_succ_self _
    · rcases List.mem_cons.mp hc with rfl | hc
      · exact Nat.lt_succ_of_lt hlt
      · cases hc
  · have hold : ∀ c o, s.heap.get? c = some o → h'.get? c = some o := fun c o e => by
      refine hk c o (fun hm => ?_) (Heap.get?_push_of_some _ e)
      rcases List.mem_cons.mp hm with e1 | hm
      · have := Heap.lt_size e; rw [e1] at this; exact Nat.lt_irrefl _ this
      · cases hm
    have := h h' tk hold
    have hv : v = if b > a then Value.int b u else Value.int a t := by
      have hP' : (intItems #[(a, t), (b, u)])[argBest (fun i j => decide (numAt #[(a, t), (b, u)] i > numAt #[(a, t), (b, u)] j)) 1]? = some v := by
        have hsz2 : (intItems #[(a, t), (b, u)]).size - 1 = 1 := by simp [intItems]
        rw [← hsz2]; exact hP
      by_cases hba : b > a
      · have e : argBest (fun i j => decide (numAt #[(a, t), (b, u)] i > numAt #[(a, t), (b, u)] j)) 1 = 1 := by simp [argBest, numAt, hba]
        rw [e] at hP'
        simpa [intItems, hba] using hP'.symm
      · have e : argBest (fun i j => decide (numAt #[(a, t), (b, u)] i > numAt #[(a, t), (b, u)] j)) 1 = 0 := by simp [argBest, numAt, hba]
        rw [e] at hP'
        simpa [intItems, hba] using hP'.symm
    rw [hv]; exact this
theorem min_tup2 {a b : Int} {t u : Tok} {Q : Value → Shared → Prop} (hh : A.handled = none) (hT : s.heap.IsTuple l #[.int a t, .int b u])
    (h : ∀ h' tk, (∀ c o, s.heap.get? c = some o → h'.get? c = some o) → Q (if b < a then .int b u else .int a t) { s with heap := h', toks := tk }) :
    wpAny (model prog w) A (call (.builtin "min") [.ref l]) Q E s := by
  have hlt : l < s.heap.objs.size := by obtain ⟨_, e, _⟩ := hT; exact Heap.lt_size e
  have e0 : (#[.int a t, .int b u] : Array Value) = intItems #[(a, t), (b, u)] := by simp [intItems]
  rw [e0] at hT
  refine call_min_walk (wpAny_pyIter_tuple hT ?_)
  refine ⟨_, [_, l], [_], _, _, _, _, rfl, Walks.tuple (A := A.in1) hh _ l (Nat.ne_of_lt hlt) (intItems #[(a, t), (b, u)]),
    ⟨⟨_, Heap.get?_push_size _ rfl, rfl, rfl⟩, hT.push _⟩, fun c hc => ?_, by simp [intItems], CmpOf.ints_lt (numAt #[(a, t), (b, u)]) (fun _ _ => intItems_at), fun v h' tk hP hk => ?_⟩
  · show c < (s.heap.push _).objs.size
    rw [Heap.size_push]
    rcases List.mem_cons.mp hc with rfl | hc
    · exact Nat.lt_succ_self _
    · rcases List.mem_cons.mp hc with rfl | hc
      · exact Nat.lt_succ_of_lt hlt
      · cases hc
  · have hold : ∀ c o, s.heap.get? c = some o → h'.get? c = some o := fun c o e => by
      refine hk c o (fun hm => ?_) (Heap.get?_push_of_some _ e)
      rcases List.mem_cons.mp hm with e1 | hm
      · have := Heap.lt_size e; rw [e1] at this; exact Nat.lt_irrefl _ this
      · cases hm
    have := h h' tk hold
    have hv : v = if b < a then Value.int b u else Value.int a t := by
      have hP' : (intItems #[(a, t), (b, u)])[argBest (fun i j => decide (numAt #[(a, t), (b, u)] i < numAt #[(a, t), (b, u)] j)) 1]? = some v := by
        have hsz2 : (intItems #[(a, t), (b, u)]).size - 1 = 1 := by simp [intItems]
        rw [← hsz2]; exact hP
      by_cases hba : b < a
      · have e : argBest (fun i j => decide (numAt #[(a, t), (b, u)] i < numAt #[(a, t), (b, u)] j)) 1 = 1 := by simp [argBest, numAt, hba]
        rw [e] at hP'
        simpa [intItems, hba] using hP'.symm
      · have e : argBest (fun i j => decide (numAt #[(a, t), (b, u)] i < numAt #[(a, t), (b, u)] j)) 1 = 0 := by simp [argBest, numAt, hba]
        rw [e] at hP'
        simpa [intItems, hba] using hP'.symm
    rw [hv]; exact this
end
section
variable {X : Cx}
theorem Pr.get {pins : List (Addr × Obj)} {σ : L2.St} {H : Hp} {s : Shared} {v : V} {x y : Int} (I : Inv X pins σ H s) (h : Pr X.K H v x y) : ∃ a t u, v = .ref a ∧ s.heap.IsTuple a #[.int x t, .int y u] := by
  obtain ⟨a, rfl, hq⟩ := h
  obtain ⟨its, rv, ht, hz⟩ := I.tuple hq
  cases rv with
  | cons r1 rr =>
    cases rr with
    | cons r2 rr =>
      cases rr
      obtain ⟨t, rfl⟩ := r1
      obtain ⟨u, rfl⟩ := r2
      exact ⟨a, t, u, rfl, ht⟩
def rMaxT (K : PySem.W.Frag) : List V → Hp → VK → Prop := fun vs H Q => ∃ v x y, vs = [v] ∧ Pr K H v x y ∧ Q (.int (max x y)) H
def rMinT (K : PySem.W.Frag) : List V → Hp → VK → Prop := fun vs H Q => ∃ v x y, vs = [v] ∧ Pr K H v x y ∧ Q (.int (min x y)) H
def rMax2 : List V → Hp → VK → Prop := fun xs H Q => ∃ i j, xs = [.int i, .int j] ∧ Q (.int (max i j)) H
def rMin2 : List V → Hp → VK → Prop := fun xs H Q => ∃ i j, xs = [.int i, .int j] ∧ Q (.int (min i j)) H
theorem call_maxT (hc : X.calm = true) : CallR X (.builtin "max") (rMaxT X.K) := by
  intro pins s σ H xs us Q I r h
  obtain ⟨v, x, y, rfl, hp, q⟩ := h
  obtain ⟨a, t, u, rfl, ht⟩ := hp.get I
  cases r with
  | cons r rr =>
    cases rr
    obtain rfl : _ = Value.ref a := r
    refine max_tup2 (I.ok.hd hc) ht fun h' tk hk => ?_
    by_cases c : y > x
    · rw [if_pos c]
      exact ⟨.int (max x y), H, I.kept hk, ⟨u, by congr 1; omega⟩, q⟩
    · rw [if_neg c]
      exact ⟨.int (max x y), H, I.kept hk, ⟨t, by congr 1; omega⟩, q⟩
theorem call_minT (hc : X.calm = true) : CallR X (.builtin "min") (rMinT X.K) := by
  intro pins s σ H xs us Q I r h
  obtain ⟨v, x, y, rfl, hp, q⟩ := h
  obtain ⟨a, t, u, rfl, ht⟩ := hp.get I
  cases r with
  | cons r rr =>
    cases rr
    obtain rfl : _ = Value.ref a := r
    refine min_tup2 (I.ok.hd hc) ht fun h' tk hk => ?_
    by_cases c : y < x
    · rw [if_pos c]
      exact ⟨.int (min x y), H, I.kept hk, ⟨u, by congr 1; omega⟩, q⟩
    · rw [if_neg c]
      exact ⟨.int (min x y), H, I.kept hk, ⟨t, by congr 1; omega⟩, q⟩
theorem call_max2' (hc : X.calm = true) : CallR X (.builtin "max") rMax2 := by
  intro pins s σ H xs us Q I r h
  obtain ⟨i, j, e, q⟩ := h
  refine call_max2 hc pins s σ H xs us Q I r ⟨i, j, e, ?_⟩
  have e2 : (if j > i then j else i) = max i j := by omega
  rw [e2]; exact q
theorem call_min2' (hc : X.calm = true) : CallR X (.builtin "min") rMin2 := by
  intro pins s σ H xs us Q I r h
  obtain ⟨i, j, e, q⟩ := h
  refine call_min2 hc pins s σ H xs us Q I r ⟨i, j, e, ?_⟩
  have e2 : (if j < i then j else i) = min i j := by omega
  rw [e2]; exact q
end

/-! ### one step of a reading -/
section
variable {K : PySem.W.Frag} {σ : L2.St} {H : Hp} {Q : VK} {ta tb te tc : TE} {tr t : TA} {QA : List V → Hp → Prop} {D : Ends} {ts us : TS} {tt tu : TT} {v x y z : V} {r : R2} {i j : Int}
theorem d_var {i : Nat} (h : σ[i]? = some (some v)) (q : Q v H) : tVar i σ H Q := ⟨v, h, q⟩
theorem d_c (q : Q v H) : tC v σ H Q := q
theorem d_op (q : ta σ H fun x H1 => tb σ H1 fun y H2 => r x y H2 Q) : tOp r ta tb σ H Q := q
theorem d_un {r : V → Hp → VK → Prop} (q : ta σ H fun x H1 => r x H1 Q) : tUn r ta σ H Q := q
theorem d_rI0 {g : Int → Int → V} (q : Q (g i j) H) : rI0 g (.int i) (.int j) H Q := ⟨i, j, rfl, rfl, q⟩
theorem d_rI {C : Int → Int → Prop} {g : Int → Int → V} (hc : C i j) (q : Q (g i j) H) : rI C g (.int i) (.int j) H Q := ⟨i, j, rfl, rfl, hc, q⟩
theorem d_pow30 (q : Q (.int 1000000000000000000000000000000) H) : rI CPow (fun i j => .int (i ^ j.toNat)) (.int 10) (.int 30) H Q := ⟨10, 30, rfl, rfl, ⟨by decide, by decide, by decide⟩, q⟩
theorem d_pow20 (q : Q (.int 100000000000000000000) H) : rI CPow (fun i j => .int (i ^ j.toNat)) (.int 10) (.int 20) H Q := ⟨10, 20, rfl, rfl, ⟨by decide, by decide, by decide⟩, q⟩
theorem d_pow9 (q : Q (.int 1000000000) H) : rI CPow (fun i j => .int (i ^ j.toNat)) (.int 10) (.int 9) H Q := ⟨10, 9, rfl, rfl, ⟨by decide, by decide, by decide⟩, q⟩
theorem d_rU {g : Int → V} (q : Q (g i) H) : rU g (.int i) H Q := ⟨i, rfl, q⟩
theorem d_eq (h : scal x y = true) (q : Q (.bl (decide (x = y))) H) : rEq x y H Q := ⟨h, q⟩
theorem d_ne (h : scal x y = true) (q : Q (.bl (!decide (x = y))) H) : rNe x y H Q := ⟨h, q⟩
theorem d_eqI (q : Q (.bl (decide (i = j))) H) : rEq (.int i) (.int j) H Q := by
  have e : decide (V.int i = V.int j) = decide (i = j) := by simp
  exact ⟨rfl, by rw [e]; exact q⟩
theorem d_neI (q : Q (.bl (!decide (i = j))) H) : rNe (.int i) (.int j) H Q := by
  have e : decide (V.int i = V.int j) = decide (i = j) := by simp
  exact ⟨rfl, by rw [e]; exact q⟩
theorem d_eqS {i j : Str} (q : Q (.bl (decide (i = j))) H) : rEq (.str i) (.str j) H Q := by
  have e : decide (V.str i = V.str j) = decide (i = j) := by simp
  exact ⟨rfl, by rw [e]; exact q⟩
theorem d_neS {i j : Str} (q : Q (.bl (!decide (i = j))) H) : rNe (.str i) (.str j) H Q := by
  have e : decide (V.str i = V.str j) = decide (i = j) := by simp
  exact ⟨rfl, by rw [e]; exact q⟩
theorem d_eqB {i j : Bool} (q : Q (.bl (decide (i = j))) H) : rEq (.bl i) (.bl j) H Q := by
  have e : decide (V.bl i = V.bl j) = decide (i = j) := by simp
  exact ⟨rfl, by rw [e]; exact q⟩
theorem d_nil (q : QA [] H) : tNil σ H QA := q
theorem d_cons (q : ta σ H fun x H1 => tr σ H1 fun xs H2 => QA (x :: xs) H2) : tCons ta tr σ H QA := q
/-- a new tuple, a new list -/
def rNewT (xs : List V) (H : Hp) (Q : VK) : Prop := xs.length ≤ sizeLine ∧ ∀ p, H p = none → Q (.ref p) (upd H p (.tup xs))
def rNewL (xs : List V) (H : Hp) (Q : VK) : Prop := xs.length ≤ sizeLine ∧ ∀ p, H p = none → Q (.ref p) (upd H p (.lst xs))
theorem d_tup (q : t σ H fun xs H1 => rNewT xs H1 Q) : tTup t σ H Q := q
theorem d_lst (q : t σ H fun xs H1 => rNewL xs H1 Q) : tLst t σ H Q := q
theorem small_sz {xs : List V} (h : xs.length ≤ 1000) : xs.length ≤ sizeLine := sz_of (Nat.le_trans h (by decide))
theorem d_newP (q : ∀ v H2, Ex H H2 → PrS H2 v i j → Q v H2) : rNewT [.int i, .int j] H Q :=
  ⟨small_sz (by show 2 ≤ 1000; decide), fun p hp => q _ _ (Ex.new hp) ⟨p, rfl, upd_same⟩⟩
theorem d_newT {xs : List V} (hl : xs.length ≤ 1000) (q : ∀ p H2, H p = none → Ex H H2 → H2 p = some (.tup xs) → Q (.ref p) H2) : rNewT xs H Q := ⟨small_sz hl, fun p hp => q p _ hp (Ex.new hp) upd_same⟩
theorem d_newL {xs : List V} (hl : xs.length ≤ 1000) (q : ∀ p H2, H p = none → Ex H H2 → H2 p = some (.lst xs) → Q (.ref p) H2) : rNewL xs H Q := ⟨small_sz hl, fun p hp => q p _ hp (Ex.new hp) upd_same⟩
theorem d_call {sp : Sp} {E : XK} (q : t σ H fun vs H1 => sp vs H1 Q E) : tCall sp [] E t σ H Q := by
  show t σ H fun vs H1 => sp (vs ++ []) H1 Q E
  simp only [List.append_nil]
  exact q
theorem d_cb {r : List V → Hp → VK → Prop} (q : t σ H fun vs H1 => r vs H1 Q) : tCB r t σ H Q := q
theorem d_maxT (h : Pr K H v i j) (q : Q (.int (max i j)) H) : rMaxT K [v] H Q := ⟨v, i, j, rfl, h, q⟩
theorem d_minT (h : Pr K H v i j) (q : Q (.int (min i j)) H) : rMinT K [v] H Q := ⟨v, i, j, rfl, h, q⟩
theorem d_max2 (q : Q (.int (max i j)) H) : rMax2 [.int i, .int j] H Q := ⟨i, j, rfl, q⟩
theorem d_min2 (q : Q (.int (min i j)) H) : rMin2 [.int i, .int j] H Q := ⟨i, j, rfl, q⟩
theorem d_ixP0 (h : Pr K H v i j) (q : Q (.int i) H) : rIxT K v (.int 0) H Q := by
  obtain ⟨a, rfl, h⟩ := h
  exact ⟨a, _, 0, _, rfl, rfl, h, rfl, q⟩
theorem d_ixP1 (h : Pr K H v i j) (q : Q (.int j) H) : rIxT K v (.int 1) H Q := by
  obtain ⟨a, rfl, h⟩ := h
  exact ⟨a, _, 1, _, rfl, rfl, h, rfl, q⟩
theorem d_ixL {p : Addr} {xs : List V} (h : SqL K H p xs) (ha : atI xs i = some v) (q : Q v H) : rIxL K (.ref p) (.int i) H Q := ⟨p, xs, i, v, rfl, rfl, h, ha, q⟩
theorem d_ixT {p : Addr} {xs : List V} (h : SqT K H p xs) (ha : atI xs i = some v) (q : Q v H) : rIxT K (.ref p) (.int i) H Q := ⟨p, xs, i, v, rfl, rfl, h, ha, q⟩
theorem d_len {p : Addr} {xs : List V} (h : SqL K H p xs) (q : Q (.int (xs.length : Int)) H) : rLenS K [.ref p] H Q := ⟨p, xs, rfl, .inl h, q⟩
theorem d_sum {p : Addr} {ns : List Int} (h : SqL K H p (ns.map V.int)) (q : Q (.int ns.sum) H) : rSum K [.ref p] H Q := ⟨p, ns, rfl, h, q⟩
theorem d_ev (h : Ev te σ H v) (q : ∀ H1, Ex H H1 → Q v H1) : te σ H Q := h H (Ex.refl H) Q q
theorem d_ifE {b : Bool} (h : EvT tt σ H b) (h1 : b = true → ∀ H1, Ex H H1 → ta σ H1 Q) (h0 : b = false → ∀ H1, Ex H H1 → tb σ H1 Q) : tIf tt ta tb σ H Q := h H (Ex.refl H) _ fun H1 e1 => by
  cases b with
  | true => exact h1 rfl H1 e1
  | false => exact h0 rfl H1 e1
/-- a chain of two comparisons of ints -/
theorem ev_chain {f g : Int → Int → Bool} {a b c : Int} (h1 : Ev ta σ H (.int a)) (h2 : Ev tb σ H (.int b)) (h3 : Ev tc σ H (.int c)) : Ev (tChain (rI0 fun i j => .bl (f i j)) (rI0 fun i j => .bl (g i j)) ta tb tc) σ H (.bl (f a b && g b c)) := fun H1 e Q q =>
  h1 H1 e _ fun H2 e2 => h2 H2 (e.trans e2) _ fun H3 e3 => ⟨a, b, rfl, rfl, f a b, rfl, by
    cases hf : f a b with
    | true =>
      rw [if_pos rfl]
      exact h3 H3 ((e.trans e2).trans e3) _ fun H4 e4 => ⟨b, c, rfl, rfl, by rw [hf, Bool.true_and] at q; exact q H4 ((e2.trans e3).trans e4)⟩
    | false =>
      rw [if_neg Bool.false_ne_true]
      rw [hf, Bool.false_and] at q
      exact q H3 (e2.trans e3)⟩
/-- statements -/
theorem d_seq (q : ts { D with nx := us D } σ H) : tSeq ts us D σ H := q
theorem d_asg {i : Nat} (q : te σ H fun x H1 => D.nx (σ.set i (some x)) H1) : tAsg te (gName i) D σ H := q
theorem d_gName {i : Nat} {v : V} {Q : L2.St → Hp → Prop} (q : Q (σ.set i (some v)) H) : gName i v σ H Q := q
theorem d_asgG {g : TG} (q : te σ H fun x H1 => g x σ H1 D.nx) : tAsg te g D σ H := q
theorem d_gTupP {i j : Nat} {x y : Int} {Q : L2.St → Hp → Prop} (h : Pr K H v x y) (q : Q ((σ.set i (some (.int x))).set j (some (.int y))) H) : gTup K 2 (gCons (gName i) (gCons (gName j) gNil)) v σ H Q := by
  obtain ⟨a, rfl, h⟩ := h
  exact ⟨a, _, rfl, h, rfl, _, _, rfl, _, _, rfl, rfl, q⟩
theorem d_gTup2 {i j : Nat} {p : Addr} {x y : V} {Q : L2.St → Hp → Prop} (h : SqT K H p [x, y]) (q : Q ((σ.set i (some x)).set j (some y)) H) : gTup K 2 (gCons (gName i) (gCons (gName j) gNil)) (.ref p) σ H Q := ⟨p, _, rfl, h, rfl, _, _, rfl, _, _, rfl, rfl, q⟩
theorem d_ret (q : te σ H D.rt) : tRet te D σ H := q
theorem d_retN (q : D.rt .non H) : tRetN D σ H := q
theorem d_drop (q : te σ H fun _ H1 => D.nx σ H1) : tDrop te D σ H := q
theorem d_next (q : D.nx σ H) : tNext D σ H := q
theorem d_if {b : Bool} (h : EvT tt σ H b) (h1 : b = true → ∀ H1, Ex H H1 → ts D σ H1) (h0 : b = false → ∀ H1, Ex H H1 → us D σ H1) : tIfS tt ts us D σ H := s_if h h1 h0
def rPar (i j : Nat) (D : Ends) (σ : L2.St) (vs : List V) (H : Hp) : Prop := ∃ v w, vs = [v, w] ∧ D.nx ((σ.set i (some v)).set j (some w)) H
theorem d_par {i j : Nat} (q : t σ H (rPar i j D σ)) : tPar i j t D σ H := q
theorem d_rPar {i j : Nat} (q : D.nx ((σ.set i (some x)).set j (some y)) H) : rPar i j D σ [x, y] H := ⟨x, y, rfl, q⟩
theorem ev_intro (h : ∀ H1, Ex H H1 → ∀ Q : VK, (∀ H2, Ex H1 H2 → Q v H2) → te σ H1 Q) : Ev te σ H v := h
end

/-! ### defs by name -/
/-- the def of the text st stands behind the top under its name -/
def Df (K : PySem.W.Frag) (mg : Str → Option Value) (x : Str) (st : Stmt) : Prop := ∃ f fd, L2.Fun K x x st f fd ∧ mg x = some (.ref f)
/-- a def that may be called by its name and keeps sp; nothing is raised -/
def Cl (P : Program) (w : World) (K : PySem.W.Frag) (mg : Str → Option Value) (base : Heap) (k : Nat) (x : Str) (sp : Sp) : Prop :=
  ∃ f fd ps, FnOk P w K mg base CX0 k f fd ps sp ∧ mg x = some (.ref f) ∧ PySem.W.keepIn K (.ref f) = true ∧ Binds K fd ps []
section
variable {P : Program} {w : World} {K : PySem.W.Frag} {mg : Str → Option Value} {base : Heap}
theorem cl_of {x : Str} {st : Stmt} {N ps : List Str} {k : Nat} {sp : Sp} (F : Df K mg x st)
    (hb : ∀ (kV doc pm : Value) (an : Option Addr) (cdv ct : Value) (us : List Value), us.length = ps.length → bindArgs (PySem.W.fnOf x x (defArgs st) (defBody st) (defScope st) .none kV doc pm an cdv ct) ⟨us, []⟩ = pure (ps.zip us))
    (S : FnScope N ps (defScope st)) (len : ∀ vs H Q E, sp vs H Q E → vs.length = ps.length)
    (hbody : ∀ (f : Addr) (cdv : Value) (A : Around) (outer : List Env) (s : Shared) (H : Hp) (vs : List V) (Q : VK) (E : XK), Room k (A.deeper (envOfC x (defScope st) s.heap.objs.size f cdv)) → sp vs H Q E →
      ∃ t, PSs (cxOf CX0 P w K mg base N x (defScope st) f cdv A outer s H E).nox (defBody st) t ∧ t { nx := fun _ H' => Q .non H', rt := Q } (start N vs) H) : Cl P w K mg base (k + 1) x sp := by
  obtain ⟨f, fd, F, hm⟩ := F
  exact ⟨f, fd, ps, F.ok S len (hbody f), hm, F.kp, F.binds hb⟩
end
section
variable {X : Cx} {k j : Nat} {x : Str} {sp : Sp} {p pos : Pos} {e : Expr} {es : List Expr} {t : TA}
theorem pe_cl (c : Cl X.prog X.w X.K X.mg X.base k x sp) (hr : Room j X.A) (hk : k ≤ j) (hg : Gl X x) (ha : PA X (e :: es) t)
    (hdb : (x == ("__debug__" : Str)) = false := by decide) (he : starEach (e :: es) X.env = (false, eval e X.env) :: starEach es X.env := by rfl) (hpl : (backTo pos (starEach es X.env)).any (·.1) = false := by rfl) :
    PE X (.Call (.Name x p) (e :: es) [] pos) (tCall sp [] E0 t) := by
  obtain ⟨f, fd, ps, F, hm, kp, b⟩ := c
  exact pe_call F (hr.mono hk) hg hm kp b .nil pass0 ha hdb he hpl
/-- a constant of the module -/
theorem pe_gc {v : V} (hg : Gl X x) (h : ∃ u, X.mg x = some u ∧ RelV v u) (hd : (x == ("__debug__" : Str)) = false := by decide) : PE X (.Name x pos) (tC v) := by
  obtain ⟨u, hm, r⟩ := h
  exact pe_glob hg hm r hd
theorem call_lenL : CallR X (.builtin "len") (rLenS X.K) := call_len_seq
/-- is None -/
def rIsNn : R2 := fun x y H Q => y = .non ∧ Q (.bl (decide (x = .non))) H
def rNotNn : R2 := fun x y H Q => y = .non ∧ Q (.bl (!decide (x = .non))) H
theorem op_isNn : OpR X (compareOp .Is) rIsNn := op_isN
theorem op_notNn : OpR X (compareOp .IsNot) rNotNn := op_notN
def rIntB : List V → Hp → VK → Prop := fun vs H Q => ∃ k, vs = [.bl k] ∧ Q (.int (if k then 1 else 0)) H
theorem call_intB : CallR X (.type "int") rIntB := by
  intro pins s σ H xs us Q I r h
  exact call_int1 pins s σ H xs us Q I r (.inr h)
end
section
variable {K : PySem.W.Frag} {σ : L2.St} {H : Hp} {Q : VK}
theorem d_isNn {x : V} (q : Q (.bl (decide (x = .non))) H) : rIsNn x .non H Q := ⟨rfl, q⟩
theorem d_notNn {x : V} (q : Q (.bl (!decide (x = .non))) H) : rNotNn x .non H Q := ⟨rfl, q⟩
theorem d_intB {b : Bool} (q : Q (.int (if b then 1 else 0)) H) : rIntB [.bl b] H Q := ⟨b, rfl, q⟩
theorem d_isi {x : V} {n : String} {m : String} {b : Bool} (ty : TyX K H x (.type m)) (e : kitB m n = some b) (q : Q (.bl b) H) : rIsi K [x, .ty n] H Q := ⟨x, .ty n, _, _, b, rfl, .ty n, ty, kit_ty e, q⟩
theorem k_ii : kitB "int" "int" = some true := by decide +kernel
theorem k_ib : kitB "int" "bool" = some false := by decide +kernel
theorem k_bb : kitB "bool" "bool" = some true := by decide +kernel
theorem k_ll : kitB "list" "list" = some true := by decide +kernel
theorem k_tt : kitB "tuple" "tuple" = some true := by decide +kernel
theorem k_ss : kitB "str" "str" = some true := by decide +kernel
theorem k_ls : kitB "list" "str" = some false := by decide +kernel
theorem ty_int {i : Int} : TyX K H (.int i) (.type "int") := .base (.int i)
theorem ty_bl {i : Bool} : TyX K H (.bl i) (.type "bool") := .base (.bl i)
theorem ty_str {i : Str} : TyX K H (.str i) (.type "str") := .base (.str i)
theorem ty_non : TyX K H .non (.type "NoneType") := .base .non
theorem ty_list {p : Addr} {xs : List V} (h : SqL K H p xs) : TyX K H (.ref p) (.type "list") := by
  rcases h with (h | ⟨o, h⟩) | ⟨o, its, n, hk, hc, _⟩
  · exact .base (.lst h)
  · exact .base (.frz h)
  · exact .kList hk hc
theorem ty_tup {p : Addr} {xs : List V} (h : SqT K H p xs) : TyX K H (.ref p) (.type "tuple") := by
  rcases h with (h | ⟨o, h⟩) | ⟨o, its, n, hk, hc, _⟩
  · exact .base (.tup h)
  · exact .fTuple h
  · exact .kTuple hk hc
theorem ty_pr {v : V} {x y : Int} (h : Pr K H v x y) : TyX K H v (.type "tuple") := by
  obtain ⟨a, rfl, h⟩ := h
  exact ty_tup h
end
/-- a pile that may stand -/
def Gd (x : Int) : Prop := 1 ≤ x ∧ x ≤ 1000000000000000000000000000000
theorem divW {i j : Int} (h : 0 < j) (h2 : j ≤ 10000000000000000000000000000000000000000000000000000000000000000000000) : CDivW i j :=
  wide_div (b := 300) h (by have e : (10000000000000000000000000000000000000000000000000000000000000000000000 : Int) ≤ 2 ^ 300 := by decide
                            omega) (by decide) (by decide)
theorem mulW {i j : Int} (h : -10000000000000000000000000000000000000000000000000000000000000000000000 ≤ i ∧ i ≤ 10000000000000000000000000000000000000000000000000000000000000000000000)
    (h2 : -10000000000000000000000000000000000000000000000000000000000000000000000 ≤ j ∧ j ≤ 10000000000000000000000000000000000000000000000000000000000000000000000) : CMulW i j :=
  wide_mul (a := 300) (b := 300) (by have e : (10000000000000000000000000000000000000000000000000000000000000000000000 : Int) < 2 ^ 300 := by decide
                                     omega) (by have e : (10000000000000000000000000000000000000000000000000000000000000000000000 : Int) < 2 ^ 300 := by decide
                                                omega) (by decide) (by decide) (by decide)

/-! ### loops, lists that are the def's own -/
def Exb (l : Addr) (H H2 : Hp) : Prop := ∀ b o, H b = some o → b ≠ l → H2 b = some o
theorem Exb.base {l : Addr} {H0 H H2 : Hp} (b : Exb l H H2) (h0 : H0 l = none) (e : Ex H0 H) : Ex H0 H2 := fun a o h => b a o (e a o h) (ne_of_none h h0)
theorem Exb.upd {l : Addr} {H : Hp} {o : HO} : Exb l H (upd H l o) := fun b u h n => by rw [upd_ne n]; exact h
theorem Ex.at {H H' : Hp} {l : Addr} {o : HO} (e : Ex H H') (h : H l = some o) : H' l = some o := e l o h
theorem Exb.rdT {l : Addr} {H H2 : Hp} {xs ys : List V} {a : Addr} (b : Exb l H H2) (h : H l = some (.lst xs)) (r : Rd H a (.tup ys)) : Rd H2 a (.tup ys) := by
  rcases r with r | ⟨o, r⟩
  · exact .inl (b a _ r (ne_of r h (by intro z; cases z)))
  · exact .inr ⟨o, b a _ r (ne_of r h (by intro z; cases z))⟩
theorem Exb.tup {K : PySem.W.Frag} {l : Addr} {H H2 : Hp} {xs ys : List V} {a : Addr} (b : Exb l H H2) (h : H l = some (.lst xs)) (r : SqT K H a ys) : SqT K H2 a ys := by
  rcases r with r | r
  · exact .inl (b.rdT h r)
  · exact .inr r
theorem Exb.pr {K : PySem.W.Frag} {l : Addr} {H H2 : Hp} {xs : List V} {v : V} {x y : Int} (b : Exb l H H2) (h : H l = some (.lst xs)) (r : Pr K H v x y) : Pr K H2 v x y := by
  obtain ⟨a, rfl, r⟩ := r
  exact ⟨a, rfl, b.tup h r⟩
section
variable {K : PySem.W.Frag} {σ : L2.St} {H : Hp} {Q : VK} {te : TE} {D : Ends} {ts us : TS} {tt : TT} {v : V} {l : Addr}
def rBmL (K : PySem.W.Frag) (r : V → List V → Hp → VK → Prop) (t : TA) (σ : L2.St) (x : V) (H : Hp) (Q : VK) : Prop := tyV K "list" x H ∧ t σ H fun xs H2 => r x xs H2 Q
theorem d_bmL {r : V → List V → Hp → VK → Prop} {t : TA} (q : te σ H fun x H1 => rBmL K r t σ x H1 Q) : tBM K "list" r te t σ H Q := q
theorem d_rBmL {r : V → List V → Hp → VK → Prop} {t : TA} {p : Addr} {xs : List V} (h : SqL K H p xs) (q : t σ H fun ys H2 => r (.ref p) ys H2 Q) : rBmL K r t σ (.ref p) H Q := ⟨.inl ⟨rfl, xs, h⟩, q⟩
theorem d_append {xs : List V} (hl : H l = some (.lst xs)) (hn : xs.length < sizeLine) (q : ∀ H2, Exb l H H2 → H2 l = some (.lst (xs ++ [v])) → Q .non H2) : rAppend (.ref l) [v] H Q :=
  ⟨l, xs, v, rfl, rfl, hl, hn, q _ Exb.upd upd_same⟩
theorem at_int {ns : List Int} {i : Nat} {n : Int} (h : ns[i]? = some n) : atI (ns.map V.int) (i : Int) = some (.int n) := atI_nat (by rw [List.getElem?_map, h]; rfl)
theorem d_while (W : Nat → L2.St → Hp → Prop) (m0 : Nat) (h0 : W m0 σ H) (hs : ∀ m σ' H', W m σ' H' → ∃ b, EvT tt σ' H' b ∧
    (b = true → ∀ H1, Ex H' H1 → ts { D with nx := fun σ2 H2 => ∃ m', m' < m ∧ W m' σ2 H2, ct := fun σ2 H2 => ∃ m', m' < m ∧ W m' σ2 H2, bk := D.nx } σ' H1) ∧ (b = false → ∀ H1, Ex H' H1 → D.nx σ' H1)) : tWhile tt ts D σ H :=
  s_while W m0 h0 fun m σ' H' w => by
    obtain ⟨b, h1, h2, h3⟩ := hs m σ' H' w
    exact ⟨b, h1, fun e H1 e1 => ⟨_, fun _ _ z => z, h2 e H1 e1⟩, h3⟩
theorem d_for1 {ta : TA} {j : Nat} {n : Int} (h : EvA ta σ H [.int n]) (hn : 0 ≤ n ∧ n ≤ 100000) (Pv : Nat → L2.St → Hp → Prop) (h0 : ∀ H1, Ex H H1 → Pv 0 σ H1)
    (hs : ∀ (i : Nat) σ' H', (i : Int) < n → Pv i σ' H' → ts { D with nx := Pv (i + 1), ct := Pv (i + 1), bk := D.nx } (σ'.set j (some (.int (i : Int)))) H') (hd : ∀ σ' H', Pv n.toNat σ' H' → D.nx σ' H') : tFor (iRng1 ta) (gName j) ts D σ H :=
  s_forR1 h hn Pv h0 hs hd
end

/-! ### tables -/
section
variable {K : PySem.W.Frag} {H H' : Hp}
def Prs (K : PySem.W.Frag) (H : Hp) : List V → List (Int × Int) → Prop
  | [], [] => True
  | w :: ws, p :: ps => Pr K H w p.1 p.2 ∧ Prs K H ws ps
  | _, _ => False
theorem Prs.len : ∀ {ws : List V} {ps : List (Int × Int)}, Prs K H ws ps → ws.length = ps.length
  | [], [], _ => rfl
  | _ :: ws, _ :: ps, h => by rw [List.length_cons, List.length_cons, Prs.len h.2]
  | [], _ :: _, h => h.elim
  | _ :: _, [], h => h.elim
theorem Prs.imp (f : ∀ w x y, Pr K H w x y → Pr K H' w x y) : ∀ {ws : List V} {ps : List (Int × Int)}, Prs K H ws ps → Prs K H' ws ps
  | [], [], _ => trivial
  | _ :: ws, _ :: ps, h => ⟨f _ _ _ h.1, Prs.imp f h.2⟩
  | [], _ :: _, h => h.elim
  | _ :: _, [], h => h.elim
theorem Prs.mono {ws : List V} {ps : List (Int × Int)} (e : Ex H H') (h : Prs K H ws ps) : Prs K H' ws ps := h.imp fun _ _ _ q => q.mono e
theorem Prs.exb {l : Addr} {xs ws : List V} {ps : List (Int × Int)} (b : Exb l H H') (hl : H l = some (.lst xs)) (h : Prs K H ws ps) : Prs K H' ws ps := h.imp fun _ _ _ q => b.pr hl q
theorem Prs.get : ∀ {ws : List V} {ps : List (Int × Int)} {i : Nat} {w : V}, Prs K H ws ps → ws[i]? = some w → ∃ p, ps[i]? = some p ∧ Pr K H w p.1 p.2
  | w :: ws, p :: ps, 0, v, h, e => by
    have e : w = v := Option.some.inj e
    subst e
    exact ⟨p, rfl, h.1⟩
  | w :: ws, p :: ps, i + 1, v, h, e => Prs.get (i := i) h.2 e
  | [], [], i, v, h, e => by simp at e
  | [], _ :: _, _, _, h, _ => h.elim
  | _ :: _, [], _, _, h, _ => h.elim
theorem Prs.at {ws : List V} {ps : List (Int × Int)} {i : Nat} {p : Int × Int} (h : Prs K H ws ps) (e : ps[i]? = some p) : ∃ w, ws[i]? = some w ∧ Pr K H w p.1 p.2 := by
  have hl := (List.getElem?_eq_some_iff.mp e).1
  have e2 : ws[i]? = some (ws[i]'(by rw [h.len]; exact hl)) := List.getElem?_eq_getElem _
  obtain ⟨q, e3, h3⟩ := h.get e2
  rw [e] at e3
  cases e3
  exact ⟨_, e2, h3⟩
theorem Prs.app : ∀ {ws us : List V} {ps qs : List (Int × Int)}, Prs K H ws ps → Prs K H us qs → Prs K H (ws ++ us) (ps ++ qs)
  | [], _, [], _, _, g => g
  | _ :: ws, _, _ :: ps, _, h, g => ⟨h.1, Prs.app h.2 g⟩
  | [], _, _ :: _, _, h, _ => h.elim
  | _ :: _, _, [], _, h, _ => h.elim
theorem Prs.one {w : V} {x y : Int} (h : Pr K H w x y) : Prs K H [w] [(x, y)] := ⟨h, trivial⟩
theorem Prs.take : ∀ (n : Nat) {ws : List V} {ps : List (Int × Int)}, Prs K H ws ps → Prs K H (ws.take n) (ps.take n)
  | 0, _, _, _ => trivial
  | n + 1, [], [], _ => trivial
  | n + 1, _ :: ws, _ :: ps, h => ⟨h.1, Prs.take n h.2⟩
  | _ + 1, [], _ :: _, h => h.elim
  | _ + 1, _ :: _, [], h => h.elim
theorem Prs.drop : ∀ (n : Nat) {ws : List V} {ps : List (Int × Int)}, Prs K H ws ps → Prs K H (ws.drop n) (ps.drop n)
  | 0, _, _, h => h
  | n + 1, [], [], _ => trivial
  | n + 1, _ :: ws, _ :: ps, h => Prs.drop n h.2
  | _ + 1, [], _ :: _, h => h.elim
  | _ + 1, _ :: _, [], h => h.elim
theorem Prs.set : ∀ {ws : List V} {ps : List (Int × Int)} (i : Nat) {w : V} {p : Int × Int}, Prs K H ws ps → Pr K H w p.1 p.2 → Prs K H (ws.set i w) (ps.set i p)
  | [], [], _, _, _, _, _ => trivial
  | _ :: ws, _ :: ps, 0, _, _, h, g => ⟨g, h.2⟩
  | _ :: ws, _ :: ps, i + 1, _, _, h, g => ⟨h.1, Prs.set i h.2 g⟩
  | [], _ :: _, _, _, _, h, _ => h.elim
  | _ :: _, [], _, _, _, h, _ => h.elim
/-- v is a list of pairs -/
def Tb (K : PySem.W.Frag) (H : Hp) (v : V) (T : List (Int × Int)) : Prop := ∃ a ws, v = .ref a ∧ SqL K H a ws ∧ Prs K H ws T
theorem Tb.mono {v : V} {T : List (Int × Int)} (e : Ex H H') (h : Tb K H v T) : Tb K H' v T := by
  obtain ⟨a, ws, rfl, h1, h2⟩ := h
  exact ⟨a, ws, rfl, ex_l e h1, h2.mono e⟩
def GdT (T : List (Int × Int)) : Prop := ∀ p ∈ T, Gd p.1 ∧ Gd p.2
theorem GdT.take {T : List (Int × Int)} (g : GdT T) (n : Nat) : GdT (T.take n) := fun p hp => g p (List.mem_of_mem_take hp)

/-! ### == of pairs and tables -/
def dP (p : Int × Int) : PyData := .tuple [.int p.1, .int p.2]
def dT (T : List (Int × Int)) : PyData := .list (T.map dP)
theorem Pr.dp {v : V} {x y : Int} (h : Pr K H v x y) : Dp K H v (dP (x, y)) := by
  obtain ⟨a, rfl, h⟩ := h
  exact .tup h (.cons (.int x) (.cons (.int y) .nil))
theorem Prs.dp : ∀ {ws : List V} {ps : List (Int × Int)}, Prs K H ws ps → DpAll K H ws (ps.map dP)
  | [], [], _ => .nil
  | _ :: ws, _ :: ps, h => .cons h.1.dp (Prs.dp h.2)
  | [], _ :: _, h => h.elim
  | _ :: _, [], h => h.elim
theorem Tb.dp {v : V} {T : List (Int × Int)} (h : Tb K H v T) : Dp K H v (dT T) := by
  obtain ⟨a, ws, rfl, h1, h2⟩ := h
  exact .lst h1 h2.dp
theorem dP_shaped (p : Int × Int) : SeqAt.shaped (dP p) = true := rfl
theorem dPs_lay : ∀ T : List (Int × Int), PyData.canLayAll0 (T.map dP) = true
  | [] => rfl
  | p :: T => by
    show (PyData.canLay0 (dP p) && PyData.canLayAll0 (T.map dP)) = true
    rw [dPs_lay T]
    rfl
theorem dPs_depth : ∀ T : List (Int × Int), PyData.depthAll (T.map dP) ≤ 1
  | [] => Nat.zero_le _
  | p :: T => by
    show max (PyData.depth (dP p)) (PyData.depthAll (T.map dP)) ≤ 1
    have := dPs_depth T
    have e : PyData.depth (dP p) = 1 := rfl
    omega
theorem dT_shaped (T : List (Int × Int)) : SeqAt.shaped (dT T) = true := by
  have h1 : PyData.canLay0 (dT T) = true := dPs_lay T
  have h2 : PyData.depth (dT T) ≤ 64 := by
    show PyData.depthAll (T.map dP) + 1 ≤ 64
    have := dPs_depth T
    omega
  unfold SeqAt.shaped
  rw [h1, decide_eq_true h2]
  rfl
theorem dP_eqv (p q : Int × Int) : PyData.eqv (dP p) (dP q) = decide (p = q) := by
  show ((p.1 == q.1) && ((p.2 == q.2) && true)) = _
  rw [Bool.and_true, Bool.eq_iff_iff]
  simp [Prod.ext_iff]
theorem dPs_eqv : ∀ T U : List (Int × Int), PyData.eqvAll (T.map dP) (U.map dP) = decide (T = U)
  | [], [] => rfl
  | p :: T, q :: U => by
    show (PyData.eqv (dP p) (dP q) && PyData.eqvAll (T.map dP) (U.map dP)) = _
    rw [dP_eqv, dPs_eqv T U, Bool.eq_iff_iff]
    simp
  | [], _ :: _ => by
    show false = _
    simp
  | _ :: _, [] => by
    show false = _
    simp
variable {Q : VK}
theorem d_eqP {v u : V} {x y x' y' : Int} (h : Pr K H v x y) (h' : Pr K H u x' y') (q : Q (.bl (decide ((x, y) = (x', y')))) H) : rEqD K v u H Q := ⟨_, _, h.dp, h'.dp, dP_shaped _, dP_shaped _, by rw [dP_eqv]; exact q⟩
theorem d_neP {v u : V} {x y x' y' : Int} (h : Pr K H v x y) (h' : Pr K H u x' y') (q : Q (.bl (!decide ((x, y) = (x', y')))) H) : rNeD K v u H Q := ⟨_, _, h.dp, h'.dp, dP_shaped _, dP_shaped _, by rw [dP_eqv]; exact q⟩
theorem d_eqT {v u : V} {T U : List (Int × Int)} (h : Tb K H v T) (h' : Tb K H u U) (q : Q (.bl (decide (T = U))) H) : rEqD K v u H Q := ⟨_, _, h.dp, h'.dp, dT_shaped _, dT_shaped _, by
  have e : PyData.eqv (dT T) (dT U) = decide (T = U) := dPs_eqv T U
  rw [e]; exact q⟩
theorem d_neT {v u : V} {T U : List (Int × Int)} (h : Tb K H v T) (h' : Tb K H u U) (q : Q (.bl (!decide (T = U))) H) : rNeD K v u H Q := ⟨_, _, h.dp, h'.dp, dT_shaped _, dT_shaped _, by
  have e : PyData.eqv (dT T) (dT U) = decide (T = U) := dPs_eqv T U
  rw [e]; exact q⟩
end
section
variable {X : Cx}
/-- list(xs): a new list -/
def rListN (K : PySem.W.Frag) : List V → Hp → VK → Prop := fun vs H Q => ∃ p ys, vs = [.ref p] ∧ SqL K H p ys ∧ ∀ l, H l = none → Q (.ref l) (upd H l (.lst ys))
theorem call_listS : CallR X (.type "list") (rListN X.K) := by
  intro pins s σ H xs us Q I r h
  obtain ⟨p, ys, e, h, q⟩ := h
  exact call_list_of pins s σ H xs us Q I r ⟨p, ys, e, .inl h, q⟩
end
section
variable {K : PySem.W.Frag} {σ : L2.St} {H : Hp} {Q : VK} {te tl : TE} {D : Ends} {ts us : TS} {tt : TT} {v : V} {l : Addr}
theorem d_listT {v : V} {T : List (Int × Int)} (h : Tb K H v T) (q : ∀ p H2 ws, H p = none → Ex H H2 → H2 p = some (.lst ws) → Prs K H2 ws T → Tb K H2 (.ref p) T → Q (.ref p) H2) : rListN K [v] H Q := by
  obtain ⟨a, ws, rfl, h1, h2⟩ := h
  exact ⟨a, ws, rfl, h1, fun l hl => q l _ ws hl (Ex.new hl) upd_same (h2.mono (Ex.new hl)) ⟨l, ws, rfl, sq_of upd_same, h2.mono (Ex.new hl)⟩⟩
theorem d_listL {p : Addr} {ys : List V} (h : SqL K H p ys) (q : ∀ p H2, H p = none → Ex H H2 → H2 p = some (.lst ys) → Q (.ref p) H2) : rListN K [.ref p] H Q := ⟨p, ys, rfl, h, fun l hl => q l _ hl (Ex.new hl) upd_same⟩
theorem d_lenT {v : V} {T : List (Int × Int)} (h : Tb K H v T) (q : Q (.int (T.length : Int)) H) : rLenS K [v] H Q := by
  obtain ⟨a, ws, rfl, h1, h2⟩ := h
  rw [← h2.len] at q
  exact ⟨a, ws, rfl, .inl h1, q⟩
theorem d_ixTb {v : V} {T : List (Int × Int)} {i : Nat} {p : Int × Int} (h : Tb K H v T) (hi : T[i]? = some p) (q : ∀ w, Pr K H w p.1 p.2 → Q w H) : rIxL K v (.int (i : Int)) H Q := by
  obtain ⟨a, ws, rfl, h1, h2⟩ := h
  obtain ⟨w, e, h3⟩ := h2.at hi
  exact ⟨a, ws, i, w, rfl, rfl, h1, atI_nat e, q w h3⟩
/-- for over a table -/
theorem d_forT {T : List (Int × Int)} {j : Nat} (h : Ev tl σ H v) (hT : Tb K H v T) (Pv : Nat → L2.St → Hp → Prop) (h0 : ∀ H1, Ex H H1 → Pv 0 σ H1) (hl : ∀ i σ' H', Pv i σ' H' → Ex H H')
    (hs : ∀ i w p σ' H', T[i]? = some p → Pr K H' w p.1 p.2 → Pv i σ' H' → ts { D with nx := Pv (i + 1), ct := Pv (i + 1), bk := D.nx } (σ'.set j (some w)) H') (hd : ∀ σ' H', Pv T.length σ' H' → D.nx σ' H') : tFor (iList K tl) (gName j) ts D σ H := by
  obtain ⟨a, ws, rfl, h1, h2⟩ := hT
  refine s_forL (xs := ws) h h1 Pv h0 (fun i σ' H' _ p => ex_l (hl i σ' H' p) h1) (fun i w σ' H' e p => ?_) (fun σ' H' p => hd σ' H' (by rw [← h2.len]; exact p))
  obtain ⟨q, e2, h3⟩ := h2.get e
  exact hs i w q σ' H' e2 (h3.mono (hl i σ' H' p)) p
/-- for over a tuple that is made on the way -/
theorem d_forU {xs : List V} {j : Nat} (h : EvU tl σ H xs) (Pv : Hp → Nat → L2.St → Hp → Prop) (h0 : ∀ H1, Ex H H1 → Pv H1 0 σ H1) (hl : ∀ H1 i σ' H', Pv H1 i σ' H' → Ex H1 H')
    (hs : ∀ H1 i x σ' H', Ex H H1 → xs[i]? = some x → Pv H1 i σ' H' → ts { D with nx := Pv H1 (i + 1), ct := Pv H1 (i + 1), bk := D.nx } (σ'.set j (some x)) H') (hd : ∀ H1 σ' H', Ex H H1 → Pv H1 xs.length σ' H' → D.nx σ' H') : tFor (iTup K tl) (gName j) ts D σ H :=
  h H (Ex.refl H) _ fun p H1 hp e h1 => ⟨p, rfl, ⟨xs, st_of h1⟩, for_tup (Pv H1) (h0 H1 e) (fun i σ' H' _ q => ex_t (hl H1 i σ' H' q) (st_of h1)) (fun i x σ' H' hx q => hs H1 i x σ' H' e hx q) (fun σ' H' q => hd H1 σ' H' e q)⟩
/-- an expression whose value is told by R -/
def EvR (te : TE) (σ : L2.St) (H : Hp) (R : V → Hp → Prop) : Prop := ∀ Q : VK, (∀ y H4, Ex H H4 → R y H4 → Q y H4) → te σ H Q
theorem er_ev {R : V → Hp → Prop} (h : Ev te σ H v) (r : ∀ H1, Ex H H1 → R v H1) : EvR te σ H R := fun Q q => h H (Ex.refl H) Q fun H2 e2 => q v H2 e2 (r H2 e2)
theorem et_yes : EvT tYes σ H true := fun H1 _ Q q => q H1 (Ex.refl H1)
def Lcv (R : Nat → List V → Hp → Prop) (H0 : Hp) (D : Addr) (i : Nat) (H' : Hp) : Prop := ∃ acc, H0 D = none ∧ Ex H0 H' ∧ H' D = some (.lst acc) ∧ acc.length ≤ i ∧ R i acc H'
theorem lc_turn {R : Nat → List V → Hp → Prop} {H0 H' : Hp} {D : Addr} {i : Nat} {σ2 : L2.St} (p : Lcv R H0 D i H') (hi : i < 100000)
    (hR : ∀ D i acc acc' H1 H2, Exb D H1 H2 → H1 D = some (.lst acc') → R i acc H1 → R i acc H2)
    (hs : ∀ acc, Ex H0 H' → acc.length ≤ i → R i acc H' → ∃ b, EvT tt σ2 H' b ∧ (b = true → ∀ H3, Ex H' H3 → EvR te σ2 H3 (R (i + 1) <| acc ++ [·])) ∧ (b = false → ∀ H3, Ex H' H3 → R (i + 1) acc H3)) :
    tt σ2 H' fun b H3 => if b = true then te σ2 H3 fun y H4 => ∃ acc, H4 D = some (.lst acc) ∧ acc.length < sizeLine ∧ Lcv R H0 D (i + 1) (upd H4 D (.lst (acc ++ [y]))) else Lcv R H0 D (i + 1) H3 := by
  obtain ⟨acc, p1, p2, p3, p4, p5⟩ := p
  obtain ⟨b, h1, h2, h3⟩ := hs acc p2 p4 p5
  refine h1 H' (Ex.refl H') _ fun H3 e3 => ?_
  cases b with
  | true =>
    rw [if_pos rfl]
    refine h2 rfl H3 e3 _ fun y H4 e4 r => ⟨acc, e4 _ _ (e3 _ _ p3), sz_lt (by omega), acc ++ [y], p1, Ex.mut ((p2.trans e3).trans e4) p1, upd_same, by simp; omega, ?_⟩
    exact hR D _ _ acc _ _ Exb.upd (e4 _ _ (e3 _ _ p3)) r
  | false =>
    rw [if_neg Bool.false_ne_true]
    exact ⟨acc, p1, p2.trans e3, e3 _ _ p3, by omega, h3 rfl H3 e3⟩
theorem d_lcL {a : Addr} {xs : List V} {j : Nat} {vs : List Nat} (h : Ev tl σ H (.ref a)) (hx : SqL K H a xs) (hz : xs.length ≤ 100000) (R : Nat → List V → Hp → Prop)
    (hR : ∀ D i acc acc' H1 H2, Exb D H1 H2 → H1 D = some (.lst acc') → R i acc H1 → R i acc H2) (hw : ∀ x, wipe ((wipe σ vs).set j (some x)) vs = wipe σ vs) (h0 : ∀ H1, Ex H H1 → R 0 [] H1)
    (hs : ∀ i x acc H', xs[i]? = some x → Ex H H' → acc.length ≤ i → R i acc H' → ∃ b, EvT tt ((wipe σ vs).set j (some x)) H' b ∧ (b = true → ∀ H3, Ex H' H3 → EvR te ((wipe σ vs).set j (some x)) H3 (R (i + 1) <| acc ++ [·])) ∧ (b = false → ∀ H3, Ex H' H3 → R (i + 1) acc H3))
    (q : ∀ p H2 acc, H p = none → Ex H H2 → H2 p = some (.lst acc) → R xs.length acc H2 → Q (.ref p) H2) : tLc (iList K tl) (gName j) tt te vs σ H Q := h H (Ex.refl H) _ fun H1 e1 => ⟨a, rfl, ⟨xs, ex_l e1 hx⟩, fun D hD =>
  lc_list (xs := xs) (Lcv R H1 D) ⟨[], hD, Ex.new hD, upd_same, Nat.le_refl _, h0 _ (e1.trans (Ex.new hD))⟩ (fun i H' _ p => ex_l (e1.trans p.choose_spec.2.1) hx)
    (fun i x H' hi p => ⟨hw x, lc_turn p (by have := (List.getElem?_eq_some_iff.mp hi).1; omega) hR fun acc e g r => hs i x acc H' hi (e1.trans e) g r⟩)
    fun H' p => by
      obtain ⟨acc, p1, p2, p3, p4, p5⟩ := p
      exact q D H' acc (fresh_back e1 p1) (e1.trans p2) p3 p5⟩
theorem d_lcT {T : List (Int × Int)} {j : Nat} {vs : List Nat} (h : Ev tl σ H v) (hT : Tb K H v T) (hz : T.length ≤ 100000) (R : Nat → List V → Hp → Prop)
    (hR : ∀ D i acc acc' H1 H2, Exb D H1 H2 → H1 D = some (.lst acc') → R i acc H1 → R i acc H2) (hw : ∀ x, wipe ((wipe σ vs).set j (some x)) vs = wipe σ vs) (h0 : ∀ H1, Ex H H1 → R 0 [] H1)
    (hs : ∀ i w p acc H', T[i]? = some p → Pr K H' w p.1 p.2 → Ex H H' → acc.length ≤ i → R i acc H' → ∃ b, EvT tt ((wipe σ vs).set j (some w)) H' b ∧ (b = true → ∀ H3, Ex H' H3 → EvR te ((wipe σ vs).set j (some w)) H3 (R (i + 1) <| acc ++ [·])) ∧ (b = false → ∀ H3, Ex H' H3 → R (i + 1) acc H3))
    (q : ∀ p H2 acc, H p = none → Ex H H2 → H2 p = some (.lst acc) → R T.length acc H2 → Q (.ref p) H2) : tLc (iList K tl) (gName j) tt te vs σ H Q := by
  obtain ⟨a, ws, rfl, h1, h2⟩ := hT
  refine d_lcL h h1 (by rw [h2.len]; exact hz) R hR hw h0 (fun i x acc H' hi e g r => ?_) (fun p H2 acc f e g r => q p H2 acc f e g (by rw [← h2.len]; exact r))
  obtain ⟨p, e2, h3⟩ := h2.get hi
  exact hs i x p acc H' e2 (h3.mono e) e g r
theorem d_lcR {ta : TA} {n : Int} {j : Nat} {vs : List Nat} (h : EvA ta σ H [.int n]) (hn : 0 ≤ n ∧ n ≤ 100000) (R : Nat → List V → Hp → Prop)
    (hR : ∀ D i acc acc' H1 H2, Exb D H1 H2 → H1 D = some (.lst acc') → R i acc H1 → R i acc H2) (hw : ∀ x, wipe ((wipe σ vs).set j (some x)) vs = wipe σ vs) (h0 : ∀ H1, Ex H H1 → R 0 [] H1)
    (hs : ∀ (i : Nat) acc H', (i : Int) < n → Ex H H' → acc.length ≤ i → R i acc H' → ∃ b, EvT tt ((wipe σ vs).set j (some (.int (i : Int)))) H' b ∧ (b = true → ∀ H3, Ex H' H3 → EvR te ((wipe σ vs).set j (some (.int (i : Int)))) H3 (R (i + 1) <| acc ++ [·])) ∧ (b = false → ∀ H3, Ex H' H3 → R (i + 1) acc H3))
    (q : ∀ p H2 acc, H p = none → Ex H H2 → H2 p = some (.lst acc) → R n.toNat acc H2 → Q (.ref p) H2) : tLc (iRng1 ta) (gName j) tt te vs σ H Q := h H (Ex.refl H) _ fun H1 e1 => ⟨n, rfl, by omega, by omega, fun D hD =>
  lc_range (lo := 0) (n := n.toNat) (Lcv R H1 D) ⟨[], hD, Ex.new hD, upd_same, Nat.le_refl _, h0 _ (e1.trans (Ex.new hD))⟩
    (fun i H' hi p => by
      have e0 : (0 : Int) + (i : Int) = (i : Int) := Int.zero_add _
      show wipe ((wipe σ vs).set j (some (.int ((0 : Int) + (i : Int))))) vs = wipe σ vs ∧ tt ((wipe σ vs).set j (some (.int ((0 : Int) + (i : Int))))) H' _
      rw [e0]
      exact ⟨hw _, lc_turn p (by omega) hR fun acc e g r => hs i acc H' (by omega) (e1.trans e) g r⟩)
    fun H' p => by
      obtain ⟨acc, p1, p2, p3, p4, p5⟩ := p
      exact q D H' acc (fresh_back e1 p1) (e1.trans p2) p3 p5⟩
end

section
variable {K : PySem.W.Frag} {σ : L2.St} {H : Hp} {Q : VK} {te tl : TE} {tt : TT} {v : V}
/-- len(set(xs)) of unlike ints; x in xs -/
def rLenSet (K : PySem.W.Frag) (x : V) (H : Hp) (Q : VK) : Prop := ∃ (l : Addr) (ns : List Int), x = .ref l ∧ SqL K H l (ns.map V.int) ∧ ns.Nodup ∧ ns.length ≤ 4000 ∧ Q (.int (ns.length : Nat)) H
theorem d_lenSet (q : te σ H fun x H1 => rLenSet K x H1 Q) : RZ.tLenSetI K te σ H Q := q
theorem d_rLenSet {l : Addr} {ns : List Int} (h : SqL K H l (ns.map V.int)) (hn : ns.Nodup) (hl : ns.length ≤ 4000) (q : Q (.int (ns.length : Int)) H) : rLenSet K (.ref l) H Q := ⟨l, ns, rfl, h, hn, hl, q⟩
theorem inV_int (i : Int) (ns : List Int) : inV (.int i) (ns.map V.int) = decide (i ∈ ns) := by
  unfold inV
  rw [Bool.eq_iff_iff, List.any_map, List.any_eq_true, decide_eq_true_eq]
  constructor
  · rintro ⟨n, hn, e⟩
    have e : (n == i) = true := e
    have : n = i := by simpa using e
    exact this ▸ hn
  · intro h
    exact ⟨i, h, by show (i == i) = true; simp⟩
theorem flat_ints (ns : List Int) : (ns.map V.int).all flatV = true := by
  rw [List.all_map, List.all_eq_true]
  intro n _
  rfl
theorem d_inI {p : Addr} {i : Int} {ns : List Int} (h : SqL K H p (ns.map V.int)) (q : Q (.bl (decide (i ∈ ns))) H) : rIn K false (.int i) (.ref p) H Q := ⟨p, _, rfl, .inl h, rfl, flat_ints ns, by rw [inV_int]; exact q⟩
theorem d_notInI {p : Addr} {i : Int} {ns : List Int} (h : SqL K H p (ns.map V.int)) (q : Q (.bl (!decide (i ∈ ns))) H) : rIn K true (.int i) (.ref p) H Q := ⟨p, _, rfl, .inl h, rfl, flat_ints ns, by rw [inV_int]; exact q⟩
theorem d_lcR2 {ta : TA} {lo n : Int} {j : Nat} {vs : List Nat} (h : EvA ta σ H [.int lo, .int n]) (hn : 0 ≤ lo ∧ lo ≤ 100000 ∧ -100000 ≤ n ∧ n ≤ 100000) (R : Nat → List V → Hp → Prop)
    (hR : ∀ D i acc acc' H1 H2, Exb D H1 H2 → H1 D = some (.lst acc') → R i acc H1 → R i acc H2) (hw : ∀ x, wipe ((wipe σ vs).set j (some x)) vs = wipe σ vs) (h0 : ∀ H1, Ex H H1 → R 0 [] H1)
    (hs : ∀ (i : Nat) acc H', lo + (i : Int) < n → Ex H H' → acc.length ≤ i → R i acc H' → ∃ b, EvT tt ((wipe σ vs).set j (some (.int (lo + (i : Int))))) H' b ∧ (b = true → ∀ H3, Ex H' H3 → EvR te ((wipe σ vs).set j (some (.int (lo + (i : Int))))) H3 (R (i + 1) <| acc ++ [·])) ∧ (b = false → ∀ H3, Ex H' H3 → R (i + 1) acc H3))
    (q : ∀ p H2 acc, H p = none → Ex H H2 → H2 p = some (.lst acc) → R (n - lo).toNat acc H2 → Q (.ref p) H2) : tLc (iRng2 ta) (gName j) tt te vs σ H Q := h H (Ex.refl H) _ fun H1 e1 => ⟨lo, n, rfl, by omega, fun D hD =>
  lc_range (lo := lo) (n := (n - lo).toNat) (Lcv R H1 D) ⟨[], hD, Ex.new hD, upd_same, Nat.le_refl _, h0 _ (e1.trans (Ex.new hD))⟩
    (fun i H' hi p => ⟨hw _, lc_turn p (by omega) hR fun acc e g r => hs i acc H' (by omega) (e1.trans e) g r⟩)
    fun H' p => by
      obtain ⟨acc, p1, p2, p3, p4, p5⟩ := p
      exact q D H' acc (fresh_back e1 p1) (e1.trans p2) p3 p5⟩
end

/-! ### a dict with pairs as keys; what a call may change besides -/
section
variable {K : PySem.W.Frag} {σ : L2.St} {H : Hp} {Q : VK} {te tl td ty tv : TE} {tt : TT} {v : V} {D : Ends}
theorem Exb.refl {l : Addr} (H : Hp) : Exb l H H := fun _ _ h _ => h
theorem Exb.trans {l : Addr} {H H1 H2 : Hp} (a : Exb l H H1) (b : Exb l H1 H2) : Exb l H H2 := fun c o h n => b c o (a c o h n) n
theorem Exb.of {l : Addr} {H H1 : Hp} (e : Ex H H1) : Exb l H H1 := fun b o h _ => e b o h
theorem Exb.rdTd {l : Addr} {H H2 : Hp} {kvs : List (List Key × V)} {ys : List V} {a : Addr} (b : Exb l H H2) (h : H l = some (.dT kvs)) (r : Rd H a (.tup ys)) : Rd H2 a (.tup ys) := by
  rcases r with r | ⟨o, r⟩
  · exact .inl (b a _ r (ne_of r h (by intro z; cases z)))
  · exact .inr ⟨o, b a _ r (ne_of r h (by intro z; cases z))⟩
theorem Exb.prd {l : Addr} {H H2 : Hp} {kvs : List (List Key × V)} {v : V} {x y : Int} (b : Exb l H H2) (h : H l = some (.dT kvs)) (r : Pr K H v x y) : Pr K H2 v x y := by
  obtain ⟨a, rfl, r⟩ := r
  rcases r with r | r
  · exact ⟨a, rfl, .inl (b.rdTd h r)⟩
  · exact ⟨a, rfl, .inr r⟩
theorem Exb.prsd {l : Addr} {H H2 : Hp} {kvs : List (List Key × V)} {v : V} {x y : Int} (b : Exb l H H2) (h : H l = some (.dT kvs)) (r : PrS H v x y) : PrS H2 v x y := by
  obtain ⟨a, rfl, r⟩ := r
  exact ⟨a, rfl, b a _ r (ne_of r h (by intro z; cases z))⟩
theorem Exb.prs {l : Addr} {H H2 : Hp} {xs : List V} {v : V} {x y : Int} (b : Exb l H H2) (h : H l = some (.lst xs)) (r : PrS H v x y) : PrS H2 v x y := by
  obtain ⟨a, rfl, r⟩ := r
  exact ⟨a, rfl, b a _ r (ne_of r h (by intro z; cases z))⟩
def kP (x y : Int) : List Key := [.inl x, .inl y]
theorem kP_map (x y : Int) : (kP x y).map kV = [.int x, .int y] := rfl
def rDNot (x y : V) (H : Hp) (Q : VK) : Prop := ∃ a o, x = .ref a ∧ DGet H a y o ∧ Q (.bl (!o.isSome)) H
theorem d_dnot (q : ty σ H fun y H1 => td σ H1 fun x H2 => rDNot x y H2 Q) : tDNotIn ty td σ H Q := q
theorem d_rDNot {a : Addr} {kvs : List (List Key × V)} {y : V} {i j : Int} (h : H a = some (.dT kvs)) (hp : PrS H y i j) (q : Q (.bl (!(valV kvs (kP i j)).isSome)) H) : rDNot (.ref a) y H Q := by
  obtain ⟨b, rfl, hb⟩ := hp
  exact ⟨a, _, rfl, DGet.t h (by rw [kP_map]; exact hb), q⟩
def rDGet (x y : V) (H : Hp) (Q : VK) : Prop := ∃ a v, x = .ref a ∧ DGet H a y (some v) ∧ Q v H
theorem d_dget (q : td σ H fun x H1 => ty σ H1 fun y H2 => rDGet x y H2 Q) : tDGet td ty σ H Q := q
theorem d_rDGet {a : Addr} {kvs : List (List Key × V)} {y v : V} {i j : Int} (h : H a = some (.dT kvs)) (hp : PrS H y i j) (hv : valV kvs (kP i j) = some v) (q : Q v H) : rDGet (.ref a) y H Q := by
  obtain ⟨b, rfl, hb⟩ := hp
  exact ⟨a, v, rfl, hv ▸ DGet.t h (by rw [kP_map]; exact hb), q⟩
def rDPut (D : Ends) (σ : L2.St) (x y v : V) (H : Hp) : Prop := ∃ a H4, x = .ref a ∧ DPut H a y v H4 ∧ D.nx σ H4
theorem d_dput (q : tv σ H fun v H1 => td σ H1 fun x H2 => ty σ H2 fun y H3 => rDPut D σ x y v H3) : sDPut td ty tv D σ H := q
theorem d_rDPut {a : Addr} {kvs : List (List Key × V)} {y v : V} {i j : Int} (h : H a = some (.dT kvs)) (hp : PrS H y i j) (hl : kvs.length < sizeLine) (q : ∀ H4, Exb a H H4 → H4 a = some (.dT (putK kvs (kP i j) v)) → D.nx σ H4) : rDPut D σ (.ref a) y v H := by
  obtain ⟨b, rfl, hb⟩ := hp
  exact ⟨a, _, rfl, DPut.t h (by rw [kP_map]; exact hb) hl, q _ Exb.upd upd_same⟩
theorem d_dnew (q : ∀ p H2, H p = none → Ex H H2 → H2 p = some (.dT []) → Q (.ref p) H2) : tDNewT σ H Q := fun p hp => q p _ hp (Ex.new hp) upd_same
theorem valV_new {kvs : List (List Key × V)} {k : List Key} {v : V} (h : valV kvs k = none) : putK kvs k v = kvs ++ [(k, v)] := by
  unfold putK
  have e := valV_any k kvs
  rw [h] at e
  rw [e, if_neg (by simp)]
theorem valV_app {kvs : List (List Key × V)} {k : List Key} {v : V} (h : valV kvs k = none) : valV (kvs ++ [(k, v)]) k = some v := by
  unfold valV at *
  rw [List.find?_append]
  have e : kvs.find? (fun kv => decide (kv.1 = k)) = none := by
    cases h2 : kvs.find? (fun kv => decide (kv.1 = k)) with
    | none => rfl
    | some p => rw [h2] at h; cases h
  rw [e]
  simp
theorem valV_mem {kvs : List (List Key × V)} {k : List Key} {v : V} (h : valV kvs k = some v) : (k, v) ∈ kvs := by
  unfold valV at h
  obtain ⟨p, hp, rfl⟩ := Option.map_eq_some_iff.mp h
  have h1 := List.mem_of_find?_eq_some hp
  have h2 : p.1 = k := of_decide_eq_true (List.find?_some (p := fun kv : List Key × V => decide (kv.1 = k)) hp)
  subst h2
  exact h1
theorem valV_not {kvs : List (List Key × V)} {k : List Key} (h : valV kvs k = none) : k ∉ kvs.map (·.1) := fun z => by
  obtain ⟨p, hp, e⟩ := List.mem_map.mp z
  have e2 := valV_any k kvs
  rw [h] at e2
  have : kvs.any (fun kv => decide (kv.1 = k)) = true := List.any_eq_true.mpr ⟨p, hp, decide_eq_true e⟩
  rw [this] at e2
  cases e2
/-- a comprehension over a list, whose turns may change the dict at kd -/
def Lcm (R : Nat → List V → Hp → Prop) (kd : Addr) (H0 : Hp) (D : Addr) (i : Nat) (H' : Hp) : Prop := ∃ acc, H0 D = none ∧ D ≠ kd ∧ Exb kd H0 H' ∧ H' D = some (.lst acc) ∧ acc.length ≤ i ∧ R i acc H'
/-- what is left of a comprehension, the list that it walks told -/
def rLc (K : PySem.W.Frag) (g : TG) (tt : TT) (te : TE) (vs : List Nat) (σ : L2.St) (x : V) (H1 : Hp) (Q : VK) : Prop := ∃ a, x = .ref a ∧ (∃ xs, SqL K H1 a xs) ∧ ∀ D, H1 D = none → ∃ W : Nat → Nat → Hp → Prop, (∃ m, W 0 m (upd H1 D (.lst []))) ∧ ∀ i m H, W i m H →
  ((Itl K a).stop i H ∧ Q (.ref D) H) ∨ ((Itl K a).go i H ∧ ∃ Nx : Hp → Prop, (∀ H', Nx H' → ∃ m', m' < m ∧ W (i + 1) m' H') ∧ ∀ x H', (Itl K a).yld i H x H' → g x (wipe σ vs) H' fun σ2 H2 => wipe σ2 vs = wipe σ vs ∧ tt σ2 H2 fun b H3 =>
    if b = true then te σ2 H3 fun y H4 => ∃ acc, H4 D = some (.lst acc) ∧ acc.length < sizeLine ∧ Nx (upd H4 D (.lst (acc ++ [y]))) else Nx H3)
theorem d_lc {g : TG} {vs : List Nat} (q : tl σ H fun x H1 => rLc K g tt te vs σ x H1 Q) : tLc (iList K tl) g tt te vs σ H Q := q
theorem d_rLcM {p kd : Addr} {xs : List V} {j : Nat} {vs : List Nat} {kvs : List (List Key × V)} (hz : xs.length ≤ 100000) (R : Nat → List V → Hp → Prop) (h1 : H p = some (.lst xs)) (hkd : H kd = some (.dT kvs))
    (hR : ∀ D i acc acc' H1 H2, Exb D H1 H2 → H1 D = some (.lst acc') → R i acc H1 → R i acc H2) (hw : ∀ x, wipe ((wipe σ vs).set j (some x)) vs = wipe σ vs) (h0 : ∀ H1, Ex H H1 → R 0 [] H1)
    (hs : ∀ i x acc H', xs[i]? = some x → Exb kd H H' → acc.length ≤ i → R i acc H' → ∀ Q' : VK, (∀ y H4, Exb kd H' H4 → R (i + 1) (acc ++ [y]) H4 → Q' y H4) → te ((wipe σ vs).set j (some x)) H' Q')
    (q : ∀ p H2 acc, H p = none → Exb kd H H2 → H2 p = some (.lst acc) → R xs.length acc H2 → Q (.ref p) H2) : rLc K (gName j) tYes te vs σ (.ref p) H Q := ⟨p, rfl, ⟨xs, sq_of h1⟩, fun D hD =>
  have ne : D ≠ kd := fun z => by rw [z, hkd] at hD; cases hD
  have nb : p ≠ kd := ne_of h1 hkd (by intro z; cases z)
  lc_list (xs := xs) (Lcm R kd H D) ⟨[], hD, ne, Exb.of (Ex.new hD), upd_same, Nat.le_refl _, h0 _ (Ex.new hD)⟩ (fun i H' _ q' => by
      obtain ⟨acc, p1, p2, p3, _⟩ := q'
      exact sq_of (p3 p _ h1 nb))
    (fun i x H' hi p' => ⟨hw x, by
      obtain ⟨acc, p1, p2, p3, p4, p5, p6⟩ := p'
      refine (show ∀ (Q : Bool → Hp → Prop), Q true H' → tYes (List.set (wipe σ vs) j (some x)) H' Q from fun _ q => q) _ ?_
      rw [if_pos rfl]
      refine hs i x acc H' hi p3 p5 p6 _ fun y H4 e4 r => ?_
      have hD4 := e4 _ _ p4 p2
      have e14 := p3.trans e4
      exact ⟨acc, hD4, sz_lt (by have := (List.getElem?_eq_some_iff.mp hi).1; omega), acc ++ [y], p1, p2, fun c o hc n => by
          rw [upd_ne (ne_of_none hc p1)]
          exact e14 c o hc n, upd_same, by simp; omega, hR D _ _ acc _ _ Exb.upd hD4 r⟩⟩)
    fun H' p' => by
      obtain ⟨acc, p1, p2, p3, p4, p5, p6⟩ := p'
      exact q D H' acc p1 p3 p4 p6⟩
end

/-! ### slices, sums of lists, enumerate, in over pairs -/
theorem u65 {k : Nat} {A : Around} (r : Room k A) : A.units + 65 < cLine := by have := r.un; omega
section
variable {K : PySem.W.Frag} {σ : L2.St} {H H0 : Hp} {Q : VK} {te tl : TE} {tt : TT} {v u : V} {D : Ends} {ts : TS} {T : List (Int × Int)}
theorem d_neB {i j : Bool} (q : Q (.bl (!decide (i = j))) H) : rNe (.bl i) (.bl j) H Q := by
  have e : decide (V.bl i = V.bl j) = decide (i = j) := by simp
  exact ⟨rfl, by rw [e]; exact q⟩
theorem d_sl {r : V → Option Int → Option Int → Hp → VK → Prop} {to tp : TO} (q : te σ H fun x H1 => to σ H1 fun l H2 => tp σ H2 fun u H3 => r x l u H3 Q) : tSl r te to tp σ H Q := q
theorem d_noPart {R : Option Int → Hp → Prop} (q : R none H) : tNoPart σ H R := q
def rPart (R : Option Int → Hp → Prop) (x : V) (H : Hp) : Prop := ∃ i, x = .int i ∧ R (some i) H
theorem d_part {R : Option Int → Hp → Prop} (q : te σ H fun x H1 => rPart R x H1) : tPart te σ H R := q
theorem d_rPart {R : Option Int → Hp → Prop} {i : Int} (q : R (some i) H) : rPart R (.int i) H := ⟨i, rfl, q⟩
theorem cut_take (xs : List V) {n : Int} (h : 0 ≤ n) : cutV xs none (some n) = xs.take n.toNat := by
  obtain ⟨k, rfl⟩ := Int.eq_ofNat_of_zero_le h
  unfold cutV
  rw [HT.sIx_none, show HT.sIx xs.length xs.length (some (k : Int)) = min k xs.length from HT.sIx_nat _ _ _, List.drop_zero, Nat.sub_zero, Int.toNat_natCast]
  by_cases c : k ≤ xs.length
  · rw [Nat.min_eq_left c]
  · rw [Nat.min_eq_right (by omega), List.take_length, List.take_of_length_le (by omega)]
theorem cut_drop (xs : List V) {n : Int} (h : 0 ≤ n) : cutV xs (some n) none = xs.drop n.toNat := by
  obtain ⟨k, rfl⟩ := Int.eq_ofNat_of_zero_le h
  unfold cutV
  rw [HT.sIx_none, show HT.sIx xs.length 0 (some (k : Int)) = min k xs.length from HT.sIx_nat _ _ _, Int.toNat_natCast]
  by_cases c : k ≤ xs.length
  · rw [Nat.min_eq_left c, List.take_of_length_le (by simp)]
  · rw [Nat.min_eq_right (by omega), List.drop_of_length_le (Nat.le_refl _), List.drop_of_length_le (by omega), List.take_nil]
theorem d_slTake {n : Int} (hT : Tb K H v T) (h0 : 0 ≤ n) (q : ∀ p H2 ws, H p = none → Ex H H2 → H2 p = some (.lst ws) → Prs K H2 ws (T.take n.toNat) → Q (.ref p) H2) : rSlL K v none (some n) H Q := by
  obtain ⟨a, ws, rfl, h1, h2⟩ := hT
  exact ⟨a, ws, rfl, h1, fun p hp => q p _ _ hp (Ex.new hp) upd_same (by rw [cut_take ws h0]; exact (h2.take _).mono (Ex.new hp))⟩
theorem d_slDrop {n : Int} (hT : Tb K H v T) (h0 : 0 ≤ n) (q : ∀ p H2 ws, H p = none → Ex H H2 → H2 p = some (.lst ws) → Prs K H2 ws (T.drop n.toNat) → Q (.ref p) H2) : rSlL K v (some n) none H Q := by
  obtain ⟨a, ws, rfl, h1, h2⟩ := hT
  exact ⟨a, ws, rfl, h1, fun p hp => q p _ _ hp (Ex.new hp) upd_same (by rw [cut_drop ws h0]; exact (h2.drop _).mono (Ex.new hp))⟩
theorem d_cat {l b : Addr} {xs zs : List V} (h1 : H l = some (.lst xs)) (h2 : H b = some (.lst zs)) (hl : xs.length + zs.length ≤ 100000) (q : ∀ p H2, H p = none → Ex H H2 → H2 p = some (.lst (xs ++ zs)) → Q (.ref p) H2) : rCat (.ref l) (.ref b) H Q :=
  ⟨l, b, xs, zs, rfl, rfl, h1, h2, sz_of hl, fun p hp => q p _ hp (Ex.new hp) upd_same⟩
/-- for over enumerate(table) -/
theorem d_forE {ta : TA} {ii jj : Nat} (h : EvA ta σ H [v]) (hT : Tb K H0 v T) (e0 : Ex H0 H) (Pv : Nat → L2.St → Hp → Prop) (h0 : ∀ H1, Ex H H1 → Pv 0 σ H1) (hl : ∀ i σ' H', Pv i σ' H' → Ex H0 H') (hm : ∀ i σ' H1 H2, Pv i σ' H1 → Ex H1 H2 → Pv i σ' H2)
    (hs : ∀ i w p σ' H', T[i]? = some p → Pr K H' w p.1 p.2 → Pv i σ' H' → ts { D with nx := Pv (i + 1), ct := Pv (i + 1), bk := D.nx } ((σ'.set ii (some (.int (i : Int)))).set jj (some w)) H') (hd : ∀ σ' H', Pv T.length σ' H' → D.nx σ' H') :
    tFor (iEnum K ta) (gTup K 2 (gCons (gName ii) (gCons (gName jj) gNil))) ts D σ H := by
  obtain ⟨a, ws, rfl, h1, h2⟩ := hT
  refine h H (Ex.refl H) _ fun H1 e1 => ⟨a, ws, rfl, ex_l (e0.trans e1) h1, for_it (walk_enum (K := K) (a := a) (xs := ws)) Pv (h0 H1 e1) (fun i σ' H' _ p => ex_l (hl i σ' H' p) h1) (fun i x σ' H2 H3 hi p y => ?_) (fun σ' H' p => hd σ' H' (by rw [← h2.len]; exact p))⟩
  obtain ⟨t, a1, a2, rfl, ht, rfl, e5, e6⟩ := y
  cases e5
  obtain ⟨pp, e7, h7⟩ := h2.get e6
  have hp2 := hm i σ' _ _ p (Ex.new (o := .tup [.int (i : Int), a2]) ht)
  exact ⟨t, _, rfl, st_of upd_same, rfl, _, _, rfl, _, _, rfl, rfl, hs i a2 pp σ' _ e7 (h7.mono (hl i σ' _ hp2)) hp2⟩
/-- for over a table, the base further back -/
theorem d_forT0 {j : Nat} (h : Ev tl σ H v) (hT : Tb K H0 v T) (e0 : Ex H0 H) (Pv : Nat → L2.St → Hp → Prop) (h0 : ∀ H1, Ex H H1 → Pv 0 σ H1) (hl : ∀ i σ' H', Pv i σ' H' → Ex H0 H')
    (hs : ∀ i w p σ' H', T[i]? = some p → Pr K H' w p.1 p.2 → Pv i σ' H' → ts { D with nx := Pv (i + 1), ct := Pv (i + 1), bk := D.nx } (σ'.set j (some w)) H') (hd : ∀ σ' H', Pv T.length σ' H' → D.nx σ' H') : tFor (iList K tl) (gName j) ts D σ H := by
  obtain ⟨a, ws, rfl, h1, h2⟩ := hT
  refine s_forL (xs := ws) h (ex_l e0 h1) Pv h0 (fun i σ' H' _ p => ex_l (hl i σ' H' p) h1) (fun i w σ' H' e p => ?_) (fun σ' H' p => hd σ' H' (by rw [← h2.len]; exact p))
  obtain ⟨q, e2, h3⟩ := h2.get e
  exact hs i w q σ' H' e2 (h3.mono (hl i σ' H' p)) p
/-- for over a list of values that is made on the way -/
theorem d_forNL {xs : List V} {j : Nat} (h : EvL tl σ H xs) (Pv : Hp → Nat → L2.St → Hp → Prop) (h0 : ∀ H1, Ex H H1 → Pv H1 0 σ H1) (hk : ∀ p H1 i σ' H', H p = none → H1 p = some (.lst xs) → Pv H1 i σ' H' → H' p = some (.lst xs))
    (hs : ∀ H1 i x σ' H', Ex H H1 → xs[i]? = some x → Pv H1 i σ' H' → ts { D with nx := Pv H1 (i + 1), ct := Pv H1 (i + 1), bk := D.nx } (σ'.set j (some x)) H') (hd : ∀ H1 σ' H', Ex H H1 → Pv H1 xs.length σ' H' → D.nx σ' H') : tFor (iList K tl) (gName j) ts D σ H :=
  h H (Ex.refl H) _ fun p H1 hp e h1 => ⟨p, rfl, ⟨xs, sq_of h1⟩, for_list (Pv H1) (h0 H1 e) (fun i σ' H' _ q => sq_of (hk p H1 i σ' H' hp h1 q)) (fun i x σ' H' hx q => hs H1 i x σ' H' e hx q) (fun σ' H' q => hd H1 σ' H' e q)⟩
/-- in over a list of pairs -/
theorem any_dP (p : Int × Int) (L : List (Int × Int)) : ((L.map dP).any fun z => PyData.eqv z (dP p)) = decide (p ∈ L) := by
  rw [Bool.eq_iff_iff, List.any_map, List.any_eq_true, decide_eq_true_eq]
  constructor
  · rintro ⟨q, hq, e⟩
    have e : PyData.eqv (dP q) (dP p) = true := e
    rw [dP_eqv] at e
    exact of_decide_eq_true e ▸ hq
  · intro h
    exact ⟨p, h, by show PyData.eqv (dP p) (dP p) = true; rw [dP_eqv]; simp⟩
theorem d_inP {x y : Int} {L : List (Int × Int)} (h : Pr K H v x y) (hL : Tb K H u L) (q : Q (.bl (decide ((x, y) ∈ L))) H) : rInD K v u H Q := ⟨_, _, h.dp, hL.dp, dP_shaped _, dT_shaped _, by rw [any_dP]; exact q⟩
theorem d_notInP {x y : Int} {L : List (Int × Int)} (h : Pr K H v x y) (hL : Tb K H u L) (q : Q (.bl (!decide ((x, y) ∈ L))) H) : rNotInD K v u H Q := ⟨_, _, h.dp, hL.dp, dP_shaped _, dT_shaped _, by rw [any_dP]; exact q⟩
theorem d_lenP {x y : Int} (h : Pr K H v x y) (q : Q (.int 2) H) : rLenS K [v] H Q := by
  obtain ⟨a, rfl, h⟩ := h
  exact ⟨a, _, rfl, .inr h, q⟩
theorem Tb.nil {p : Addr} (h : H p = some (.lst [])) : Tb K H (.ref p) [] := ⟨p, [], rfl, sq_of h, trivial⟩
end

/-! ### defs that raise; defs that are handed a caught error -/
/-- a def that may be called by its name and keeps sp; it may let errors out -/
def ClX (P : Program) (w : World) (K : PySem.W.Frag) (mg : Str → Option Value) (base : Heap) (k : Nat) (x : Str) (sp : Sp) : Prop :=
  ∃ f fd ps, FnOk P w K mg base (L2.CX P w) k f fd ps sp ∧ mg x = some (.ref f) ∧ PySem.W.keepIn K (.ref f) = true ∧ Binds K fd ps []
section
variable {P : Program} {w : World} {K : PySem.W.Frag} {mg : Str → Option Value} {base : Heap}
theorem clX_of {x : Str} {st : Stmt} {N ps : List Str} {k : Nat} {sp : Sp} (F : Df K mg x st)
    (hb : ∀ (kV doc pm : Value) (an : Option Addr) (cdv ct : Value) (us : List Value), us.length = ps.length → bindArgs (PySem.W.fnOf x x (defArgs st) (defBody st) (defScope st) .none kV doc pm an cdv ct) ⟨us, []⟩ = pure (ps.zip us))
    (S : FnScope N ps (defScope st)) (len : ∀ vs H Q E, sp vs H Q E → vs.length = ps.length)
    (hbody : ∀ (f : Addr) (cdv : Value) (A : Around) (outer : List Env) (s : Shared) (H : Hp) (vs : List V) (Q : VK) (E : XK), Room k (A.deeper (envOfC x (defScope st) s.heap.objs.size f cdv)) → sp vs H Q E →
      ∃ t, PSs (cxOf (L2.CX P w) P w K mg base N x (defScope st) f cdv A outer s H E) (defBody st) t ∧ t { nx := fun _ H' => Q .non H', rt := Q } (start N vs) H) : ClX P w K mg base (k + 1) x sp := by
  obtain ⟨f, fd, F, hm⟩ := F
  exact ⟨f, fd, ps, F.okX S len (hbody f), hm, F.kp, F.binds hb⟩
/-- what isinstance, except and raise ask of an error's class -/
structure Xc (K : PySem.W.Frag) (mg : Str → Option Value) (x : Str) (C : Addr) : Prop where
  gC : mg x = some (.ref C)
  xC : PySem.W.excIn K C [.type "ValueError", .type "Exception", .type "BaseException", .type "object"] "ValueError.__new__" = true
  kC : PySem.W.keepIn K (.ref C) = true
  bC : PySem.W.subIn K (.ref C) (.type "BaseException") = some true
  tC : PySem.W.typeIn K (.ref C) = some (.type "type")
  vC : PySem.W.kitOne K (.ref C) (.type "ValueError") = some true
  eC : ExcC K C
theorem kit_sub {D C : Addr} {b : Bool} (hd : PySem.W.hasDictIn K C = true) (tC : PySem.W.typeIn K (.ref C) = some (.type "type")) (h : PySem.W.subIn K (.ref D) (.ref C) = some b) (hs : PySem.W.subIn K (.ref D) (.ref D) = some true) : PySem.W.kitOne K (.ref D) (.ref C) = some b := by
  unfold PySem.W.kitOne
  by_cases q : (Value.ref D == Value.ref C) = true
  · have e : D = C := by
      have := eq_of_beq q
      cases this
      rfl
    subst e
    rw [if_pos q]
    rw [hs] at h
    exact h
  · rw [if_neg q]
    obtain ⟨cd, hc, _⟩ := PySem.W.any_some hd
    have e2 : ((PySem.W.clsIn K C).isSome && PySem.W.typeIn K (.ref C) == some (.type "type")) = true := by rw [hc, tC] <;> rfl
    show (if ((PySem.W.clsIn K C).isSome && PySem.W.typeIn K (.ref C) == some (.type "type")) = true then PySem.W.subIn K (.ref D) (.ref C) else none) = some b
    rw [if_pos e2]
    exact h
theorem kit_subV {D : Addr} (h : PySem.W.subIn K (.ref D) (.type "ValueError") = some true) : PySem.W.kitOne K (.ref D) (.type "ValueError") = some true := by
  unfold PySem.W.kitOne
  have q : ¬ (Value.ref D == Value.type "ValueError") = true := by intro z; cases eq_of_beq z
  rw [if_neg q]
  show (if PySem.W.kitMeta "ValueError" = true then PySem.W.subIn K (.ref D) (.type "ValueError") else none) = some true
  rw [if_pos (by decide +kernel)]
  exact h
/-- the addresses of the errors' classes -/
structure Cs where
  (TakeError NoPair NoTable NoMove TooLong NoNote : Addr)
/-- a def that is handed the error that is held -/
structure FnP (P : Program) (w : World) (K : PySem.W.Frag) (mg : Str → Option Value) (base : Heap) (p : Addr × Obj) (k : Nat) (f : Addr) (fd : FuncData) (ps : List Str) (sp : Sp) : Prop where
  len : ∀ vs H Q E, sp vs H Q E → vs.length = ps.length
  run : ∀ (A : Around) (outer : List Env) (s : Shared) (H : Hp) (args : Args) (us : List Value) (vs : List V) (Q : VK) (E : XK), L2H.RoomH k A → L2H.PinOk outer H s p → Env0 P w K mg base A outer s H → BindsTo s fd args (ps.zip us) → Vals vs us → sp vs H Q E →
    codeAny (model P w) A (.call (.ref f) args) (CR CX0 outer P w H s Q E) s
theorem fnP_of {k : Nat} {f : Addr} {name qual : Str} {params : Arguments} {body : List Stmt} {scope : Scope} {dV kV doc pm cdv ct oc : Value} {an od : Option Addr} {p : Addr × Obj}
    {osl : Array (Option Value)} {N ps : List Str} {sp : Sp} (lk : K.lookup f = some ⟨oc, od, .func (PySem.W.fnOf name qual params body scope dV kV doc pm an cdv ct), osl⟩) (hcd : PySem.W.codeIn K cdv qual = true) (S : FnScope N ps scope)
    (len : ∀ vs H Q E, sp vs H Q E → vs.length = ps.length)
    (hbody : ∀ (A : Around) (outer : List Env) (s : Shared) (H : Hp) (vs : List V) (Q : VK) (E : XK), L2H.RoomH k (A.deeper (envOfC qual scope s.heap.objs.size f cdv)) → sp vs H Q E →
      ∃ t, PSs (L2H.cxH CX0 P w K mg base N qual scope f cdv A outer s H E p) body t ∧ t { nx := fun _ H' => Q .non H', rt := Q } (L2.start N vs) H) :
    FnP P w K mg base p (k + 1) f (PySem.W.fnOf name qual params body scope dV kV doc pm an cdv ct) ps sp where
  len := len
  run := fun A outer s H args us vs Q E hr hpin e0 hb r hsp => by
    have KX : K.In s.heap := e0.mod.kin.keeps fun b o e => (e0.bs b o e).1
    refine codeAny_call_function hr.depth (KX _ _ lk) rfl S.co S.gen rfl (PySem.W.codeRec_of KX hcd) (hb _ _ _ _ ?_)
    refine wpAny_newFunctionEnv_cells S.kind (fun y hy => ?_) fun env he s1 x => ?_
    · rcases S.par y.1 (List.of_mem_zip (show (y.1, y.2) ∈ ps.zip us from hy)).1 with q | q
      · exact .inl q
      · exact .inr ⟨q, PySem.W.cellsFrom_some _ _ _ (.inl q)⟩
    · subst he
      refine ⟨(e0.mod.nolimit.keeps fun b o e => (e0.bs b o e).1).keeps x.toInCall.keep, codeAny_func ?_⟩
      obtain ⟨t, ht, hq⟩ := hbody A outer s H vs Q E (hr.deeper _) hsp
      refine wpAny_mono (ht.run [] s1 (L2.start N vs) H _ (L2H.inv_startH S hpin e0 (len _ _ _ _ hsp) r x) hq) (fun fl s' hs => ?_) fun e s' hs => hs
      match fl, hs with
      | .ret u, ⟨v, σ', H', J, rv, q⟩ => exact ⟨v, H', J.os, J.bare, J.base, J.hok, rv, q⟩
      | .next, ⟨σ', H', J, q⟩ => exact ⟨V.non, H', J.os, J.bare, J.base, J.hok, rfl, q⟩
      | .brk, ⟨_, _, _, q⟩ => exact False.elim q
      | .cont, ⟨_, _, _, q⟩ => exact False.elim q
/-- such a def by its name -/
def ClP (P : Program) (w : World) (K : PySem.W.Frag) (mg : Str → Option Value) (base : Heap) (k : Nat) (x : Str) (sp : Addr → Value → Option Addr → Sp) : Prop :=
  ∃ f fd ps, (∀ (p : Addr × Obj) (cls : Value) (d : Option Addr), Zc cls d p.2 → (∃ vs, p.2.data = .fields vs) → FnP P w K mg base p k f fd ps (sp p.1 cls d)) ∧ mg x = some (.ref f) ∧ PySem.W.keepIn K (.ref f) = true ∧ Binds K fd ps []
theorem clP_of {x : Str} {st : Stmt} {N ps : List Str} {k : Nat} {sp : Addr → Value → Option Addr → Sp} (F : Df K mg x st)
    (hb : ∀ (kV doc pm : Value) (an : Option Addr) (cdv ct : Value) (us : List Value), us.length = ps.length → bindArgs (PySem.W.fnOf x x (defArgs st) (defBody st) (defScope st) .none kV doc pm an cdv ct) ⟨us, []⟩ = pure (ps.zip us))
    (S : FnScope N ps (defScope st)) (len : ∀ a cls d vs H Q E, sp a cls d vs H Q E → vs.length = ps.length)
    (hbody : ∀ (a : Addr) (oe : Obj) (cls : Value) (d : Option Addr) (f : Addr) (cdv : Value) (A : Around) (outer : List Env) (s : Shared) (H : Hp) (vs : List V) (Q : VK) (E : XK), Zc cls d oe → (∃ vs, oe.data = .fields vs) → L2H.RoomH k (A.deeper (envOfC x (defScope st) s.heap.objs.size f cdv)) → sp a cls d vs H Q E →
      ∃ t, PSs (L2H.cxH CX0 P w K mg base N x (defScope st) f cdv A outer s H E (a, oe)) (defBody st) t ∧ t { nx := fun _ H' => Q .non H', rt := Q } (L2.start N vs) H) : ClP P w K mg base (k + 1) x sp := by
  obtain ⟨f, fd, F, hm⟩ := F
  refine ⟨f, fd, ps, fun p cls d hz hp => ?_, hm, F.kp, F.binds hb⟩
  obtain ⟨oc, od, kV, doc, pm, an, cdv, ct, osl, rfl, lk, hcd⟩ := F.ex
  exact fnP_of lk hcd S (len p.1 cls d) fun A outer s H vs Q E hr hsp => hbody p.1 p.2 cls d f cdv A outer s H vs Q E hz hp hr hsp
end
section
variable {X : Cx} {k j : Nat} {x : Str} {p pos : Pos} {e : Expr} {es : List Expr} {t : TA}
theorem pe_clX {sp : Sp} {W : WX} (c : ClX X.prog X.w X.K X.mg X.base k x sp) (hr : Room j X.A) (hk : k ≤ j) (hg : Gl X x) (tk : Takes X W) (ha : PA X (e :: es) t)
    (hdb : (x == ("__debug__" : Str)) = false := by decide) (he : starEach (e :: es) X.env = (false, eval e X.env) :: starEach es X.env := by rfl) (hpl : (backTo pos (starEach es X.env)).any (·.1) = false := by rfl) :
    PE X (.Call (.Name x p) (e :: es) [] pos) (tCallS sp (WE W) t) := by
  obtain ⟨f, fd, ps, F, hm, kp, b⟩ := c
  exact pe_callS F (hr.mono hk) hg hm kp b (fun σ => passAt tk σ) ha hdb he hpl
theorem pe_clP {sp : Addr → Value → Option Addr → Sp} {a : Addr} {oe : Obj} {cls : Value} {d : Option Addr} (c : ClP X.prog X.w X.K X.mg X.base k x sp) (hr : L2H.RoomH j X.A) (hk : k ≤ j) (hq : (a, oe) ∈ X.pn) (hz : Zc cls d oe) (hd : ∃ vs, oe.data = .fields vs) (hg : Gl X x) (ha : PA X (e :: es) t)
    (hdb : (x == ("__debug__" : Str)) = false := by decide) (he : starEach (e :: es) X.env = (false, eval e X.env) :: starEach es X.env := by rfl) (hpl : (backTo pos (starEach es X.env)).any (·.1) = false := by rfl) :
    PE X (.Call (.Name x p) (e :: es) [] pos) (tCall (sp a cls d) [] E0 t) := by
  obtain ⟨f, fd, ps, F0, hm, kp, b⟩ := c
  have F := F0 (a, oe) cls d hz hd
  refine ⟨fun pins s σ H Q I h => ?_⟩
  refine wpAny_Call_Name_kw (ld_glob I hg hm ?_ hdb)
  refine PySem.W.callWith_K (h₀ := X.base) I.ok.mod.kin kp (thn (ha.run pos pins s σ H _ I h) fun us s1 ⟨vs, H1, I1, r, h1⟩ => ⟨I1.kIn, ?_⟩) he hpl
  have h1 : sp a cls d (vs ++ []) H1 Q E0 := h1
  rw [List.append_nil] at h1
  have hl : us.length = ps.length := by rw [← r.length]; exact F.len _ _ _ _ h1
  have b1 := b s1 us I1.kIn (by rw [List.append_nil]; exact hl)
  rw [List.append_nil] at b1
  have P1 := I1.pin (a, oe) (List.mem_append_left _ hq)
  refine wpAny_call (codeAny_mono (F.run X.A X.stack s1 H1 ⟨us, []⟩ us vs Q E0 (hr.mono hk) ⟨P1.1, P1.2.1, fun hm => (List.mem_cons.mp (I1.stkSub a hm)).elim P1.2.2.1 P1.2.2.2.1, P1.2.2.2.2⟩ I1.env0 b1 r h1) fun r s' hq => ?_)
  match r, hq with
  | .error e, hq => exact False.elim hq
  | .ok (.ret u), hq => exact I1.after hq
  | .ok .next, hq => exact False.elim hq
  | .ok .brk, hq => exact False.elim hq
  | .ok .cont, hq => exact False.elim hq
theorem roomH_mark {k : Nat} {A : Around} {o : Option Value} (r : Room k A) : L2H.RoomH k (A.mark o) := ⟨r.dp, r.un⟩
/-- isinstance(e, c) where e's object is pinned -/
theorem call_isP {a D : Addr} {oe : Obj} (hp : (a, oe) ∈ X.pn) (C : ExcC X.K D) (hz : Zc (.ref D) none oe) (hf : ∃ vs, oe.data = .fields vs) : CallR X (.builtin "isinstance") (rIsE X.K D a) := by
  intro pins s σ H xs us Q I r h
  obtain ⟨c, cv, b, rfl, hcv, e, q⟩ := h
  cases r with
  | cons rx rr =>
  cases rr with
  | cons rt rr =>
    cases rr
    cases rx
    have ec := hcv _ rt
    subst ec
    obtain ⟨hget, _⟩ := I.pin (a, oe) (List.mem_append.mpr (.inl hp))
    obtain ⟨vs, hv⟩ := hf
    have J : PySem.W.InstAt s.heap a oe D none := by
      obtain ⟨oc, od, oda, osl⟩ := oe
      obtain ⟨h1, h2⟩ := hz
      dsimp only at h1 h2 hv
      subst h1 h2 hv
      exact ⟨hget, rfl, rfl, trivial⟩
    exact PySem.W.kia_one (PySem.W.handS_kitx_exc C.hg C.hk C.hs C.hd C.ha C.hn C.ht C.hm) I.kIn J e (fun z => nomatch z) fun tk => ⟨.bl b, H, I.kept (t' := tk) fun _ _ z => z, rfl, q⟩
/-- xs.count(y) of flat values -/
def rCntF (K : PySem.W.Frag) : V → List V → Hp → VK → Prop := fun x xs H Q => ∃ (a : Addr) (ys : List V) (y : V), x = V.ref a ∧ xs = [y] ∧ SqL K H a ys ∧ flatV y = true ∧ ys.all flatV = true ∧ Q (.int ((ys.countP fun z => eqV z y : Nat) : Int)) H
theorem cnt_eqU {y : V} : ∀ {ys : List V} {us : List Value}, Vals ys us → ys.all flatV = true → us.countP (eqU y) = ys.countP fun z => eqV z y
  | _, _, .nil, _ => rfl
  | z :: ys, u :: us, .cons r t, f => by
    rw [List.all_cons, Bool.and_eq_true] at f
    rw [List.countP_cons, List.countP_cons, eqU_of r f.1, cnt_eqU t f.2]
theorem mt_countF : MtR X "list.count" (rCntF X.K) := by
  intro pins s σ H x xs v us Q I rx rxs h
  obtain ⟨a, ys, y, rfl, rfl, hs, fy, fys, q⟩ := h
  cases rx
  obtain ⟨u, rfl, ru⟩ := rxs.one
  obtain ⟨its, rv, ⟨⟨cls, dd, data, sl⟩, n, ho, hc, hdn, hd⟩, hlen⟩ := I.list hs
  simp only at hc hd
  subst hc hd
  refine call_meets PySem.F.slot_list_count ⟨_, ho, rfl⟩ PySem.F.entry_list_count (PySem.F.args_list_count_2 _ _)
    (SeqAt.list_countAt a its.toArray n dd sl u (eqU y)) ⟨ho, fun z hz => mem_eqAt ru fy rv fys z (by simpa using hz), ?_⟩
  refine ⟨.int ((ys.countP fun z => eqV z y : Nat) : Int), H, I.tok _, ⟨s.toks, ?_⟩, q⟩
  rw [List.toList_toArray, cnt_eqU rv fys]
end
section
variable {K : PySem.W.Frag} {σ : L2.St} {H : Hp} {Q : VK} {ta : TA} {v : V} {D : Ends}
theorem d_ifU {tt : TT} {ts us : TS} (q : tt σ H fun b H1 => if b = true then ts D σ H1 else us D σ H1) : tIfS tt ts us D σ H := q
theorem d_testU {te : TE} {Q : Bool → Hp → Prop} (q : te σ H fun x H' => ∃ k, x = .bl k ∧ Q k H') : tTest te σ H Q := q
theorem d_callS {sp : Sp} {E : L2.St → XK} (q : ta σ H fun vs H1 => sp vs H1 Q (E σ)) : tCallS sp E ta σ H Q := q
theorem d_rCntF {p : Addr} {ys : List V} {y : V} (h : SqL K H p ys) (fy : flatV y = true) (fys : ys.all flatV = true) (q : Q (.int ((ys.countP fun z => eqV z y : Nat) : Int)) H) : rCntF K (.ref p) [y] H Q := ⟨p, ys, y, rfl, rfl, h, fy, fys, q⟩
theorem d_rIndex {p : Addr} {ys : List V} {y z : V} (j : Nat) (h : SqL K H p ys) (fy : flatV y = true) (fys : ys.all flatV = true) (hj : ys[j]? = some z) (he : eqV z y = true) (hno : ∀ (m : Nat) (z' : V), m < j → ys[m]? = some z' → eqV z' y = false) (q : Q (.int (j : Int)) H) : rIndex K (.ref p) [y] H Q :=
  ⟨p, ys, y, j, z, rfl, rfl, h, fy, fys, hj, he, hno, q⟩
/-- isinstance of the error that is held -/
theorem d_isE {D a C : Addr} {b : Bool} (h : PySem.W.kitOne K (.ref D) (.ref C) = some b) (q : Q (.bl b) H) : rIsE K D a [.ref a, .ref C] H Q := ⟨_, .ref C, b, rfl, fun _ r => r, h, q⟩
theorem d_isEV {D a : Addr} {b : Bool} {n : String} (h : PySem.W.kitOne K (.ref D) (.type n) = some b) (q : Q (.bl b) H) : rIsE K D a [.ref a, .ty n] H Q := ⟨_, .type n, b, rfl, fun _ r => r, h, q⟩
theorem et_orT {t1 t2 : TT} (h : EvT t1 σ H true) : EvT (tOr t1 t2) σ H true := et_or (b := false) h (fun z => nomatch z)
theorem et_andF {t1 t2 : TT} (h : EvT t1 σ H false) : EvT (tAnd t1 t2) σ H false := et_and (b := false) h (fun z => nomatch z)
theorem d_gSub {to ti : TE} {t : TSet} {Q : L2.St → Hp → Prop} (q : to σ H fun o H1 => ti σ H1 fun i H2 => t o i v H2 fun H3 => Q σ H3) : gSub to ti t v σ H Q := q
theorem d_rSetL {o : Addr} {xs : List V} {k : Int} {j : Nat} {Q : Hp → Prop} (h : H o = some (.lst xs)) (hj : ixN xs.length k = some j) (q : ∀ H2, Exb o H H2 → H2 o = some (.lst (xs.set j v)) → Q H2) : rSetL (.ref o) (.int k) v H Q :=
  ⟨o, xs, k, j, rfl, rfl, h, hj, q _ Exb.upd upd_same⟩
theorem d_for1z {tu : TS} {j : Nat} {n : Int} (h : EvA ta σ H [.int n]) (hn : -100000 ≤ n ∧ n ≤ 100000) (Pv : Nat → L2.St → Hp → Prop) (h0 : ∀ H1, Ex H H1 → Pv 0 σ H1)
    (hs : ∀ (i : Nat) σ' H', (i : Int) < n → Pv i σ' H' → tu { D with nx := Pv (i + 1), ct := Pv (i + 1), bk := D.nx } (σ'.set j (some (.int (i : Int)))) H') (hd : ∀ σ' H', Pv n.toNat σ' H' → D.nx σ' H') : tFor (iRng1 ta) (gName j) tu D σ H :=
  h H (Ex.refl H) _ fun H1 e => ⟨n, rfl, by omega, by omega, for_range (lo := 0) (n := n.toNat) Pv (h0 H1 e) (fun i σ' H' hi p => by
    have e0 : (0 : Int) + (i : Int) = (i : Int) := Int.zero_add _
    show tu { D with nx := Pv (i + 1), ct := Pv (i + 1), bk := D.nx } (σ'.set j (some (.int ((0 : Int) + (i : Int))))) H'
    rw [e0]
    exact hs i σ' H' (by omega) p) hd⟩
theorem d_rLcL {tt : TT} {te : TE} {a : Addr} {xs : List V} {j : Nat} {vs : List Nat} (hx : SqL K H a xs) (hz : xs.length ≤ 100000) (R : Nat → List V → Hp → Prop)
    (hR : ∀ D i acc acc' H1 H2, Exb D H1 H2 → H1 D = some (.lst acc') → R i acc H1 → R i acc H2) (hw : ∀ x, wipe ((wipe σ vs).set j (some x)) vs = wipe σ vs) (h0 : ∀ H1, Ex H H1 → R 0 [] H1)
    (hs : ∀ i x acc H', xs[i]? = some x → Ex H H' → acc.length ≤ i → R i acc H' → ∃ b, EvT tt ((wipe σ vs).set j (some x)) H' b ∧ (b = true → ∀ H3, Ex H' H3 → EvR te ((wipe σ vs).set j (some x)) H3 (R (i + 1) <| acc ++ [·])) ∧ (b = false → ∀ H3, Ex H' H3 → R (i + 1) acc H3))
    (q : ∀ p H2 acc, H p = none → Ex H H2 → H2 p = some (.lst acc) → R xs.length acc H2 → Q (.ref p) H2) : rLc K (gName j) tt te vs σ (.ref a) H Q := ⟨a, rfl, ⟨xs, hx⟩, fun D hD =>
  lc_list (xs := xs) (Lcv R H D) ⟨[], hD, Ex.new hD, upd_same, Nat.le_refl _, h0 _ (Ex.new hD)⟩ (fun i H' _ p => ex_l p.choose_spec.2.1 hx)
    (fun i x H' hi p => ⟨hw x, lc_turn p (by have := (List.getElem?_eq_some_iff.mp hi).1; omega) hR fun acc e g r => hs i x acc H' hi e g r⟩)
    fun H' p => by
      obtain ⟨acc, p1, p2, p3, p4, p5⟩ := p
      exact q D H' acc p1 p2 p3 p5⟩
end

/-! ### texts, as lists of signs -/
open SX (S)
abbrev tV (l : List Nat) : V := .str (S l)
theorem lit_e : (Str.ofString "" : Str) = S [] := by decide +kernel
theorem lit_b : (Str.ofString " " : Str) = S [32] := by decide +kernel
theorem lit_s : (Str.ofString "/" : Str) = S [47] := by decide +kernel
theorem lit_0 : (Str.ofString "0" : Str) = S [48] := by decide +kernel
theorem lit_f : (Str.ofString "0123456789" : Str) = S [48, 49, 50, 51, 52, 53, 54, 55, 56, 57] := by decide +kernel
section
variable {X : Cx} {o e : Expr} {to te : TE} {apos pos : Pos}
def rAddT : R2 := fun x y H Q => ∃ i j, x = .str i ∧ y = .str j ∧ i.length + j.length ≤ sizeLine ∧ Q (.str (i ++ j)) H
theorem op_addT : OpR X (binaryOp .Add) rAddT := op_add_str
def rLenT : List V → Hp → VK → Prop := fun xs H Q => ∃ z, xs = [.str z] ∧ z.length ≤ sizeLine ∧ Q (.int z.length) H
theorem call_lenT : CallR X (.builtin "len") rLenT := call_len_str
def rStrI : List V → Hp → VK → Prop := fun xs H Q => ∃ i, xs = [.int i] ∧ i.natAbs.log2 < 1920 ∧ Q (.str (toString i)) H
theorem call_strI : CallR X (.type "str") rStrI := call_str_int
def rIntT : List V → Hp → VK → Prop := fun xs H Q => ∃ a n, xs = [.str a] ∧ PySem.intText? a = some n ∧ a.length ≤ 640 ∧ Q (.int n) H
theorem call_intT : CallR X (.type "int") rIntT := call_int_str
def rSplitT : V → List V → Hp → VK → Prop := fun x xs H Q => ∃ a b, x = .str a ∧ xs = [.str b] ∧ (b.length == 0) = false ∧ a.length + 2 ≤ sizeLine ∧ rNewStrs (Txt.split a b) H Q
theorem pe_splitT (ho : PE X o to) (he : PE X e te) (hs : starEach [e] X.env = [(false, eval e X.env)] := by rfl) (hbase : attributeBase o "split" X.env (eval o X.env) = eval o X.env := by rfl) (hline : (apos.endLine == pos.line) = true := by rfl) :
    PE X (.Call (.Attribute o "split" apos) [e] [] pos) (tM1 rSplitT to te) := pe_split ho he hs hbase hline
def rJoinT (K : PySem.W.Frag) : V → List V → Hp → VK → Prop := fun x xs H Q => ∃ a p, ∃ ys : List Str, x = .str a ∧ xs = [.ref p] ∧ (SqL K H p (ys.map V.str) ∨ SqT K H p (ys.map V.str)) ∧ (ys.map (·.length)).sum + ys.length * a.length ≤ 16777216 ∧ Q (.str (Txt.join a ys)) H
theorem pe_joinT (ho : PE X o to) (he : PE X e te) (hs : starEach [e] X.env = [(false, eval e X.env)] := by rfl) (hbase : attributeBase o "join" X.env (eval o X.env) = eval o X.env := by rfl) (hline : (apos.endLine == pos.line) = true := by rfl) :
    PE X (.Call (.Attribute o "join" apos) [e] [] pos) (tM1 (rJoinT X.K) to te) := pe_join ho he hs hbase hline
end
section
variable {K : PySem.W.Frag} {σ : L2.St} {H H0 : Hp} {Q : VK} {te tl to : TE} {D : Ends} {ts : TS} {a b : List Nat} {v x y : V} {i n : Int}
theorem d_cT {s : Str} {l : List Nat} (h : s = S l) (q : Q (tV l) H) : tC (.str s) σ H Q := by
  subst h
  exact q
theorem d_addT (hl : a.length + b.length ≤ 100000) (q : Q (tV (a ++ b)) H) : rAddT (tV a) (tV b) H Q := by
  have e : V.str (S a ++ S b) = tV (a ++ b) := congrArg V.str (SX.S_cat a b)
  exact ⟨_, _, rfl, rfl, sz_of (by rw [SX.S_len, SX.S_len]; exact hl), by rw [e]; exact q⟩
theorem d_lenStr (hl : a.length ≤ 100000) (q : Q (.int (a.length : Int)) H) : rLenT [tV a] H Q := ⟨_, rfl, sz_of (by rw [SX.S_len]; exact hl), by rw [SX.S_len]; exact q⟩
theorem d_strI (h0 : 0 ≤ n) (h1 : n ≤ 1000000000000000000000000000000) (q : Q (tV (TL.numL n.toNat)) H) : rStrI [.int n] H Q := by
  obtain ⟨m, rfl⟩ := Int.eq_ofNat_of_zero_le h0
  refine ⟨_, rfl, ?_, ?_⟩
  · show m.log2 < 1920
    by_cases c : m = 0
    · rw [c]; decide
    · rw [Nat.log2_lt c]
      have h2 : m ≤ 1000000000000000000000000000000 := by omega
      have h3 : 1000000000000000000000000000000 < 2 ^ 100 := by decide
      have h4 : 2 ^ 100 ≤ 2 ^ 1920 := Nat.pow_le_pow_right (by decide) (by decide)
      exact Nat.lt_of_le_of_lt h2 (Nat.lt_of_lt_of_le h3 h4)
  · rw [show (Str.ofString (toString ((m : Nat) : Int)) : Str) = S (TL.numL m) from SX.num_S m]
    exact q
theorem d_intT (h : PySem.intText? (S a) = some n) (hl : a.length ≤ 640) (q : Q (.int n) H) : rIntT [tV a] H Q := ⟨_, n, rfl, h, by rw [SX.S_len]; exact hl, q⟩
theorem d_ixS {c : Nat} (hl : a.length ≤ 100000) (ha : atI a i = some c) (q : Q (tV [c]) H) : rIxS (tV a) (.int i) H Q := ⟨_, i, c, rfl, rfl, sz_of (by rw [SX.S_len]; exact hl), ha, q⟩
theorem d_inS {c : Nat} (q : Q (.bl (decide (c ∈ b))) H) : rInS (tV [c]) (tV b) H Q := ⟨c, _, rfl, rfl, q⟩
theorem d_notInS {c : Nat} (q : Q (.bl (!decide (c ∈ b))) H) : rNotInS (tV [c]) (tV b) H Q := ⟨c, _, rfl, rfl, q⟩
theorem str_tl {a b : Str} : a.cps.toList = b.cps.toList ↔ a = b := ⟨fun h => TL.ext_tl h, fun h => by rw [h]⟩
theorem dec_S (a b : List Nat) : decide (S a = S b) = decide (a = b) := by
  rw [Bool.eq_iff_iff, decide_eq_true_eq, decide_eq_true_eq]
  exact ⟨SX.S_inj, fun e => by rw [e]⟩
theorem d_eqSS (q : Q (.bl (decide (a = b))) H) : rEq (tV a) (tV b) H Q := d_eqS (by rw [dec_S]; exact q)
theorem d_neSS (q : Q (.bl (!decide (a = b))) H) : rNe (tV a) (tV b) H Q := d_neS (by rw [dec_S]; exact q)
def rM1 (r : V → List V → Hp → VK → Prop) (te : TE) (σ : L2.St) (x : V) (H : Hp) (Q : VK) : Prop := (∃ a, x = .str a) ∧ te σ H fun y H2 => r x [y] H2 Q
theorem d_m1 {r : V → List V → Hp → VK → Prop} (q : to σ H fun x H1 => rM1 r te σ x H1 Q) : tM1 r to te σ H Q := q
theorem d_rM1 {r : V → List V → Hp → VK → Prop} {z : Str} (q : te σ H fun y H2 => r (.str z) [y] H2 Q) : rM1 r te σ (.str z) H Q := ⟨⟨_, rfl⟩, q⟩
theorem d_rSplit {c : Nat} (hc : c < 256) (hl : a.length ≤ 100000) (q : ∀ p H2, H p = none → Ex H H2 → H2 p = some (.lst ((TL.spl [c] 0 [] a).map tV)) → Q (.ref p) H2) : rSplitT (tV a) [tV [c]] H Q := by
  refine ⟨_, _, rfl, rfl, rfl, ?_, fun p hp => ?_⟩
  · rw [SX.S_len, sizeLine_eq]; omega
  · refine q p _ hp (Ex.new hp) ?_
    rw [upd_same, SX.split_S (by simp) (by simp; exact hc), List.map_map]
    rfl
theorem d_rJoin {p : Addr} {ys : List (List Nat)} (h : SqL K H p (ys.map tV)) (hz : (ys.map (·.length)).sum + ys.length * a.length ≤ 100000) (q : Q (tV (TL.joinL a ys)) H) : rJoinT K (tV a) [.ref p] H Q := by
  refine ⟨_, p, ys.map S, rfl, rfl, .inl ?_, ?_, ?_⟩
  · rw [List.map_map]
    exact h
  · rw [SX.lens, List.length_map, SX.S_len]
    omega
  · rw [SX.join_S]
    exact q
/-- for over a text -/
theorem d_forStr {j : Nat} (h : Ev tl σ H (tV a)) (Pv : Nat → L2.St → Hp → Prop) (h0 : ∀ H1, Ex H H1 → Pv 0 σ H1)
    (hs : ∀ i c σ' H', a[i]? = some c → Pv i σ' H' → ts { D with nx := Pv (i + 1), ct := Pv (i + 1), bk := D.nx } (σ'.set j (some (tV [c]))) H') (hd : ∀ σ' H', Pv a.length σ' H' → D.nx σ' H') : tFor (iStr tl) (gName j) ts D σ H :=
  h H (Ex.refl H) _ fun H1 e => ⟨_, rfl, for_it (walk_str (z := S a)) Pv (h0 H1 e) (fun _ _ _ _ _ => trivial) (fun i x σ' H' H2 _ p y => by
    obtain ⟨rfl, c, hc, rfl⟩ := y
    exact hs i c σ' _ (by rw [← hc]; simp) p) (fun σ' H' p => hd σ' H' (by have e : (S a).cps.size = a.length := by simp
                                                                           rw [← e]; exact p))⟩
end
end Tk

namespace Tk
open PySem PySem.Spec PyProof.Rows L2 Evl

/-! ### the quotients -/
def euN (g s : Nat) : List Int := if h : s = 0 then [] else ((g / s : Nat) : Int) :: euN s (g % s)
termination_by s
decreasing_by exact Nat.mod_lt _ (Nat.pos_of_ne_zero h)
def eu (g s : Int) : List Int := euN g.toNat s.toNat
theorem euN_zero (g : Nat) : euN g 0 = [] := by rw [euN]; rfl
theorem euN_step {g s : Nat} (h : 0 < s) : euN g s = ((g / s : Nat) : Int) :: euN s (g % s) := by
  rw [euN, dif_neg (by omega)]
theorem eu_zero {g s : Int} (h : s ≤ 0) : eu g s = [] := by
  unfold eu
  rw [show s.toNat = 0 by omega]
  exact euN_zero _
theorem eu_step {g s : Int} (hg : 0 ≤ g) (hs : 0 < s) : eu g s = g / s :: eu s (g % s) := by
  obtain ⟨a, rfl⟩ := Int.eq_ofNat_of_zero_le hg
  obtain ⟨b, rfl⟩ := Int.eq_ofNat_of_zero_le (Int.le_of_lt hs)
  have hb : 0 < b := by omega
  show euN a b = _ :: euN b (((a : Int) % (b : Int)).toNat)
  rw [euN_step hb]
  rfl
theorem half_mod {s r : Nat} (h0 : 0 < r) (h : r < s) : s % r < (s + 1) / 2 := by
  by_cases c : 2 * r ≤ s
  · have := Nat.mod_lt s h0
    omega
  · have e : s % r = s - r := by
      rw [Nat.mod_eq_sub_mod (by omega), Nat.mod_eq_of_lt (by omega)]
    omega
theorem euN_len : ∀ (k g s : Nat), s < 2 ^ k → (euN g s).length ≤ 2 * k
  | 0, g, s, h => by
    have e : s = 0 := by simpa using h
    rw [e, euN_zero]
    exact Nat.le_refl _
  | k + 1, g, s, h => by
    by_cases c : s = 0
    · rw [c, euN_zero]; simp
    · rw [euN_step (by omega)]
      by_cases d : g % s = 0
      · rw [d, euN_zero]; simp; omega
      · rw [euN_step (by omega)]
        have h1 : g % s < s := Nat.mod_lt _ (by omega)
        have h2 := half_mod (by omega : 0 < g % s) h1
        have h3 : s % (g % s) < 2 ^ k := by
          rw [Nat.pow_succ] at h
          omega
        have := euN_len k (g % s) (s % (g % s)) h3
        simp only [List.length_cons]
        omega
theorem eu_len {g s : Int} (h : s ≤ 1000000000000000000000000000000) : (eu g s).length ≤ 200 := by
  refine euN_len 100 _ _ ?_
  have e : (2 : Nat) ^ 100 = 1267650600228229401496703205376 := by decide
  rw [e]
  omega
/-- the quotients of the pair x, y -/
def qs (x y : Int) : List Int := eu (max x y) (min x y)
theorem qs_comm (x y : Int) : qs x y = qs y x := by
  unfold qs
  rw [Int.max_comm, Int.min_comm]
theorem qs_len {x y : Int} (h : x ≤ 1000000000000000000000000000000) : (qs x y).length ≤ 200 := eu_len (by omega)
theorem take_succ' {α : Type} {l : List α} {i : Nat} {x : α} (h : l[i]? = some x) : l.take (i + 1) = l.take i ++ [x] := by
  rw [List.take_succ, h]
  rfl

local macro_rules | `(tactic| walk_at "ps") => `(tactic| first
  | assumption
  | (apply PrS.mono; (· assumption); walk_at "ps")
  | fail "ps")
local macro_rules | `(tactic| walk_at "pr") => `(tactic| first
  | assumption
  | (apply PrS.pr; assumption)
  | exact Pr.of (by assumption)
  | (apply Pr.mono; (· assumption); walk_at "pr")
  | (apply Exb.pr; (· assumption); (· walk_at "hl"); walk_at "pr")
  | fail "pr")
local macro_rules | `(tactic| walk_at "ex") => `(tactic| first
  | exact Ex.refl _
  | assumption
  | exact Ex.new (by assumption)
  | (refine Ex.trans ?_ (by assumption); walk_at "ex")
  | (apply Exb.base; (· assumption); (· walk_at "fr"); walk_at "ex")
  | fail "ex")
local macro_rules | `(tactic| walk_at "fr") => `(tactic| first
  | assumption
  | (apply fresh_back; rotate_left; (· assumption); walk_at "ex")
  | fail "fr")
local macro_rules | `(tactic| walk_at "hl") => `(tactic| first
  | assumption
  | (apply Ex.at; (· assumption); walk_at "hl")
  | fail "hl")
local macro_rules | `(tactic| walk_at "len") => `(tactic| first
  | (exact sz_lt (by omega))
  | (exact sz_lt (by simp; omega))
  | (exact sz_lt (by simp))
  | assumption
  | fail "len")
local macro_rules | `(tactic| walk_at "sz") => `(tactic| first
  | omega
  | (simp; omega)
  | (simp; done)
  | fail "sz")
local macro_rules | `(tactic| walk_at "at") => `(tactic| first
  | assumption
  | exact rfl
  | exact at_int (by assumption)
  | fail "at")
local macro_rules | `(tactic| walk_at "sl") => `(tactic| first
  | assumption
  | exact sq_of (by assumption)
  | (apply ex_l; (· assumption); walk_at "sl")
  | fail "sl")
local macro_rules | `(tactic| walk_at "st") => `(tactic| first
  | assumption
  | exact st_of (by assumption)
  | (apply ex_t; (· assumption); walk_at "st")
  | fail "st")
local macro_rules | `(tactic| walk_at "tb") => `(tactic| first
  | assumption
  | exact ⟨_, _, rfl, sq_of (by assumption), by assumption⟩
  | exact Tb.nil (by assumption)
  | (apply Tb.mono; (· assumption); walk_at "tb")
  | fail "tb")
local macro_rules | `(tactic| walk_at "nx") => `(tactic| ((try with_reducible refine d_gName ?_); (try dsimp only [List.set, wipe])))
local macro_rules | `(tactic| walk_at "side") => `(tactic| first
  | assumption
  | exact divW (by omega) (by omega)
  | (show (0 : Int) < _; omega)
  | exact mulW ⟨by omega, by omega⟩ ⟨by omega, by omega⟩
  | exact ⟨by decide, by decide, by decide⟩
  | decide
  | omega
  | fail "side")
local macro_rules | `(tactic| walk_at "bd") => `(tactic| first
  | assumption
  | exact ⟨by omega, by omega⟩
  | fail "bd")
local macro_rules | `(tactic| walk_at "gd") => `(tactic| first
  | assumption
  | exact ⟨by omega, by omega⟩
  | fail "gd")
local macro_rules | `(tactic| walk_at "ty") => `(tactic| first
  | exact ty_int
  | exact ty_bl
  | exact ty_str
  | exact ty_non
  | (apply ty_list; walk_at "sl")
  | (apply ty_pr; walk_at "pr")
  | (apply ty_tup; walk_at "st")
  | fail "ty")
local macro_rules | `(tactic| walk_at "lit") => `(tactic| first
  | (with_reducible exact lit_e)
  | (with_reducible exact lit_b)
  | (with_reducible exact lit_s)
  | (with_reducible exact lit_0)
  | (with_reducible exact lit_f)
  | fail "lit")
local macro_rules | `(tactic| walk_at "spcall") => `(tactic| fail)
local macro_rules | `(tactic| walk_at "go1") => `(tactic| (first
  | ((with_reducible apply d_var); (· exact rfl))
  | ((with_reducible apply d_cT); (· walk_at "lit"))
  | (with_reducible refine d_c ?_)
  | (with_reducible refine d_op ?_)
  | (with_reducible refine d_un ?_)
  | (with_reducible refine d_pow30 ?_)
  | (with_reducible refine d_pow20 ?_)
  | (with_reducible refine d_pow9 ?_)
  | (with_reducible refine d_rI0 ?_)
  | ((with_reducible refine d_rI ?_ ?_); (· walk_at "side"))
  | (with_reducible refine d_rU ?_)
  | (with_reducible refine d_eqI ?_)
  | (with_reducible refine d_neI ?_)
  | (with_reducible refine d_eqSS ?_)
  | (with_reducible refine d_neSS ?_)
  | ((with_reducible apply d_addT); (· walk_at "sz"))
  | ((with_reducible apply d_lenStr); (· walk_at "sz"))
  | ((with_reducible apply d_strI); (· omega); (· omega))
  | ((with_reducible apply d_ixS); (· walk_at "sz"); (· walk_at "at"))
  | (with_reducible refine d_inS ?_)
  | (with_reducible refine d_notInS ?_)
  | (with_reducible refine d_m1 ?_)
  | (with_reducible refine d_rM1 ?_)
  | ((with_reducible apply d_rSplit); (· decide); (· walk_at "sz"); intro _ _ _ _ _)
  | (with_reducible refine d_eqS ?_)
  | (with_reducible refine d_neS ?_)
  | (with_reducible refine d_eqB ?_)
  | (with_reducible refine d_nil ?_)
  | (with_reducible refine d_cons ?_)
  | (with_reducible refine d_tup ?_)
  | (with_reducible refine d_lst ?_)
  | ((with_reducible refine d_newP ?_); intro _ _ _ _)
  | ((with_reducible refine d_newT ?_ ?_); (· (simp; done)); intro _ _ _ _ _)
  | ((with_reducible refine d_newL ?_ ?_); (· (simp; done)); intro _ _ _ _ _)
  | (with_reducible refine d_call ?_)
  | (with_reducible refine d_cb ?_)
  | ((with_reducible apply d_maxT); (· walk_at "pr"))
  | ((with_reducible apply d_minT); (· walk_at "pr"))
  | (with_reducible refine d_max2 ?_)
  | (with_reducible refine d_min2 ?_)
  | ((with_reducible apply d_ixP0); (· walk_at "pr"))
  | ((with_reducible apply d_ixP1); (· walk_at "pr"))
  | ((with_reducible apply d_ixL); (· walk_at "sl"); (· walk_at "at"))
  | ((with_reducible apply d_ixT); (· walk_at "st"); (· walk_at "at"))
  | ((with_reducible apply d_eqP); (· walk_at "pr"); (· walk_at "pr"))
  | ((with_reducible apply d_neP); (· walk_at "pr"); (· walk_at "pr"))
  | ((with_reducible apply d_eqT); (· walk_at "tb"); (· walk_at "tb"))
  | ((with_reducible apply d_neT); (· walk_at "tb"); (· walk_at "tb"))
  | ((with_reducible apply d_listT); (· walk_at "tb"); intro _ _ _ _ _ _ _ _)
  | ((with_reducible apply d_listL); (· walk_at "sl"); intro _ _ _ _ _)
  | ((with_reducible apply d_lenT); (· walk_at "tb"))
  | ((with_reducible apply d_ixTb); (· walk_at "tb"); (· assumption); intro _ _)
  | ((with_reducible apply d_len); (· walk_at "sl"))
  | ((with_reducible apply d_lenP); (· walk_at "pr"))
  | ((with_reducible apply d_sum); (· walk_at "sl"))
  | (with_reducible refine d_dnot ?_)
  | (with_reducible refine d_dget ?_)
  | (with_reducible refine d_dput ?_)
  | ((with_reducible refine d_dnew ?_); intro _ _ _ _ _)
  | ((with_reducible apply d_rDNot); (· walk_at "hl"); (· walk_at "ps"))
  | (with_reducible refine d_neB ?_)
  | (with_reducible refine d_sl ?_)
  | (with_reducible refine d_noPart ?_)
  | (with_reducible refine d_part ?_)
  | (with_reducible refine d_rPart ?_)
  | ((with_reducible apply d_slTake); (· walk_at "tb"); (· omega); intro _ _ _ _ _ _ _)
  | ((with_reducible apply d_slDrop); (· walk_at "tb"); (· omega); intro _ _ _ _ _ _ _)
  | ((with_reducible apply d_cat); (· walk_at "hl"); (· walk_at "hl"); (· walk_at "sz"); intro _ _ _ _ _)
  | ((with_reducible apply d_inP); (· walk_at "pr"); (· walk_at "tb"))
  | ((with_reducible apply d_notInP); (· walk_at "pr"); (· walk_at "tb"))
  | (with_reducible refine d_lenSet ?_)
  | ((with_reducible apply d_rLenSet); (· walk_at "sl"); (· assumption); (· assumption))
  | ((with_reducible apply d_inI); (· walk_at "sl"))
  | ((with_reducible apply d_notInI); (· walk_at "sl"))
  | (with_reducible refine d_isNn ?_)
  | (with_reducible refine d_notNn ?_)
  | (with_reducible refine d_intB ?_)
  | ((with_reducible apply d_isi); (· walk_at "ty"); (· first | exact k_ii | exact k_ib | exact k_bb | exact k_ll | exact k_tt | exact k_ss | exact k_ls))
  | (with_reducible refine d_callS ?_)
  | ((with_reducible apply d_isE); (· assumption))
  | ((with_reducible apply d_isEV); (· assumption))
  | ((with_reducible apply d_rCntF); (· walk_at "sl"); (· exact rfl); (· exact rfl))
  | walk_at "spcall"
  | (with_reducible refine d_bmL ?_)
  | ((with_reducible apply d_rBmL); (· walk_at "sl"))
  | ((with_reducible apply d_append); (· walk_at "hl"); (· walk_at "len"); intro _ _ _)
  | (with_reducible refine d_seq ?_)
  | (with_reducible refine d_asg ?_)
  | (with_reducible refine d_asgG ?_)
  | ((with_reducible apply d_gTupP); (· walk_at "pr"))
  | (with_reducible refine d_gSub ?_)
  | ((with_reducible apply d_gTup2); (· walk_at "st"))
  | (with_reducible refine d_ret ?_)
  | (with_reducible refine d_retN ?_)
  | (with_reducible refine d_drop ?_)
  | (with_reducible refine d_next ?_)
  | (with_reducible refine d_par ?_)
  | (with_reducible refine d_rPar ?_)
  | fail "go1"); walk_at "nx")
local macro_rules | `(tactic| walk_at "go") => `(tactic| repeat walk_at "go1")
/- an expression's value -/
local macro_rules | `(tactic| walk_at "ev") => `(tactic| first
  | ((with_reducible apply ev_andV); (· walk_at "ev"); (· intro hb; (try simp only [Bool.and_eq_true, Bool.or_eq_true, decide_eq_true_eq, Bool.not_eq_true', decide_eq_false_iff_not, Bool.or_eq_false_iff, Bool.not_eq_false', Bool.not_eq_false, Bool.not_eq_true] at hb) ; walk_at "ev"))
  | ((with_reducible apply ev_orV); (· walk_at "ev"); (· intro hb; (try simp only [Bool.and_eq_true, Bool.or_eq_true, decide_eq_true_eq, Bool.not_eq_true', decide_eq_false_iff_not, Bool.or_eq_false_iff, Bool.not_eq_false', Bool.not_eq_false, Bool.not_eq_true] at hb) ; walk_at "ev"))
  | ((with_reducible apply ev_notV); walk_at "ev")
  | ((with_reducible apply ev_chain); (· walk_at "ev"); (· walk_at "ev"); (· walk_at "ev"))
  | ((with_reducible apply ev_intro); intro _ _ _ q; walk_at "nx"; walk_at "go"; exact q _ (by walk_at "ex"))
  | fail "ev")
/- a test's -/
local macro_rules | `(tactic| walk_at "et") => `(tactic| first
  | ((with_reducible apply et_and); (· walk_at "et"); (· intro hb; (try simp only [Bool.and_eq_true, Bool.or_eq_true, decide_eq_true_eq, Bool.not_eq_true', decide_eq_false_iff_not, Bool.or_eq_false_iff, Bool.not_eq_false', Bool.not_eq_false, Bool.not_eq_true] at hb) ; walk_at "et"))
  | ((with_reducible apply et_or); (· walk_at "et"); (· intro hb; (try simp only [Bool.and_eq_true, Bool.or_eq_true, decide_eq_true_eq, Bool.not_eq_true', decide_eq_false_iff_not, Bool.or_eq_false_iff, Bool.not_eq_false', Bool.not_eq_false, Bool.not_eq_true] at hb) ; walk_at "et"))
  | ((with_reducible apply et_not); walk_at "et")
  | ((with_reducible apply et_test); walk_at "ev")
  | ((with_reducible apply et_B); walk_at "ev")
  | fail "et")
local macro_rules | `(tactic| walk_at "if") => `(tactic| ((with_reducible apply d_if); (· walk_at "et")))
local macro_rules | `(tactic| walk_at "ea") => `(tactic| first
  | exact ea_nil
  | ((with_reducible apply ea_cons); (· walk_at "ev"); walk_at "ea")
  | fail "ea")
local macro_rules | `(tactic| walk_at "eu") => `(tactic| (apply eu_tup; (· walk_at "ea"); (· simp)))
local macro_rules | `(tactic| walk_at "el") => `(tactic| (apply el_lst; (· walk_at "ea"); (· simp)))

def topS (i : Nat) : Stmt := PySem.Challenge.pw_takepairs_k14_refused.main.body.getD i (.Pass ⟨0, 0, 0, 0⟩)
abbrev s_asked_pair : Stmt := topS 9
abbrev s_quotients_of : Stmt := topS 10
abbrev s_moves_of : Stmt := topS 12
abbrev s_behind : Stmt := topS 14
abbrev s_worth_of : Stmt := topS 17
abbrev s_added : Stmt := topS 24
abbrev s__law_cell_at : Stmt := topS 37
abbrev s__law_word_of : Stmt := topS 38
abbrev s__law_pile_by : Stmt := topS 39
abbrev s_quotients : Stmt := topS 11
abbrev s_moves : Stmt := topS 13
abbrev s_taken : Stmt := topS 15
abbrev s_worth : Stmt := topS 18
abbrev s_leading_of : Stmt := topS 19
abbrev s_asked_table : Stmt := topS 23
abbrev s__law_pair_by : Stmt := topS 40
abbrev s_leading : Stmt := topS 20
abbrev s_together : Stmt := topS 25
abbrev s_moved : Stmt := topS 28
abbrev s_shown : Stmt := topS 30
abbrev s_shortest : Stmt := topS 33
abbrev s_longest : Stmt := topS 34
abbrev s_wins : Stmt := topS 26
abbrev s_winning : Stmt := topS 27
abbrev s_plays : Stmt := topS 35
abbrev s__law_of_pair : Stmt := topS 41
abbrev s__law_of_table : Stmt := topS 42
abbrev s__law_tried : Stmt := topS 43
abbrev s_law : Stmt := topS 44
structure Txt (K : PySem.W.Frag) (mg : Str → Option Value) (cs : Cs) : Prop where
  x_TakeError : Xc K mg "TakeError" cs.TakeError
  x_NoPair : Xc K mg "NoPair" cs.NoPair
  x_NoTable : Xc K mg "NoTable" cs.NoTable
  x_NoMove : Xc K mg "NoMove" cs.NoMove
  x_TooLong : Xc K mg "TooLong" cs.TooLong
  x_NoNote : Xc K mg "NoNote" cs.NoNote
  m_NoPair : PySem.W.exmOne K (.ref cs.NoPair) (.ref cs.TakeError) = some true
  m_NoTable : PySem.W.exmOne K (.ref cs.NoTable) (.ref cs.TakeError) = some true
  m_NoMove : PySem.W.exmOne K (.ref cs.NoMove) (.ref cs.TakeError) = some true
  m_TooLong : PySem.W.exmOne K (.ref cs.TooLong) (.ref cs.TakeError) = some true
  m_NoNote : PySem.W.exmOne K (.ref cs.NoNote) (.ref cs.TakeError) = some true
  k_NoPair_NoPair : PySem.W.kitOne K (.ref cs.NoPair) (.ref cs.NoPair) = some true
  k_NoPair_NoTable : PySem.W.kitOne K (.ref cs.NoPair) (.ref cs.NoTable) = some false
  k_NoPair_NoMove : PySem.W.kitOne K (.ref cs.NoPair) (.ref cs.NoMove) = some false
  k_NoPair_TooLong : PySem.W.kitOne K (.ref cs.NoPair) (.ref cs.TooLong) = some false
  k_NoPair_NoNote : PySem.W.kitOne K (.ref cs.NoPair) (.ref cs.NoNote) = some false
  k_NoTable_NoPair : PySem.W.kitOne K (.ref cs.NoTable) (.ref cs.NoPair) = some false
  k_NoTable_NoTable : PySem.W.kitOne K (.ref cs.NoTable) (.ref cs.NoTable) = some true
  k_NoTable_NoMove : PySem.W.kitOne K (.ref cs.NoTable) (.ref cs.NoMove) = some false
  k_NoTable_TooLong : PySem.W.kitOne K (.ref cs.NoTable) (.ref cs.TooLong) = some false
  k_NoTable_NoNote : PySem.W.kitOne K (.ref cs.NoTable) (.ref cs.NoNote) = some false
  k_NoMove_NoPair : PySem.W.kitOne K (.ref cs.NoMove) (.ref cs.NoPair) = some false
  k_NoMove_NoTable : PySem.W.kitOne K (.ref cs.NoMove) (.ref cs.NoTable) = some false
  k_NoMove_NoMove : PySem.W.kitOne K (.ref cs.NoMove) (.ref cs.NoMove) = some true
  k_NoMove_TooLong : PySem.W.kitOne K (.ref cs.NoMove) (.ref cs.TooLong) = some false
  k_NoMove_NoNote : PySem.W.kitOne K (.ref cs.NoMove) (.ref cs.NoNote) = some false
  k_TooLong_NoPair : PySem.W.kitOne K (.ref cs.TooLong) (.ref cs.NoPair) = some false
  k_TooLong_NoTable : PySem.W.kitOne K (.ref cs.TooLong) (.ref cs.NoTable) = some false
  k_TooLong_NoMove : PySem.W.kitOne K (.ref cs.TooLong) (.ref cs.NoMove) = some false
  k_TooLong_TooLong : PySem.W.kitOne K (.ref cs.TooLong) (.ref cs.TooLong) = some true
  k_TooLong_NoNote : PySem.W.kitOne K (.ref cs.TooLong) (.ref cs.NoNote) = some false
  k_NoNote_NoPair : PySem.W.kitOne K (.ref cs.NoNote) (.ref cs.NoPair) = some false
  k_NoNote_NoTable : PySem.W.kitOne K (.ref cs.NoNote) (.ref cs.NoTable) = some false
  k_NoNote_NoMove : PySem.W.kitOne K (.ref cs.NoNote) (.ref cs.NoMove) = some false
  k_NoNote_TooLong : PySem.W.kitOne K (.ref cs.NoNote) (.ref cs.TooLong) = some false
  k_NoNote_NoNote : PySem.W.kitOne K (.ref cs.NoNote) (.ref cs.NoNote) = some true
  b_ValueError : mg "ValueError" = none
  b_enumerate : mg "enumerate" = none
  b_int : mg "int" = none
  b_isinstance : mg "isinstance" = none
  b_len : mg "len" = none
  b_list : mg "list" = none
  b_max : mg "max" = none
  b_min : mg "min" = none
  b_range : mg "range" = none
  b_str : mg "str" = none
  b_sum : mg "sum" = none
  g_GREATEST : ∃ u, mg "GREATEST" = some u ∧ RelV (.int 1000000000000000000000000000000) u
  g_MOST : ∃ u, mg "MOST" = some u ∧ RelV (.int 6) u
  g_MOST_MOVES : ∃ u, mg "MOST_MOVES" = some u ∧ RelV (.int 200) u
theorem sc_asked_pair : FnScope ["pair", "pile"] ["pair"] (defScope s_asked_pair) := ⟨rfl, rfl, rfl, by decide +kernel, rfl, by decide +kernel, by decide +kernel⟩
theorem sc_quotients_of : FnScope ["pair", "great", "small", "found", "rest"] ["pair"] (defScope s_quotients_of) := ⟨rfl, rfl, rfl, by decide +kernel, rfl, by decide +kernel, by decide +kernel⟩
theorem sc_moves_of : FnScope ["pair"] ["pair"] (defScope s_moves_of) := ⟨rfl, rfl, rfl, by decide +kernel, rfl, by decide +kernel, by decide +kernel⟩
theorem sc_behind : FnScope ["pair", "times"] ["pair", "times"] (defScope s_behind) := ⟨rfl, rfl, rfl, by decide +kernel, rfl, by decide +kernel, by decide +kernel⟩
theorem sc_worth_of : FnScope ["pair", "great", "small"] ["pair"] (defScope s_worth_of) := ⟨rfl, rfl, rfl, by decide +kernel, rfl, by decide +kernel, by decide +kernel⟩
theorem sc_added : FnScope ["one", "other", "total", "figure"] ["one", "other"] (defScope s_added) := ⟨rfl, rfl, rfl, by decide +kernel, rfl, by decide +kernel, by decide +kernel⟩
theorem sc__law_cell_at : FnScope ["script", "k"] ["script", "k"] (defScope s__law_cell_at) := ⟨rfl, rfl, rfl, by decide +kernel, rfl, by decide +kernel, by decide +kernel⟩
theorem sc__law_word_of : FnScope ["e", "kinds"] ["e"] (defScope s__law_word_of) := ⟨rfl, rfl, rfl, by decide +kernel, rfl, by decide +kernel, by decide +kernel⟩
theorem sc__law_pile_by : FnScope ["cell", "kind"] ["cell"] (defScope s__law_pile_by) := ⟨rfl, rfl, rfl, by decide +kernel, rfl, by decide +kernel, by decide +kernel⟩
theorem sc_quotients : FnScope ["pair"] ["pair"] (defScope s_quotients) := ⟨rfl, rfl, rfl, by decide +kernel, rfl, by decide +kernel, by decide +kernel⟩
theorem sc_moves : FnScope ["pair"] ["pair"] (defScope s_moves) := ⟨rfl, rfl, rfl, by decide +kernel, rfl, by decide +kernel, by decide +kernel⟩
theorem sc_taken : FnScope ["pair", "times"] ["pair", "times"] (defScope s_taken) := ⟨rfl, rfl, rfl, by decide +kernel, rfl, by decide +kernel, by decide +kernel⟩
theorem sc_worth : FnScope ["pair"] ["pair"] (defScope s_worth) := ⟨rfl, rfl, rfl, by decide +kernel, rfl, by decide +kernel, by decide +kernel⟩
theorem sc_leading_of : FnScope ["pair", "aim", "most", "quotient", "left", "times"] ["pair", "aim"] (defScope s_leading_of) := ⟨rfl, rfl, rfl, by decide +kernel, rfl, by decide +kernel, by decide +kernel⟩
theorem sc_asked_table : FnScope ["table", "pair"] ["table"] (defScope s_asked_table) := ⟨rfl, rfl, rfl, by decide +kernel, rfl, by decide +kernel, by decide +kernel⟩
theorem sc__law_pair_by : FnScope ["script", "at", "one", "other", "cell", "k"] ["script", "at"] (defScope s__law_pair_by) := ⟨rfl, rfl, rfl, by decide +kernel, rfl, by decide +kernel, by decide +kernel⟩
theorem sc_leading : FnScope ["pair", "aim"] ["pair", "aim"] (defScope s_leading) := ⟨rfl, rfl, rfl, by decide +kernel, rfl, by decide +kernel, by decide +kernel⟩
theorem sc_together : FnScope ["table", "total", "pair"] ["table"] (defScope s_together) := ⟨rfl, rfl, rfl, by decide +kernel, rfl, by decide +kernel, by decide +kernel⟩
theorem sc_moved : FnScope ["table", "number", "times"] ["table", "number", "times"] (defScope s_moved) := ⟨rfl, rfl, rfl, by decide +kernel, rfl, by decide +kernel, by decide +kernel⟩
theorem sc_shown : FnScope ["table", "pair"] ["table"] (defScope s_shown) := ⟨rfl, rfl, rfl, by decide +kernel, rfl, by decide +kernel, by decide +kernel⟩
theorem sc_shortest : FnScope ["pair", "found"] ["pair"] (defScope s_shortest) := ⟨rfl, rfl, rfl, by decide +kernel, rfl, by decide +kernel, by decide +kernel⟩
theorem sc_longest : FnScope ["pair"] ["pair"] (defScope s_longest) := ⟨rfl, rfl, rfl, by decide +kernel, rfl, by decide +kernel, by decide +kernel⟩
theorem sc_wins : FnScope ["table"] ["table"] (defScope s_wins) := ⟨rfl, rfl, rfl, by decide +kernel, rfl, by decide +kernel, by decide +kernel⟩
theorem sc_winning : FnScope ["table", "total", "found", "number", "pair", "times"] ["table"] (defScope s_winning) := ⟨rfl, rfl, rfl, by decide +kernel, rfl, by decide +kernel, by decide +kernel⟩
theorem sc_plays : FnScope ["pair", "twos", "total", "k", "quotient"] ["pair"] (defScope s_plays) := ⟨rfl, rfl, rfl, by decide +kernel, rfl, by decide +kernel, by decide +kernel⟩
theorem sc__law_of_pair : FnScope ["which", "pair"] ["which", "pair"] (defScope s__law_of_pair) := ⟨rfl, rfl, rfl, by decide +kernel, rfl, by decide +kernel, by decide +kernel⟩
theorem sc__law_of_table : FnScope ["which", "table"] ["which", "table"] (defScope s__law_of_table) := ⟨rfl, rfl, rfl, by decide +kernel, rfl, by decide +kernel, by decide +kernel⟩
theorem sc__law_tried : FnScope ["which", "pair", "table", "e"] ["which", "pair", "table"] (defScope s__law_tried) := ⟨rfl, rfl, rfl, by decide +kernel, rfl, by decide +kernel, by decide +kernel⟩
theorem sc_law : FnScope ["script", "many", "due", "table", "at", "far", "pile", "pair", "which", "wanted", "found", "k"] ["script"] (defScope s_law) := ⟨rfl, rfl, rfl, by decide +kernel, rfl, by decide +kernel, by decide +kernel⟩
section
variable {P : Program} {w : World} {K : PySem.W.Frag} {mg : Str → Option Value} {base : Heap} {cs : Cs}
/-! ### asked_pair -/
def sp_asked_pair (K : PySem.W.Frag) (cs : Cs) : Sp := fun vs H Q E => ∃ v x y, vs = [v] ∧ Pr K H v x y ∧ (Gd x → Gd y → RetV .non H Q) ∧ (¬ (Gd x ∧ Gd y) → ∀ H', Ex H H' → E (.ref cs.NoPair) none H')
theorem ok_asked_pair (F : Df K mg "asked_pair" s_asked_pair) (T : Txt K mg cs)  : ClX P w K mg base 1 "asked_pair" (sp_asked_pair K cs) := by
  refine clX_of (N := ["pair", "pile"]) (ps := ["pair"]) F (fun _ _ _ _ _ _ us hl => match us, hl with | [_], _ => rfl) sc_asked_pair (fun vs H Q E h => by obtain ⟨_, _, _, rfl, _⟩ := h; rfl) (fun f cdv A outer s H vs Q E hr h => ⟨_, (pss_one (ps_for (passes_of rfl) rfl (pi_tup (pv 0)) (pg_name (i := 1) sc_asked_pair.nd rfl (.inl rfl)) (pss_one (ps_if (PW.pt (pw_or (pt_cmpR op_lt (pv 1) pe_int (nomark _)) (pw_or1 (pt_cmpR op_gt (pv 1) (pe_gc (by rfl) T.g_GREATEST) (nomark _))))) (pss_one (ps_raise rfl (takes_of rfl rfl rfl rfl) (pmk_own PySem.F.excBase_ValueError T.x_NoPair.xC T.x_NoPair.gC T.x_NoPair.kC (raises_own T.x_NoPair.bC T.x_NoPair.tC) (by exact rfl)))) pss_nil)))), ?_⟩)
  obtain ⟨v, x, y, rfl, hp, q, qe⟩ := h
  obtain ⟨a, rfl, hq⟩ := id hp
  rw [show start ["pair", "pile"] [.ref a] = [some (.ref a), none] from rfl]
  refine ⟨_, rfl, a, rfl, ⟨_, hq⟩, for_tup (K := K) (a := a) (xs := [.int x, .int y]) (fun i σ H' => Ex H H' ∧ (∃ z, σ = [some (.ref a), z]) ∧ (0 < i → Gd x) ∧ (1 < i → Gd y))
    ⟨Ex.refl _, ⟨none, rfl⟩, fun z => absurd z (Nat.lt_irrefl 0), fun z => absurd z (by decide)⟩ (fun i σ H' _ h => ex_t h.1 hq) ?_ ?_⟩
  · rintro i z σ H' hi ⟨e, ⟨z', rfl⟩, k1, k2⟩
    have hz : ∃ n, z = .int n ∧ (Gd n → (0 < i + 1 → Gd x) ∧ (1 < i + 1 → Gd y)) ∧ (¬ Gd n → ¬ (Gd x ∧ Gd y)) := by
      match i, hi with
      | 0, hi => exact ⟨x, (Option.some.inj hi).symm, fun g => ⟨fun _ => g, fun z => absurd z (by decide)⟩, fun g w => g w.1⟩
      | 1, hi => exact ⟨y, (Option.some.inj hi).symm, fun g => ⟨fun _ => k1 (by decide), fun _ => g⟩, fun g w => g w.2⟩
    obtain ⟨n, rfl, hn1, hn2⟩ := hz
    walk_at "nx"
    walk_at "if"
    · intro hb H1 e1
      simp at hb
      exact qe (hn2 (fun g => by have := g.1; have := g.2; omega)) _ (e.trans e1)
    · intro hb H1 e1
      simp at hb
      exact ⟨e.trans e1, ⟨some (.int n), rfl⟩, hn1 ⟨by omega, by omega⟩⟩
  · rintro σ H' ⟨e, ⟨z, rfl⟩, k1, k2⟩
    exact q (k1 (by show 0 < 2; decide)) (k2 (by show 1 < 2; decide)) _ e
theorem u_asked_pair {cs : Cs} {H : Hp} {Q : VK} {E : XK} {v : V} {x y : Int} (hp : Pr K H v x y) (hx : Gd x) (hy : Gd y) (q : ∀ H2, Ex H H2 → Q .non H2) : sp_asked_pair K cs [v] H Q E := ⟨v, x, y, rfl, hp, fun _ _ => q, fun z => absurd ⟨hx, hy⟩ z⟩
local macro_rules | `(tactic| walk_at "spcall") => `(tactic| ((with_reducible apply u_asked_pair); (· walk_at "pr"); (· walk_at "gd"); (· walk_at "gd"); intro _ _))

/-! ### quotients_of -/
def sp_quotients_of (K : PySem.W.Frag) : Sp := fun vs H Q _ => ∃ v x y, vs = [v] ∧ Pr K H v x y ∧ Gd x ∧ Gd y ∧ RetL ((qs x y).map V.int) H Q
theorem ok_quotients_of (F : Df K mg "quotients_of" s_quotients_of) (T : Txt K mg cs)  : Cl P w K mg base 1 "quotients_of" (sp_quotients_of K) := by
  refine cl_of (N := ["pair", "great", "small", "found", "rest"]) (ps := ["pair"]) F (fun _ _ _ _ _ _ us hl => match us, hl with | [_], _ => rfl) sc_quotients_of (fun vs H Q E h => by obtain ⟨_, _, _, rfl, _⟩ := h; rfl) (fun f cdv A outer s H vs Q E hr h => ⟨_, (pss_cons (ps_set (i := 1) sc_quotients_of.nd rfl (.inl rfl) (pe_callB (call_maxT rfl) (by rfl) T.b_max (by decide +kernel) (pa_cons (pv 0) pa_nil)))
    (pss_cons (ps_set (i := 2) sc_quotients_of.nd rfl (.inl rfl) (pe_callB (call_minT rfl) (by rfl) T.b_min (by decide +kernel) (pa_cons (pv 0) pa_nil)))
    (pss_cons (ps_set (i := 3) sc_quotients_of.nd rfl (.inl rfl) (pe_lst pa_nil))
    (pss_cons (ps_while PassesOwn.never (pt_cmpR op_gt (pv 2) pe_int (nomark _)) (pss_cons (ps_expr (pe_bm PySem.F.plainAttrs_list PySem.F.slot_list_append PySem.F.type_list_append mt_append (pv 3) (pa_cons (pe_op op_fdivW (pv 1) (pv 2)) pa_nil)))
    (pss_cons (ps_set (i := 4) sc_quotients_of.nd rfl (.inl rfl) (pe_op op_mod (pv 1) (pv 2)))
    (pss_cons (ps_set (i := 1) sc_quotients_of.nd rfl (.inl rfl) (pv 2))
    (pss_one (ps_set (i := 2) sc_quotients_of.nd rfl (.inl rfl) (pv 4)))))))
    (pss_one (ps_ret (pv 3))))))), ?_⟩)
  obtain ⟨v, x, y, rfl, hp, ⟨hx1, hx2⟩, ⟨hy1, hy2⟩, q⟩ := h
  rw [show start ["pair", "great", "small", "found", "rest"] [v] = [some (v), none, none, none, none] from rfl]
  walk_at "go"
  rename_i l H1 hl e1 h1
  refine d_while (fun m σ' H' => ∃ g s acc r, σ' = [some v, some (.int g), some (.int s), some (.ref l), r] ∧ 0 ≤ s ∧ 0 ≤ g ∧ s ≤ 1000000000000000000000000000000 ∧ m = s.toNat ∧ Ex H H' ∧ H' l = some (.lst (acc.map V.int)) ∧ acc ++ eu g s = qs x y) _
    ⟨max x y, min x y, [], none, rfl, by omega, by omega, by omega, rfl, e1, h1, rfl⟩ ?_
  rintro m σ' H' ⟨g, s, acc, r, rfl, hs, hg, hs2, rfl, e2, h2, he⟩
  refine ⟨decide (0 < s), by walk_at "et", fun hb H3 e3 => ?_, fun hb H3 e3 => ?_⟩
  · have hb := of_decide_eq_true hb
    have hlen : acc.length ≤ 200 := by
      have := congrArg List.length he
      rw [List.length_append] at this
      have := qs_len (y := y) hx2
      omega
    rw [eu_step hg hb] at he
    walk_at "go"
    rename_i H4 b4 h4
    refine ⟨(g % s).toNat, by have := Int.emod_lt_of_pos g hb; have := Int.emod_nonneg g (by omega : s ≠ 0); omega, s, g % s, acc ++ [g / s], _, rfl, Int.emod_nonneg g (by omega), hs, by have := Int.emod_lt_of_pos g hb; omega, rfl, by walk_at "ex", ?_, ?_⟩
    · rw [h4]; simp
    · rw [List.append_assoc]; exact he
  · have hb := of_decide_eq_false hb
    rw [eu_zero (by omega), List.append_nil] at he
    walk_at "go"
    refine q l _ hl (by walk_at "ex") ?_
    rw [← he]
    exact e3 _ _ h2
theorem u_quotients_of {H : Hp} {Q : VK} {E : XK} {v : V} {x y : Int} (hp : Pr K H v x y) (hx : Gd x) (hy : Gd y) (q : ∀ p H2, H p = none → Ex H H2 → H2 p = some (.lst ((qs x y).map V.int)) → Q (.ref p) H2) : sp_quotients_of K [v] H Q E := ⟨v, x, y, rfl, hp, hx, hy, q⟩
local macro_rules | `(tactic| walk_at "spcall") => `(tactic| ((with_reducible apply u_quotients_of); (· walk_at "pr"); (· walk_at "gd"); (· walk_at "gd"); intro _ _ _ _ _))

/-! ### moves_of -/
def mvs (x y : Int) : Int := (max x y - 1) / min x y

def sp_moves_of (K : PySem.W.Frag) : Sp := fun vs H Q _ => ∃ v x y, vs = [v] ∧ Pr K H v x y ∧ Gd x ∧ Gd y ∧ RetV (.int (mvs x y)) H Q
theorem ok_moves_of (F : Df K mg "moves_of" s_moves_of) (T : Txt K mg cs)  : Cl P w K mg base 1 "moves_of" (sp_moves_of K) := by
  refine cl_of (N := ["pair"]) (ps := ["pair"]) F (fun _ _ _ _ _ _ us hl => match us, hl with | [_], _ => rfl) sc_moves_of (fun vs H Q E h => by obtain ⟨_, _, _, rfl, _⟩ := h; rfl) (fun f cdv A outer s H vs Q E hr h => ⟨_, (pss_one (ps_ret (pe_op op_fdivW (pe_op op_sub (pe_callB (call_maxT rfl) (by rfl) T.b_max (by decide +kernel) (pa_cons (pv 0) pa_nil)) pe_int) (pe_callB (call_minT rfl) (by rfl) T.b_min (by decide +kernel) (pa_cons (pv 0) pa_nil))))), ?_⟩)
  obtain ⟨v, x, y, rfl, hp, ⟨hx1, hx2⟩, ⟨hy1, hy2⟩, q⟩ := h
  rw [show start ["pair"] [v] = [some (v)] from rfl]
  walk_at "go"
  exact q _ (by walk_at "ex")
theorem u_moves_of {H : Hp} {Q : VK} {E : XK} {v : V} {x y : Int} (hp : Pr K H v x y) (hx : Gd x) (hy : Gd y) (q : ∀ H2, Ex H H2 → Q (.int (mvs x y)) H2) : sp_moves_of K [v] H Q E := ⟨v, x, y, rfl, hp, hx, hy, q⟩
local macro_rules | `(tactic| walk_at "spcall") => `(tactic| ((with_reducible apply u_moves_of); (· walk_at "pr"); (· walk_at "gd"); (· walk_at "gd"); intro _ _))

/-! ### behind -/
/-- behind a move -/
def bh (x y t : Int) : Int × Int := if y < x then (x - t * y, y) else (x, y - t * x)
theorem mvs_mul {x y t : Int} (hx : 1 ≤ x) (hy : 1 ≤ y) (h : t ≤ mvs x y) : t * min x y ≤ max x y - 1 := by
  have h1 := Int.mul_le_mul_of_nonneg_right h (show 0 ≤ min x y by omega)
  have h2 : mvs x y * min x y ≤ max x y - 1 := Int.ediv_mul_le _ (by omega)
  omega
theorem mvs_le {x y : Int} (hx : Gd x) (hy : Gd y) : 0 ≤ mvs x y ∧ mvs x y ≤ 1000000000000000000000000000000 := by
  have h0 := hx.1
  have h1 := hy.1
  have h2 := hx.2
  have h3 := hy.2
  refine ⟨Int.ediv_nonneg (by omega) (by omega), ?_⟩
  have : mvs x y ≤ max x y - 1 := Int.ediv_le_self _ (by omega)
  omega
theorem bh_gd {x y t : Int} (hx : Gd x) (hy : Gd y) (h1 : 1 ≤ t) (h2 : t ≤ mvs x y) : Gd (bh x y t).1 ∧ Gd (bh x y t).2 := by
  have h3 := mvs_mul hx.1 hy.1 h2
  have h4 : 0 ≤ t * min x y := Int.mul_nonneg (by omega) (by have := hx.1; have := hy.1; omega)
  obtain ⟨a1, a2⟩ := hx
  obtain ⟨b1, b2⟩ := hy
  unfold bh
  by_cases c : y < x
  · rw [if_pos c]
    rw [show max x y = x by omega, show min x y = y by omega] at h3
    rw [show min x y = y by omega] at h4
    exact ⟨⟨by show 1 ≤ x - t * y; omega, by show x - t * y ≤ _; omega⟩, ⟨b1, b2⟩⟩
  · rw [if_neg c]
    rw [show max x y = y by omega, show min x y = x by omega] at h3
    rw [show min x y = x by omega] at h4
    exact ⟨⟨a1, a2⟩, ⟨by show 1 ≤ y - t * x; omega, by show y - t * x ≤ _; omega⟩⟩

def sp_behind (K : PySem.W.Frag) : Sp := fun vs H Q _ => ∃ v x y t, vs = [v, .int t] ∧ Pr K H v x y ∧ Gd x ∧ Gd y ∧ 1 ≤ t ∧ t ≤ mvs x y ∧ ∀ v' H', Ex H H' → Pr K H' v' (bh x y t).1 (bh x y t).2 → Q v' H'
theorem ok_behind (F : Df K mg "behind" s_behind) (T : Txt K mg cs)  : Cl P w K mg base 1 "behind" (sp_behind K) := by
  refine cl_of (N := ["pair", "times"]) (ps := ["pair", "times"]) F (fun _ _ _ _ _ _ us hl => match us, hl with | [_, _], _ => rfl) sc_behind (fun vs H Q E h => by obtain ⟨_, _, _, _, rfl, _⟩ := h; rfl) (fun f cdv A outer s H vs Q E hr h => ⟨_, (pss_cons (ps_if (pt_cmpR op_gt (pe_ix ix_tup (pv 0) pe_int (fun _ _ => rfl)) (pe_ix ix_tup (pv 0) pe_int (fun _ _ => rfl)) (nomark _)) (pss_one (ps_ret (pe_tup (pa_cons (pe_op op_sub (pe_ix ix_tup (pv 0) pe_int (fun _ _ => rfl)) (pe_op op_mulW (pv 1) (pe_ix ix_tup (pv 0) pe_int (fun _ _ => rfl)))) (pa_cons (pe_ix ix_tup (pv 0) pe_int (fun _ _ => rfl)) pa_nil))))) pss_nil)
    (pss_one (ps_ret (pe_tup (pa_cons (pe_ix ix_tup (pv 0) pe_int (fun _ _ => rfl)) (pa_cons (pe_op op_sub (pe_ix ix_tup (pv 0) pe_int (fun _ _ => rfl)) (pe_op op_mulW (pv 1) (pe_ix ix_tup (pv 0) pe_int (fun _ _ => rfl)))) pa_nil)))))), ?_⟩)
  obtain ⟨v, x, y, t, rfl, hp, hx, hy, h1, h2, q⟩ := h
  rw [show start ["pair", "times"] [v, .int t] = [some (v), some (.int t)] from rfl]
  have h3 := (mvs_le hx hy).2
  obtain ⟨a1, a2⟩ := hx
  obtain ⟨b1, b2⟩ := hy
  walk_at "go"
  walk_at "if"
  · intro hb H1 e1
    have hb := of_decide_eq_true hb
    have e : bh x y t = (x - t * y, y) := if_pos hb
    rw [e] at q
    walk_at "go"
    exact q _ _ (by walk_at "ex") (by walk_at "pr")
  · intro hb H1 e1
    have hb := of_decide_eq_false hb
    have e : bh x y t = (x, y - t * x) := if_neg hb
    rw [e] at q
    walk_at "go"
    exact q _ _ (by walk_at "ex") (by walk_at "pr")
theorem u_behind {H : Hp} {Q : VK} {E : XK} {v : V} {x y t : Int} (hp : Pr K H v x y) (hx : Gd x) (hy : Gd y) (h1 : 1 ≤ t) (h2 : t ≤ mvs x y) (q : ∀ v' H', Ex H H' → Pr K H' v' (bh x y t).1 (bh x y t).2 → Gd (bh x y t).1 → Gd (bh x y t).2 → Q v' H') : sp_behind K [v, .int t] H Q E :=
  ⟨v, x, y, t, rfl, hp, hx, hy, h1, h2, fun v' H' e p => q v' H' e p (bh_gd hx hy h1 h2).1 (bh_gd hx hy h1 h2).2⟩
local macro_rules | `(tactic| walk_at "spcall") => `(tactic| ((with_reducible apply u_behind); (· walk_at "pr"); (· walk_at "gd"); (· walk_at "gd"); (· omega); (· omega); intro _ _ _ _ _ _))

/-! ### worth_of -/
/-! ### worths -/
def wt (x y : Int) : Int := (max x y * max x y - min x y * min x y) / (max x y * min x y)
theorem wt_comm (x y : Int) : wt x y = wt y x := by
  unfold wt
  rw [Int.max_comm, Int.min_comm]
theorem prod_pos {x y : Int} (hx : 1 ≤ x) (hy : 1 ≤ y) : 0 < max x y * min x y := Int.mul_pos (by omega) (by omega)
theorem prod_le {a b : Int} (ha : 0 ≤ a) (ha2 : a ≤ 1000000000000000000000000000000) (hb : 0 ≤ b) (hb2 : b ≤ 1000000000000000000000000000000) : 0 ≤ a * b ∧ a * b ≤ 1000000000000000000000000000000000000000000000000000000000000 := by
  refine ⟨Int.mul_nonneg ha hb, ?_⟩
  have := Int.mul_le_mul ha2 hb2 hb (by decide)
  have e : (1000000000000000000000000000000 : Int) * 1000000000000000000000000000000 = 1000000000000000000000000000000000000000000000000000000000000 := by decide
  omega
theorem sq_le {a b : Int} (h0 : 0 ≤ a) (h : a ≤ b) : a * a ≤ b * b := Int.mul_le_mul h h h0 (by omega)
theorem wt_nonneg {x y : Int} (hx : 1 ≤ x) (hy : 1 ≤ y) : 0 ≤ wt x y := by
  have h1 := sq_le (show 0 ≤ min x y by omega) (show min x y ≤ max x y by omega)
  exact Int.ediv_nonneg (by omega) (Int.le_of_lt (prod_pos hx hy))
theorem wt_low {x y : Int} (hx : 1 ≤ x) (hy : 1 ≤ y) : wt x y * (max x y * min x y) ≤ max x y * max x y - min x y * min x y := Int.ediv_mul_le _ (Int.ne_of_gt (prod_pos hx hy))
theorem wt_high {x y : Int} (hx : 1 ≤ x) (hy : 1 ≤ y) : max x y * max x y - min x y * min x y < (wt x y + 1) * (max x y * min x y) := Int.lt_ediv_add_one_mul_self _ (prod_pos hx hy)
theorem wt_le {x y : Int} (hx : Gd x) (hy : Gd y) : wt x y ≤ 1000000000000000000000000000000 := by
  have m1 : 1 ≤ min x y := by have := hx.1; have := hy.1; omega
  have m2 : max x y ≤ 1000000000000000000000000000000 := by have := hx.2; have := hy.2; omega
  have m3 : 1 ≤ max x y := by have := hx.1; omega
  have h1 := prod_pos hx.1 hy.1
  refine Int.le_trans (Int.ediv_le_of_le_mul h1 (b := max x y) ?_) m2
  have h2 : max x y * max x y ≤ max x y * max x y * min x y := by
    have := Int.mul_le_mul_of_nonneg_left m1 (Int.mul_nonneg (show 0 ≤ max x y by omega) (show 0 ≤ max x y by omega))
    rw [Int.mul_one] at this
    exact this
  have h3 : 0 ≤ min x y * min x y := Int.mul_nonneg (by omega) (by omega)
  rw [← Int.mul_assoc]
  omega
theorem prod_mm (x y : Int) : max x y * min x y = x * y := by
  by_cases h : x ≤ y
  · rw [show max x y = y by omega, show min x y = x by omega, Int.mul_comm]
  · rw [show max x y = x by omega, show min x y = y by omega]
def sp_worth_of (K : PySem.W.Frag) : Sp := fun vs H Q _ => ∃ v x y, vs = [v] ∧ Pr K H v x y ∧ Gd x ∧ Gd y ∧ RetV (.int (wt x y)) H Q
theorem ok_worth_of (F : Df K mg "worth_of" s_worth_of) (T : Txt K mg cs)  : Cl P w K mg base 1 "worth_of" (sp_worth_of K) := by
  refine cl_of (N := ["pair", "great", "small"]) (ps := ["pair"]) F (fun _ _ _ _ _ _ us hl => match us, hl with | [_], _ => rfl) sc_worth_of (fun vs H Q E h => by obtain ⟨_, _, _, rfl, _⟩ := h; rfl) (fun f cdv A outer s H vs Q E hr h => ⟨_, (pss_cons (ps_set (i := 1) sc_worth_of.nd rfl (.inl rfl) (pe_callB (call_maxT rfl) (by rfl) T.b_max (by decide +kernel) (pa_cons (pv 0) pa_nil)))
    (pss_cons (ps_set (i := 2) sc_worth_of.nd rfl (.inl rfl) (pe_callB (call_minT rfl) (by rfl) T.b_min (by decide +kernel) (pa_cons (pv 0) pa_nil)))
    (pss_one (ps_ret (pe_op op_fdivW (pe_op op_sub (pe_op op_mulW (pv 1) (pv 1)) (pe_op op_mulW (pv 2) (pv 2))) (pe_op op_mulW (pv 1) (pv 2))))))), ?_⟩)
  obtain ⟨v, x, y, rfl, hp, ⟨hx1, hx2⟩, ⟨hy1, hy2⟩, q⟩ := h
  rw [show start ["pair", "great", "small"] [v] = [some (v), none, none] from rfl]
  have h0 := prod_pos hx1 hy1
  have h1 := prod_le (a := max x y) (b := min x y) (by omega) (by omega) (by omega) (by omega)
  walk_at "go"
  exact q _ (by walk_at "ex")
theorem u_worth_of {H : Hp} {Q : VK} {E : XK} {v : V} {x y : Int} (hp : Pr K H v x y) (hx : Gd x) (hy : Gd y) (q : ∀ H2, Ex H H2 → Q (.int (wt x y)) H2) : sp_worth_of K [v] H Q E := ⟨v, x, y, rfl, hp, hx, hy, q⟩
local macro_rules | `(tactic| walk_at "spcall") => `(tactic| ((with_reducible apply u_worth_of); (· walk_at "pr"); (· walk_at "gd"); (· walk_at "gd"); intro _ _))

/-! ### added -/
/-! ### adding without carrying -/
def xr (i j : Int) : Int := ((i.toNat ^^^ j.toNat : Nat) : Int)
def Bd (i : Int) : Prop := 0 ≤ i ∧ i < 1267650600228229401496703205376
theorem two100 : (2 : Nat) ^ 100 = 1267650600228229401496703205376 := by decide
theorem xor_mod2 (a b : Nat) : (a ^^^ b) % 2 = (a + b) % 2 := by
  have h := @Nat.xor_mod_two_pow a b 1
  rw [Nat.pow_one] at h
  rw [h]
  rcases Nat.mod_two_eq_zero_or_one a with h1 | h1 <;> rcases Nat.mod_two_eq_zero_or_one b with h2 | h2 <;> rw [h1, h2] <;> simp <;> omega
theorem xr_bd {i j : Int} (hi : Bd i) (hj : Bd j) : Bd (xr i j) := by
  have h1 : i.toNat < 2 ^ 100 := by rw [two100]; have := hi.1; have := hi.2; omega
  have h2 : j.toNat < 2 ^ 100 := by rw [two100]; have := hj.1; have := hj.2; omega
  have := Nat.xor_lt_two_pow h1 h2
  rw [two100] at this
  refine ⟨?_, ?_⟩ <;> unfold xr <;> omega
theorem xr_rec {a b : Int} (ha : 0 ≤ a) (hb : 0 ≤ b) : xr a b = 2 * xr (a / 2) (b / 2) + (if a % 2 = b % 2 then 0 else 1) := by
  obtain ⟨m, rfl⟩ := Int.eq_ofNat_of_zero_le ha
  obtain ⟨n, rfl⟩ := Int.eq_ofNat_of_zero_le hb
  show ((m ^^^ n : Nat) : Int) = 2 * (((m / 2) ^^^ (n / 2) : Nat) : Int) + _
  rw [← Nat.xor_div_two]
  have h := xor_mod2 m n
  generalize m ^^^ n = x at *
  split <;> omega
theorem xr_zero : xr 0 0 = 0 := rfl
theorem xr_comm (a b : Int) : xr a b = xr b a := by
  unfold xr
  rw [Nat.xor_comm]
def sp_added (K : PySem.W.Frag) : Sp := fun vs H Q _ => ∃ i j : Int, vs = [.int i, .int j] ∧ Bd i ∧ Bd j ∧ RetV (.int (xr i j)) H Q
theorem ok_added (F : Df K mg "added" s_added) (T : Txt K mg cs)  : Cl P w K mg base 1 "added" (sp_added K) := by
  refine cl_of (N := ["one", "other", "total", "figure"]) (ps := ["one", "other"]) F (fun _ _ _ _ _ _ us hl => match us, hl with | [_, _], _ => rfl) sc_added (fun vs H Q E h => by obtain ⟨_, _, rfl, _⟩ := h; rfl) (fun f cdv A outer s H vs Q E hr h => ⟨_, (pss_cons (ps_set (i := 2) sc_added.nd rfl (.inl rfl) pe_int)
    (pss_cons (ps_set (i := 3) sc_added.nd rfl (.inl rfl) pe_int)
    (pss_cons (ps_while PassesOwn.never (PW.pt (pw_or (pt_cmpR op_gt (pv 0) pe_int (nomark _)) (pw_or1 (pt_cmpR op_gt (pv 1) pe_int (nomark _))))) (pss_cons (ps_if (pt_cmpR op_ne (pe_op op_mod (pv 0) pe_int) (pe_op op_mod (pv 1) pe_int) (nomark _)) (pss_one (ps_set (i := 2) sc_added.nd rfl (.inl rfl) (pe_op op_add (pv 2) (pv 3)))) pss_nil)
    (pss_cons (ps_set (i := 0) sc_added.nd rfl (.inl rfl) (pe_op op_fdivW (pv 0) pe_int))
    (pss_cons (ps_set (i := 1) sc_added.nd rfl (.inl rfl) (pe_op op_fdivW (pv 1) pe_int))
    (pss_one (ps_set (i := 3) sc_added.nd rfl (.inl rfl) (pe_op op_mulW pe_int (pv 3))))))))
    (pss_one (ps_ret (pv 2)))))), ?_⟩)
  obtain ⟨i, j, rfl, ⟨hi0, hi1⟩, ⟨hj0, hj1⟩, q⟩ := h
  rw [show start ["one", "other", "total", "figure"] [.int i, .int j] = [some (.int i), some (.int j), none, none] from rfl]
  walk_at "go"
  refine d_while (fun m σ' H' => ∃ a b t f : Int, σ' = [some (.int a), some (.int b), some (.int t), some (.int f)] ∧ 0 ≤ a ∧ 0 ≤ b ∧ 0 < f ∧ f * (a + b) ≤ i + j ∧ t + f * xr a b = xr i j ∧ m = (a + b).toNat ∧ Ex H H') _
    ⟨i, j, 0, 1, rfl, hi0, hj0, by decide, by omega, by omega, rfl, Ex.refl _⟩ ?_
  rintro m σ' H' ⟨a, b, t, f, rfl, ha, hb, hf, hc, ht, rfl, e⟩
  refine ⟨decide (0 < a) || decide (0 < b), by walk_at "et", fun hb1 H3 e3 => ?_, fun hb1 H3 e3 => ?_⟩
  · simp at hb1
    have hf2 : f ≤ f * (a + b) := by
      have := Int.mul_le_mul_of_nonneg_left (show 1 ≤ a + b by omega) (Int.le_of_lt hf)
      omega
    have hc2 : 2 * f * (a / 2 + b / 2) ≤ i + j := by
      have := Int.mul_le_mul_of_nonneg_left (show 2 * (a / 2 + b / 2) ≤ a + b by omega) (Int.le_of_lt hf)
      have e1 : 2 * f * (a / 2 + b / 2) = f * (2 * (a / 2 + b / 2)) := by rw [Int.mul_comm 2 f, Int.mul_assoc]
      omega
    rw [xr_rec ha hb, Int.mul_add] at ht
    have e2 : f * (2 * xr (a / 2) (b / 2)) = 2 * f * xr (a / 2) (b / 2) := by rw [Int.mul_comm 2 f, Int.mul_assoc]
    rw [e2] at ht
    walk_at "go"
    walk_at "if"
    · intro hb2 H4 e4
      simp at hb2
      rw [if_neg hb2, Int.mul_one] at ht
      walk_at "go"
      exact ⟨(a / 2 + b / 2).toNat, by omega, _, _, _, _, rfl, by omega, by omega, by omega, hc2, by omega, rfl, by walk_at "ex"⟩
    · intro hb2 H4 e4
      simp at hb2
      rw [if_pos hb2, Int.mul_zero] at ht
      walk_at "go"
      exact ⟨(a / 2 + b / 2).toNat, by omega, _, _, _, _, rfl, by omega, by omega, by omega, hc2, by omega, rfl, by walk_at "ex"⟩
  · simp at hb1
    have a0 : a = 0 := by omega
    have b0 : b = 0 := by omega
    subst a0 b0
    rw [xr_zero, Int.mul_zero, Int.add_zero] at ht
    walk_at "go"
    rw [ht]
    exact q _ (by walk_at "ex")
theorem u_added {H : Hp} {Q : VK} {E : XK} {i j : Int} (hi : Bd i) (hj : Bd j) (q : ∀ H2, Ex H H2 → Q (.int (xr i j)) H2) : sp_added K [.int i, .int j] H Q E := ⟨i, j, rfl, hi, hj, q⟩
local macro_rules | `(tactic| walk_at "spcall") => `(tactic| ((with_reducible apply u_added); (· walk_at "bd"); (· walk_at "bd"); intro _ _))

/-! ### _law_cell_at -/
def cellL (ns : List Int) (k : Nat) : Int := ns.getD k 0
def sp__law_cell_at (K : PySem.W.Frag) : Sp := fun vs H Q _ => ∃ (a : Addr) (ns : List Int) (k : Nat), vs = [.ref a, .int (k : Int)] ∧ SqL K H a (ns.map V.int) ∧ RetV (.int (cellL ns k)) H Q
theorem ok__law_cell_at (F : Df K mg "_law_cell_at" s__law_cell_at) (T : Txt K mg cs)  : Cl P w K mg base 1 "_law_cell_at" (sp__law_cell_at K) := by
  refine cl_of (N := ["script", "k"]) (ps := ["script", "k"]) F (fun _ _ _ _ _ _ us hl => match us, hl with | [_, _], _ => rfl) sc__law_cell_at (fun vs H Q E h => by obtain ⟨_, _, _, rfl, _⟩ := h; rfl) (fun f cdv A outer s H vs Q E hr h => ⟨_, (pss_cons (ps_if (pt_cmpR op_lt (pv 1) (pe_callB call_lenL (by rfl) T.b_len (by decide +kernel) (pa_cons (pv 0) pa_nil)) (nomark _)) (pss_one (ps_ret (pe_ix ix_list (pv 0) (pv 1) (fun _ _ => rfl)))) pss_nil)
    (pss_one (ps_ret pe_int))), ?_⟩)
  obtain ⟨a, ns, k, rfl, hs, q⟩ := h
  rw [show start ["script", "k"] [.ref a, .int (k : Int)] = [some (.ref a), some (.int (k : Int))] from rfl]
  walk_at "go"
  walk_at "if"
  · intro hb H1 e1
    simp at hb
    walk_at "go"
    have hk : ns[k]? = some ns[k] := List.getElem?_eq_getElem hb
    refine d_ixL (xs := ns.map V.int) (v := .int (cellL ns k)) (by walk_at "sl") ?_ ?_
    · refine atI_nat ?_
      rw [List.getElem?_map, hk]
      unfold cellL
      rw [List.getD_eq_getElem?_getD, hk]
      rfl
    · exact q _ (by walk_at "ex")
  · intro hb H1 e1
    simp at hb
    walk_at "go"
    have e : cellL ns k = 0 := by
      unfold cellL
      rw [List.getD_eq_getElem?_getD, List.getElem?_eq_none (by omega)]
      rfl
    rw [e] at q
    exact q _ (by walk_at "ex")
theorem u_cell {H : Hp} {Q : VK} {E : XK} {a : Addr} {ns : List Int} {k : Int} (hs : SqL K H a (ns.map V.int)) (hk : 0 ≤ k) (q : ∀ H2, Ex H H2 → Q (.int (cellL ns k.toNat)) H2) : sp__law_cell_at K [.ref a, .int k] H Q E :=
  ⟨a, ns, k.toNat, by rw [Int.toNat_of_nonneg hk], hs, q⟩
local macro_rules | `(tactic| walk_at "spcall") => `(tactic| ((with_reducible apply u_cell); (· walk_at "sl"); (· omega); intro _ _))

/-! ### _law_word_of -/
def wordC (cs : Cs) : List (Addr × Str) := [(cs.NoPair, "pair"), (cs.NoTable, "table"), (cs.NoMove, "move"), (cs.TooLong, "long"), (cs.NoNote, "note")]
def sp__law_word_of (K : PySem.W.Frag) (cs : Cs) (a : Addr) (cls : Value) (d : Option Addr) : Sp := fun vs H Q _ => vs = [.ref a] ∧ d = none ∧ ∃ (j : Nat) (D : Addr) (s : Str), (wordC cs)[j]? = some (D, s) ∧ cls = .ref D ∧ RetV (.str s) H Q
theorem ok__law_word_of (F : Df K mg "_law_word_of" s__law_word_of) (T : Txt K mg cs) : ClP P w K mg base 1 "_law_word_of" (sp__law_word_of K cs) := by
  refine clP_of (N := ["e", "kinds"]) (ps := ["e"]) F (fun _ _ _ _ _ _ us hl => match us, hl with | [_], _ => rfl) sc__law_word_of (fun a cls d vs H Q E h => by obtain ⟨rfl, _⟩ := h; rfl) (fun a oe cls d f cdv A outer s H vs Q E hz hd hr h => ?_)
  obtain ⟨rfl, rfl, j, D, s, hj, rfl, q⟩ := h
  have f00 := T.k_NoPair_NoPair
  have f01 := T.k_NoPair_NoTable
  have f02 := T.k_NoPair_NoMove
  have f03 := T.k_NoPair_TooLong
  have f04 := T.k_NoPair_NoNote
  have f10 := T.k_NoTable_NoPair
  have f11 := T.k_NoTable_NoTable
  have f12 := T.k_NoTable_NoMove
  have f13 := T.k_NoTable_TooLong
  have f14 := T.k_NoTable_NoNote
  have f20 := T.k_NoMove_NoPair
  have f21 := T.k_NoMove_NoTable
  have f22 := T.k_NoMove_NoMove
  have f23 := T.k_NoMove_TooLong
  have f24 := T.k_NoMove_NoNote
  have f30 := T.k_TooLong_NoPair
  have f31 := T.k_TooLong_NoTable
  have f32 := T.k_TooLong_NoMove
  have f33 := T.k_TooLong_TooLong
  have f34 := T.k_TooLong_NoNote
  have f40 := T.k_NoNote_NoPair
  have f41 := T.k_NoNote_NoTable
  have f42 := T.k_NoNote_NoMove
  have f43 := T.k_NoNote_TooLong
  have f44 := T.k_NoNote_NoNote
  have v0 := T.x_NoPair.vC
  have v1 := T.x_NoTable.vC
  have v2 := T.x_NoMove.vC
  have v3 := T.x_TooLong.vC
  have v4 := T.x_NoNote.vC
  match j, hj with
  | 0, hj =>
    cases hj
    have hC := T.x_NoPair.eC
    refine ⟨_, (pss_cons (ps_set (i := 1) sc__law_word_of.nd rfl (.inl rfl) (pe_lst (pa_cons (pe_callB (call_isP List.mem_cons_self hC hz hd) (by rfl) T.b_isinstance (by decide +kernel) (pa_cons (pv 0) (pa_cons (pe_glob (v := .ref cs.NoPair) (by rfl) T.x_NoPair.gC rfl) pa_nil))) (pa_cons (pe_callB (call_isP List.mem_cons_self hC hz hd) (by rfl) T.b_isinstance (by decide +kernel) (pa_cons (pv 0) (pa_cons (pe_glob (v := .ref cs.NoTable) (by rfl) T.x_NoTable.gC rfl) pa_nil))) (pa_cons (pe_callB (call_isP List.mem_cons_self hC hz hd) (by rfl) T.b_isinstance (by decide +kernel) (pa_cons (pv 0) (pa_cons (pe_glob (v := .ref cs.NoMove) (by rfl) T.x_NoMove.gC rfl) pa_nil))) (pa_cons (pe_callB (call_isP List.mem_cons_self hC hz hd) (by rfl) T.b_isinstance (by decide +kernel) (pa_cons (pv 0) (pa_cons (pe_glob (v := .ref cs.TooLong) (by rfl) T.x_TooLong.gC rfl) pa_nil))) pa_nil))))))
    (pss_cons (ps_expr (pe_bm PySem.F.plainAttrs_list PySem.F.slot_list_append PySem.F.type_list_append mt_append (pv 1) (pa_cons (pe_callB (call_isP List.mem_cons_self hC hz hd) (by rfl) T.b_isinstance (by decide +kernel) (pa_cons (pv 0) (pa_cons (pe_glob (v := .ref cs.NoNote) (by rfl) T.x_NoNote.gC rfl) pa_nil))) pa_nil)))
    (pss_cons (ps_if (PW.pt (pw_or (pt_cmpR op_ne (pe_bm PySem.F.plainAttrs_list PySem.F.slot_list_count PySem.F.type_list_count mt_countF (pv 1) (pa_cons pe_bl pa_nil)) pe_int (nomark _)) (pw_or1 (pt_not (pt_val (pe_callB (call_isP List.mem_cons_self hC hz hd) (by rfl) T.b_isinstance (by decide +kernel) (pa_cons (pv 0) (pa_cons (pe_bltn (v := .ty "ValueError") (by rfl) T.b_ValueError (by decide +kernel) rfl) pa_nil)))))))) (pss_one (ps_ret pe_str)) pss_nil)
    (pss_one (ps_ret (pe_ix ix_list (pe_lst (pa_cons pe_str (pa_cons pe_str (pa_cons pe_str (pa_cons pe_str (pa_cons pe_str pa_nil)))))) (pe_bm PySem.F.plainAttrs_list PySem.F.slot_list_index PySem.F.type_list_index mt_index (pv 1) (pa_cons pe_bl pa_nil)) (fun _ _ => rfl))))))), ?_⟩
    rw [show start ["e", "kinds"] [.ref a] = [some (.ref a), none] from rfl]
    walk_at "go"
    walk_at "if"
    · intro hb
      exact absurd hb (by decide)
    · intro hb H1 e1
      walk_at "go"
      refine d_rIndex 0 (by walk_at "sl") rfl rfl rfl rfl (fun m z hm => absurd hm (Nat.not_lt_zero m)) ?_
      walk_at "go"
      exact q _ (by walk_at "ex")
  | 1, hj =>
    cases hj
    have hC := T.x_NoTable.eC
    refine ⟨_, (pss_cons (ps_set (i := 1) sc__law_word_of.nd rfl (.inl rfl) (pe_lst (pa_cons (pe_callB (call_isP List.mem_cons_self hC hz hd) (by rfl) T.b_isinstance (by decide +kernel) (pa_cons (pv 0) (pa_cons (pe_glob (v := .ref cs.NoPair) (by rfl) T.x_NoPair.gC rfl) pa_nil))) (pa_cons (pe_callB (call_isP List.mem_cons_self hC hz hd) (by rfl) T.b_isinstance (by decide +kernel) (pa_cons (pv 0) (pa_cons (pe_glob (v := .ref cs.NoTable) (by rfl) T.x_NoTable.gC rfl) pa_nil))) (pa_cons (pe_callB (call_isP List.mem_cons_self hC hz hd) (by rfl) T.b_isinstance (by decide +kernel) (pa_cons (pv 0) (pa_cons (pe_glob (v := .ref cs.NoMove) (by rfl) T.x_NoMove.gC rfl) pa_nil))) (pa_cons (pe_callB (call_isP List.mem_cons_self hC hz hd) (by rfl) T.b_isinstance (by decide +kernel) (pa_cons (pv 0) (pa_cons (pe_glob (v := .ref cs.TooLong) (by rfl) T.x_TooLong.gC rfl) pa_nil))) pa_nil))))))
    (pss_cons (ps_expr (pe_bm PySem.F.plainAttrs_list PySem.F.slot_list_append PySem.F.type_list_append mt_append (pv 1) (pa_cons (pe_callB (call_isP List.mem_cons_self hC hz hd) (by rfl) T.b_isinstance (by decide +kernel) (pa_cons (pv 0) (pa_cons (pe_glob (v := .ref cs.NoNote) (by rfl) T.x_NoNote.gC rfl) pa_nil))) pa_nil)))
    (pss_cons (ps_if (PW.pt (pw_or (pt_cmpR op_ne (pe_bm PySem.F.plainAttrs_list PySem.F.slot_list_count PySem.F.type_list_count mt_countF (pv 1) (pa_cons pe_bl pa_nil)) pe_int (nomark _)) (pw_or1 (pt_not (pt_val (pe_callB (call_isP List.mem_cons_self hC hz hd) (by rfl) T.b_isinstance (by decide +kernel) (pa_cons (pv 0) (pa_cons (pe_bltn (v := .ty "ValueError") (by rfl) T.b_ValueError (by decide +kernel) rfl) pa_nil)))))))) (pss_one (ps_ret pe_str)) pss_nil)
    (pss_one (ps_ret (pe_ix ix_list (pe_lst (pa_cons pe_str (pa_cons pe_str (pa_cons pe_str (pa_cons pe_str (pa_cons pe_str pa_nil)))))) (pe_bm PySem.F.plainAttrs_list PySem.F.slot_list_index PySem.F.type_list_index mt_index (pv 1) (pa_cons pe_bl pa_nil)) (fun _ _ => rfl))))))), ?_⟩
    rw [show start ["e", "kinds"] [.ref a] = [some (.ref a), none] from rfl]
    walk_at "go"
    walk_at "if"
    · intro hb
      exact absurd hb (by decide)
    · intro hb H1 e1
      walk_at "go"
      refine d_rIndex 1 (by walk_at "sl") rfl rfl rfl rfl (fun m z hm hz => ?_) ?_
      · match m, hm, hz with
        | 0, _, rfl => rfl
      walk_at "go"
      exact q _ (by walk_at "ex")
  | 2, hj =>
    cases hj
    have hC := T.x_NoMove.eC
    refine ⟨_, (pss_cons (ps_set (i := 1) sc__law_word_of.nd rfl (.inl rfl) (pe_lst (pa_cons (pe_callB (call_isP List.mem_cons_self hC hz hd) (by rfl) T.b_isinstance (by decide +kernel) (pa_cons (pv 0) (pa_cons (pe_glob (v := .ref cs.NoPair) (by rfl) T.x_NoPair.gC rfl) pa_nil))) (pa_cons (pe_callB (call_isP List.mem_cons_self hC hz hd) (by rfl) T.b_isinstance (by decide +kernel) (pa_cons (pv 0) (pa_cons (pe_glob (v := .ref cs.NoTable) (by rfl) T.x_NoTable.gC rfl) pa_nil))) (pa_cons (pe_callB (call_isP List.mem_cons_self hC hz hd) (by rfl) T.b_isinstance (by decide +kernel) (pa_cons (pv 0) (pa_cons (pe_glob (v := .ref cs.NoMove) (by rfl) T.x_NoMove.gC rfl) pa_nil))) (pa_cons (pe_callB (call_isP List.mem_cons_self hC hz hd) (by rfl) T.b_isinstance (by decide +kernel) (pa_cons (pv 0) (pa_cons (pe_glob (v := .ref cs.TooLong) (by rfl) T.x_TooLong.gC rfl) pa_nil))) pa_nil))))))
    (pss_cons (ps_expr (pe_bm PySem.F.plainAttrs_list PySem.F.slot_list_append PySem.F.type_list_append mt_append (pv 1) (pa_cons (pe_callB (call_isP List.mem_cons_self hC hz hd) (by rfl) T.b_isinstance (by decide +kernel) (pa_cons (pv 0) (pa_cons (pe_glob (v := .ref cs.NoNote) (by rfl) T.x_NoNote.gC rfl) pa_nil))) pa_nil)))
    (pss_cons (ps_if (PW.pt (pw_or (pt_cmpR op_ne (pe_bm PySem.F.plainAttrs_list PySem.F.slot_list_count PySem.F.type_list_count mt_countF (pv 1) (pa_cons pe_bl pa_nil)) pe_int (nomark _)) (pw_or1 (pt_not (pt_val (pe_callB (call_isP List.mem_cons_self hC hz hd) (by rfl) T.b_isinstance (by decide +kernel) (pa_cons (pv 0) (pa_cons (pe_bltn (v := .ty "ValueError") (by rfl) T.b_ValueError (by decide +kernel) rfl) pa_nil)))))))) (pss_one (ps_ret pe_str)) pss_nil)
    (pss_one (ps_ret (pe_ix ix_list (pe_lst (pa_cons pe_str (pa_cons pe_str (pa_cons pe_str (pa_cons pe_str (pa_cons pe_str pa_nil)))))) (pe_bm PySem.F.plainAttrs_list PySem.F.slot_list_index PySem.F.type_list_index mt_index (pv 1) (pa_cons pe_bl pa_nil)) (fun _ _ => rfl))))))), ?_⟩
    rw [show start ["e", "kinds"] [.ref a] = [some (.ref a), none] from rfl]
    walk_at "go"
    walk_at "if"
    · intro hb
      exact absurd hb (by decide)
    · intro hb H1 e1
      walk_at "go"
      refine d_rIndex 2 (by walk_at "sl") rfl rfl rfl rfl (fun m z hm hz => ?_) ?_
      · match m, hm, hz with
        | 0, _, rfl => rfl
        | 1, _, rfl => rfl
      walk_at "go"
      exact q _ (by walk_at "ex")
  | 3, hj =>
    cases hj
    have hC := T.x_TooLong.eC
    refine ⟨_, (pss_cons (ps_set (i := 1) sc__law_word_of.nd rfl (.inl rfl) (pe_lst (pa_cons (pe_callB (call_isP List.mem_cons_self hC hz hd) (by rfl) T.b_isinstance (by decide +kernel) (pa_cons (pv 0) (pa_cons (pe_glob (v := .ref cs.NoPair) (by rfl) T.x_NoPair.gC rfl) pa_nil))) (pa_cons (pe_callB (call_isP List.mem_cons_self hC hz hd) (by rfl) T.b_isinstance (by decide +kernel) (pa_cons (pv 0) (pa_cons (pe_glob (v := .ref cs.NoTable) (by rfl) T.x_NoTable.gC rfl) pa_nil))) (pa_cons (pe_callB (call_isP List.mem_cons_self hC hz hd) (by rfl) T.b_isinstance (by decide +kernel) (pa_cons (pv 0) (pa_cons (pe_glob (v := .ref cs.NoMove) (by rfl) T.x_NoMove.gC rfl) pa_nil))) (pa_cons (pe_callB (call_isP List.mem_cons_self hC hz hd) (by rfl) T.b_isinstance (by decide +kernel) (pa_cons (pv 0) (pa_cons (pe_glob (v := .ref cs.TooLong) (by rfl) T.x_TooLong.gC rfl) pa_nil))) pa_nil))))))
    (pss_cons (ps_expr (pe_bm PySem.F.plainAttrs_list PySem.F.slot_list_append PySem.F.type_list_append mt_append (pv 1) (pa_cons (pe_callB (call_isP List.mem_cons_self hC hz hd) (by rfl) T.b_isinstance (by decide +kernel) (pa_cons (pv 0) (pa_cons (pe_glob (v := .ref cs.NoNote) (by rfl) T.x_NoNote.gC rfl) pa_nil))) pa_nil)))
    (pss_cons (ps_if (PW.pt (pw_or (pt_cmpR op_ne (pe_bm PySem.F.plainAttrs_list PySem.F.slot_list_count PySem.F.type_list_count mt_countF (pv 1) (pa_cons pe_bl pa_nil)) pe_int (nomark _)) (pw_or1 (pt_not (pt_val (pe_callB (call_isP List.mem_cons_self hC hz hd) (by rfl) T.b_isinstance (by decide +kernel) (pa_cons (pv 0) (pa_cons (pe_bltn (v := .ty "ValueError") (by rfl) T.b_ValueError (by decide +kernel) rfl) pa_nil)))))))) (pss_one (ps_ret pe_str)) pss_nil)
    (pss_one (ps_ret (pe_ix ix_list (pe_lst (pa_cons pe_str (pa_cons pe_str (pa_cons pe_str (pa_cons pe_str (pa_cons pe_str pa_nil)))))) (pe_bm PySem.F.plainAttrs_list PySem.F.slot_list_index PySem.F.type_list_index mt_index (pv 1) (pa_cons pe_bl pa_nil)) (fun _ _ => rfl))))))), ?_⟩
    rw [show start ["e", "kinds"] [.ref a] = [some (.ref a), none] from rfl]
    walk_at "go"
    walk_at "if"
    · intro hb
      exact absurd hb (by decide)
    · intro hb H1 e1
      walk_at "go"
      refine d_rIndex 3 (by walk_at "sl") rfl rfl rfl rfl (fun m z hm hz => ?_) ?_
      · match m, hm, hz with
        | 0, _, rfl => rfl
        | 1, _, rfl => rfl
        | 2, _, rfl => rfl
      walk_at "go"
      exact q _ (by walk_at "ex")
  | 4, hj =>
    cases hj
    have hC := T.x_NoNote.eC
    refine ⟨_, (pss_cons (ps_set (i := 1) sc__law_word_of.nd rfl (.inl rfl) (pe_lst (pa_cons (pe_callB (call_isP List.mem_cons_self hC hz hd) (by rfl) T.b_isinstance (by decide +kernel) (pa_cons (pv 0) (pa_cons (pe_glob (v := .ref cs.NoPair) (by rfl) T.x_NoPair.gC rfl) pa_nil))) (pa_cons (pe_callB (call_isP List.mem_cons_self hC hz hd) (by rfl) T.b_isinstance (by decide +kernel) (pa_cons (pv 0) (pa_cons (pe_glob (v := .ref cs.NoTable) (by rfl) T.x_NoTable.gC rfl) pa_nil))) (pa_cons (pe_callB (call_isP List.mem_cons_self hC hz hd) (by rfl) T.b_isinstance (by decide +kernel) (pa_cons (pv 0) (pa_cons (pe_glob (v := .ref cs.NoMove) (by rfl) T.x_NoMove.gC rfl) pa_nil))) (pa_cons (pe_callB (call_isP List.mem_cons_self hC hz hd) (by rfl) T.b_isinstance (by decide +kernel) (pa_cons (pv 0) (pa_cons (pe_glob (v := .ref cs.TooLong) (by rfl) T.x_TooLong.gC rfl) pa_nil))) pa_nil))))))
    (pss_cons (ps_expr (pe_bm PySem.F.plainAttrs_list PySem.F.slot_list_append PySem.F.type_list_append mt_append (pv 1) (pa_cons (pe_callB (call_isP List.mem_cons_self hC hz hd) (by rfl) T.b_isinstance (by decide +kernel) (pa_cons (pv 0) (pa_cons (pe_glob (v := .ref cs.NoNote) (by rfl) T.x_NoNote.gC rfl) pa_nil))) pa_nil)))
    (pss_cons (ps_if (PW.pt (pw_or (pt_cmpR op_ne (pe_bm PySem.F.plainAttrs_list PySem.F.slot_list_count PySem.F.type_list_count mt_countF (pv 1) (pa_cons pe_bl pa_nil)) pe_int (nomark _)) (pw_or1 (pt_not (pt_val (pe_callB (call_isP List.mem_cons_self hC hz hd) (by rfl) T.b_isinstance (by decide +kernel) (pa_cons (pv 0) (pa_cons (pe_bltn (v := .ty "ValueError") (by rfl) T.b_ValueError (by decide +kernel) rfl) pa_nil)))))))) (pss_one (ps_ret pe_str)) pss_nil)
    (pss_one (ps_ret (pe_ix ix_list (pe_lst (pa_cons pe_str (pa_cons pe_str (pa_cons pe_str (pa_cons pe_str (pa_cons pe_str pa_nil)))))) (pe_bm PySem.F.plainAttrs_list PySem.F.slot_list_index PySem.F.type_list_index mt_index (pv 1) (pa_cons pe_bl pa_nil)) (fun _ _ => rfl))))))), ?_⟩
    rw [show start ["e", "kinds"] [.ref a] = [some (.ref a), none] from rfl]
    walk_at "go"
    walk_at "if"
    · intro hb
      exact absurd hb (by decide)
    · intro hb H1 e1
      walk_at "go"
      refine d_rIndex 4 (by walk_at "sl") rfl rfl rfl rfl (fun m z hm hz => ?_) ?_
      · match m, hm, hz with
        | 0, _, rfl => rfl
        | 1, _, rfl => rfl
        | 2, _, rfl => rfl
        | 3, _, rfl => rfl
      walk_at "go"
      exact q _ (by walk_at "ex")
theorem u_word_of {cs : Cs} {H : Hp} {Q : VK} {E : XK} {a D : Addr} {s : Str} {j : Nat} (hj : (wordC cs)[j]? = some (D, s)) (q : ∀ H2, Ex H H2 → Q (.str s) H2) : sp__law_word_of K cs a (.ref D) none [.ref a] H Q E := ⟨rfl, rfl, j, D, s, hj, rfl, q⟩

/-! ### _law_pile_by -/
def sp__law_pile_by (K : PySem.W.Frag) : Sp := fun vs H Q _ => ∃ c, vs = [.int c] ∧ ∀ n, Gd n → RetV (.int n) H Q
theorem ok__law_pile_by (F : Df K mg "_law_pile_by" s__law_pile_by) (T : Txt K mg cs)  : Cl P w K mg base 1 "_law_pile_by" (sp__law_pile_by K) := by
  refine cl_of (N := ["cell", "kind"]) (ps := ["cell"]) F (fun _ _ _ _ _ _ us hl => match us, hl with | [_], _ => rfl) sc__law_pile_by (fun vs H Q E h => by obtain ⟨_, rfl, _⟩ := h; rfl) (fun f cdv A outer s H vs Q E hr h => ⟨_, (pss_cons (ps_set (i := 1) sc__law_pile_by.nd rfl (.inl rfl) (pe_op op_mod (pv 0) pe_int))
    (pss_cons (ps_if (pt_cmpR op_eq (pv 1) pe_int (nomark _)) (pss_one (ps_ret (pe_op op_add pe_int (pe_op op_mod (pe_op op_fdivW (pv 0) pe_int) (pe_op op_pow pe_int pe_int))))) pss_nil)
    (pss_one (ps_ret (pe_op op_add pe_int (pe_op op_mod (pe_op op_fdivW (pv 0) pe_int) (pe_ix ix_list (pe_lst (pa_cons pe_int (pa_cons pe_int (pa_cons pe_int (pa_cons pe_int pa_nil))))) (pv 1) (fun _ _ => rfl)))))))), ?_⟩)
  obtain ⟨c, rfl, q⟩ := h
  rw [show start ["cell", "kind"] [.int c] = [some (.int c), none] from rfl]
  walk_at "go"
  walk_at "if"
  · intro hb H1 e1
    walk_at "go"
    refine q _ ⟨?_, ?_⟩ _ (by walk_at "ex") <;> omega
  · intro hb H1 e1
    have hb := of_decide_eq_false hb
    walk_at "go"
    have hk : c % 4 = 0 ∨ c % 4 = 1 ∨ c % 4 = 3 := by omega
    obtain ⟨n, hn, h0, h1⟩ : ∃ n : Int, atI [V.int 12, .int 1000, .int 1, .int 40] (c % 4) = some (.int n) ∧ 1 ≤ n ∧ n ≤ 1000 := by
      rcases hk with e | e | e <;> rw [e]
      · exact ⟨12, rfl, by decide, by decide⟩
      · exact ⟨1000, rfl, by decide, by decide⟩
      · exact ⟨40, rfl, by decide, by decide⟩
    refine d_ixL (v := .int n) (by walk_at "sl") hn ?_
    walk_at "go"
    refine q _ ⟨?_, ?_⟩ _ (by walk_at "ex")
    · have := Int.emod_nonneg (c / 4) (by omega : n ≠ 0); omega
    · have := Int.emod_lt_of_pos (c / 4) (by omega : 0 < n); omega
theorem u_pile_by {H : Hp} {Q : VK} {E : XK} {c : Int} (q : ∀ n, Gd n → ∀ H2, Ex H H2 → Q (.int n) H2) : sp__law_pile_by K [.int c] H Q E := ⟨c, rfl, q⟩
local macro_rules | `(tactic| walk_at "spcall") => `(tactic| ((with_reducible refine u_pile_by ?_); intro _ _ _ _))

/-! ### quotients -/
def sp_quotients (K : PySem.W.Frag) (cs : Cs) : Sp := fun vs H Q E => ∃ v x y, vs = [v] ∧ Pr K H v x y ∧ (Gd x → Gd y → RetL ((qs x y).map V.int) H Q) ∧ (¬ (Gd x ∧ Gd y) → ∀ H', Ex H H' → E (.ref cs.NoPair) none H')
theorem ok_quotients (F : Df K mg "quotients" s_quotients) (T : Txt K mg cs) (c_asked_pair : ClX P w K mg base 1 "asked_pair" (sp_asked_pair K cs)) (c_quotients_of : Cl P w K mg base 1 "quotients_of" (sp_quotients_of K)) : ClX P w K mg base 2 "quotients" (sp_quotients K cs) := by
  refine clX_of (N := ["pair"]) (ps := ["pair"]) F (fun _ _ _ _ _ _ us hl => match us, hl with | [_], _ => rfl) sc_quotients (fun vs H Q E h => by obtain ⟨_, _, _, rfl, _⟩ := h; rfl) (fun f cdv A outer s H vs Q E hr h => ⟨_, (pss_cons (ps_expr (pe_clX c_asked_pair hr (by decide) (by rfl) (takes_of rfl rfl rfl rfl) (pa_cons (pv 0) pa_nil)))
    (pss_one (ps_ret (pe_cl c_quotients_of hr (by decide) (by rfl) (pa_cons (pv 0) pa_nil))))), ?_⟩)
  obtain ⟨v, x, y, rfl, hp, q, qe⟩ := h
  by_cases hg : Gd x ∧ Gd y
  · obtain ⟨hx, hy⟩ := hg
    have q := q hx hy
    rw [show start ["pair"] [v] = [some (v)] from rfl]
    walk_at "go"
    exact q _ _ (by walk_at "fr") (by walk_at "ex") (by assumption)
  · rw [show start ["pair"] [v] = [some (v)] from rfl]
    walk_at "go"
    exact ⟨v, x, y, rfl, by walk_at "pr", fun a b => absurd ⟨a, b⟩ hg, fun _ H1 e1 => qe hg _ (by walk_at "ex")⟩
theorem u_quotients {cs : Cs} {H : Hp} {Q : VK} {E : XK} {v : V} {x y : Int} (hp : Pr K H v x y) (hx : Gd x) (hy : Gd y) (q : ∀ p H2, H p = none → Ex H H2 → H2 p = some (.lst ((qs x y).map V.int)) → Q (.ref p) H2) : sp_quotients K cs [v] H Q E := ⟨v, x, y, rfl, hp, fun _ _ => q, fun z => absurd ⟨hx, hy⟩ z⟩
local macro_rules | `(tactic| walk_at "spcall") => `(tactic| ((with_reducible apply u_quotients); (· walk_at "pr"); (· walk_at "gd"); (· walk_at "gd"); intro _ _ _ _ _))

/-! ### moves -/
def sp_moves (K : PySem.W.Frag) (cs : Cs) : Sp := fun vs H Q E => ∃ v x y, vs = [v] ∧ Pr K H v x y ∧ (Gd x → Gd y → RetV (.int (mvs x y)) H Q) ∧ (¬ (Gd x ∧ Gd y) → ∀ H', Ex H H' → E (.ref cs.NoPair) none H')
theorem ok_moves (F : Df K mg "moves" s_moves) (T : Txt K mg cs) (c_asked_pair : ClX P w K mg base 1 "asked_pair" (sp_asked_pair K cs)) (c_moves_of : Cl P w K mg base 1 "moves_of" (sp_moves_of K)) : ClX P w K mg base 2 "moves" (sp_moves K cs) := by
  refine clX_of (N := ["pair"]) (ps := ["pair"]) F (fun _ _ _ _ _ _ us hl => match us, hl with | [_], _ => rfl) sc_moves (fun vs H Q E h => by obtain ⟨_, _, _, rfl, _⟩ := h; rfl) (fun f cdv A outer s H vs Q E hr h => ⟨_, (pss_cons (ps_expr (pe_clX c_asked_pair hr (by decide) (by rfl) (takes_of rfl rfl rfl rfl) (pa_cons (pv 0) pa_nil)))
    (pss_one (ps_ret (pe_cl c_moves_of hr (by decide) (by rfl) (pa_cons (pv 0) pa_nil))))), ?_⟩)
  obtain ⟨v, x, y, rfl, hp, q, qe⟩ := h
  by_cases hg : Gd x ∧ Gd y
  · obtain ⟨hx, hy⟩ := hg
    have q := q hx hy
    rw [show start ["pair"] [v] = [some (v)] from rfl]
    walk_at "go"
    exact q _ (by walk_at "ex")
  · rw [show start ["pair"] [v] = [some (v)] from rfl]
    walk_at "go"
    exact ⟨v, x, y, rfl, by walk_at "pr", fun a b => absurd ⟨a, b⟩ hg, fun _ H1 e1 => qe hg _ (by walk_at "ex")⟩
theorem u_moves {cs : Cs} {H : Hp} {Q : VK} {E : XK} {v : V} {x y : Int} (hp : Pr K H v x y) (hx : Gd x) (hy : Gd y) (q : ∀ H2, Ex H H2 → Q (.int (mvs x y)) H2) : sp_moves K cs [v] H Q E := ⟨v, x, y, rfl, hp, fun _ _ => q, fun z => absurd ⟨hx, hy⟩ z⟩
local macro_rules | `(tactic| walk_at "spcall") => `(tactic| ((with_reducible apply u_moves); (· walk_at "pr"); (· walk_at "gd"); (· walk_at "gd"); intro _ _))

/-! ### taken -/
def sp_taken (K : PySem.W.Frag) (cs : Cs) : Sp := fun vs H Q E => ∃ v x y t, vs = [v, .int t] ∧ Pr K H v x y ∧ t < 1 ∧ (Gd x → Gd y → ∀ H', Ex H H' → E (.ref cs.NoMove) none H') ∧ (¬ (Gd x ∧ Gd y) → ∀ H', Ex H H' → E (.ref cs.NoPair) none H')
theorem ok_taken (F : Df K mg "taken" s_taken) (T : Txt K mg cs) (c_asked_pair : ClX P w K mg base 1 "asked_pair" (sp_asked_pair K cs)) (c_moves_of : Cl P w K mg base 1 "moves_of" (sp_moves_of K)) (c_behind : Cl P w K mg base 1 "behind" (sp_behind K)) : ClX P w K mg base 2 "taken" (sp_taken K cs) := by
  refine clX_of (N := ["pair", "times"]) (ps := ["pair", "times"]) F (fun _ _ _ _ _ _ us hl => match us, hl with | [_, _], _ => rfl) sc_taken (fun vs H Q E h => by obtain ⟨_, _, _, _, rfl, _⟩ := h; rfl) (fun f cdv A outer s H vs Q E hr h => ⟨_, (pss_cons (ps_expr (pe_clX c_asked_pair hr (by decide) (by rfl) (takes_of rfl rfl rfl rfl) (pa_cons (pv 0) pa_nil)))
    (pss_cons (ps_if (PW.pt (pw_or (pt_cmpR op_lt (pv 1) pe_int (nomark _)) (pw_or1 (pt_cmpR op_gt (pv 1) (pe_cl c_moves_of hr (by decide) (by rfl) (pa_cons (pv 0) pa_nil)) (nomark _))))) (pss_one (ps_raise rfl (takes_of rfl rfl rfl rfl) (pmk_own PySem.F.excBase_ValueError T.x_NoMove.xC T.x_NoMove.gC T.x_NoMove.kC (raises_own T.x_NoMove.bC T.x_NoMove.tC) (by exact rfl)))) pss_nil)
    (pss_one (ps_ret (pe_cl c_behind hr (by decide) (by rfl) (pa_cons (pv 0) (pa_cons (pv 1) pa_nil))))))), ?_⟩)
  obtain ⟨v, x, y, t, rfl, hp, ht, q, qe⟩ := h
  rw [show start ["pair", "times"] [v, .int t] = [some (v), some (.int t)] from rfl]
  by_cases hg : Gd x ∧ Gd y
  · obtain ⟨hx, hy⟩ := hg
    walk_at "go"
    walk_at "if"
    · intro hb H1 e1
      exact q hx hy _ (by walk_at "ex")
    · intro hb
      simp at hb
      omega
  · walk_at "go"
    exact ⟨v, x, y, rfl, by walk_at "pr", fun a b => absurd ⟨a, b⟩ hg, fun _ H1 e1 => qe hg _ (by walk_at "ex")⟩

/-! ### worth -/
def sp_worth (K : PySem.W.Frag) (cs : Cs) : Sp := fun vs H Q E => ∃ v x y, vs = [v] ∧ Pr K H v x y ∧ (Gd x → Gd y → RetV (.int (wt x y)) H Q) ∧ (¬ (Gd x ∧ Gd y) → ∀ H', Ex H H' → E (.ref cs.NoPair) none H')
theorem ok_worth (F : Df K mg "worth" s_worth) (T : Txt K mg cs) (c_asked_pair : ClX P w K mg base 1 "asked_pair" (sp_asked_pair K cs)) (c_worth_of : Cl P w K mg base 1 "worth_of" (sp_worth_of K)) : ClX P w K mg base 2 "worth" (sp_worth K cs) := by
  refine clX_of (N := ["pair"]) (ps := ["pair"]) F (fun _ _ _ _ _ _ us hl => match us, hl with | [_], _ => rfl) sc_worth (fun vs H Q E h => by obtain ⟨_, _, _, rfl, _⟩ := h; rfl) (fun f cdv A outer s H vs Q E hr h => ⟨_, (pss_cons (ps_expr (pe_clX c_asked_pair hr (by decide) (by rfl) (takes_of rfl rfl rfl rfl) (pa_cons (pv 0) pa_nil)))
    (pss_one (ps_ret (pe_cl c_worth_of hr (by decide) (by rfl) (pa_cons (pv 0) pa_nil))))), ?_⟩)
  obtain ⟨v, x, y, rfl, hp, q, qe⟩ := h
  by_cases hg : Gd x ∧ Gd y
  · obtain ⟨hx, hy⟩ := hg
    have q := q hx hy
    rw [show start ["pair"] [v] = [some (v)] from rfl]
    walk_at "go"
    exact q _ (by walk_at "ex")
  · rw [show start ["pair"] [v] = [some (v)] from rfl]
    walk_at "go"
    exact ⟨v, x, y, rfl, by walk_at "pr", fun a b => absurd ⟨a, b⟩ hg, fun _ H1 e1 => qe hg _ (by walk_at "ex")⟩
theorem u_worth {cs : Cs} {H : Hp} {Q : VK} {E : XK} {v : V} {x y : Int} (hp : Pr K H v x y) (hx : Gd x) (hy : Gd y) (q : ∀ H2, Ex H H2 → Q (.int (wt x y)) H2) : sp_worth K cs [v] H Q E := ⟨v, x, y, rfl, hp, fun _ _ => q, fun z => absurd ⟨hx, hy⟩ z⟩
local macro_rules | `(tactic| walk_at "spcall") => `(tactic| ((with_reducible apply u_worth); (· walk_at "pr"); (· walk_at "gd"); (· walk_at "gd"); intro _ _))

/-! ### leading_of -/
/-! ### worths by quotient and rest -/
theorem noeq_nat : ∀ (n : Nat) (s r k : Int), r.toNat < n → 0 < r → r < s → 0 ≤ k → r * (k * s + r) ≠ s * s
  | 0, _, _, _, h, _, _, _ => absurd h (Nat.not_lt_zero _)
  | n + 1, s, r, k, h, h0, h1, hk => fun e => by
    -- t = s - k r; r * r = s * t
    have e1 : r * r = s * (s - k * r) := by
      rw [Int.mul_sub, ← e, Int.mul_add]
      have : r * (k * s) = s * (k * r) := by rw [← Int.mul_assoc, Int.mul_comm r k, Int.mul_comm (k * r) s]
      omega
    generalize ht : s - k * r = t at e1
    have t0 : 0 < t := by
      have h2 : 0 < s * t := by rw [← e1]; exact Int.mul_pos h0 h0
      exact Int.pos_of_mul_pos_right h2 (by omega) |> fun z => z
    have t1 : t < r := by
      have h2 : r * r < s * r := Int.mul_lt_mul_of_pos_right h1 h0
      rw [e1] at h2
      exact Int.lt_of_mul_lt_mul_left h2 (by omega)
    refine noeq_nat n r t k (by omega) t0 t1 hk ?_
    have es : s = k * r + t := by omega
    rw [es] at e1
    rw [e1, Int.mul_comm]
theorem noeq {s r k : Int} (h0 : 0 < r) (h1 : r < s) (hk : 0 ≤ k) : r * (k * s + r) ≠ s * s := noeq_nat (r.toNat + 1) s r k (Nat.lt_succ_self _) h0 h1 hk
/-- the worth of the pair k * s + r, s -/
def lv (s r k : Int) : Int := if r = 0 then k - 1 else if k = 0 then wt s r else if wt s r < k then k else k - 1
theorem wt_lv {s r k : Int} (hs : 0 < s) (hr : 0 ≤ r) (hr2 : r < s) (hk : 0 ≤ k) (hk2 : r = 0 → 1 ≤ k) : wt (k * s + r) s = lv s r k := by
  by_cases k0 : k = 0
  · have r0 : r ≠ 0 := fun z => by have := hk2 z; omega
    subst k0
    unfold lv
    rw [if_neg r0, if_pos rfl, Int.zero_mul, Int.zero_add, wt_comm]
  · have g1 : s ≤ k * s := by
      have := Int.mul_le_mul_of_nonneg_right (show 1 ≤ k by omega) (Int.le_of_lt hs)
      omega
    generalize hg : k * s + r = g
    have gs : s ≤ g := by omega
    have hgs : 0 < g * s := Int.mul_pos (by omega) hs
    have e1 : g * g - s * s = (g * r - s * s) + g * s * k := by
      have : g * g = g * (k * s + r) := by rw [hg]
      rw [this, Int.mul_add]
      have : g * (k * s) = g * s * k := by rw [Int.mul_comm k s, Int.mul_assoc]
      omega
    have e2 : wt g s = k + (g * r - s * s) / (g * s) := by
      unfold wt
      rw [show max g s = g by omega, show min g s = s by omega, e1, Int.add_mul_ediv_left _ _ (by omega)]
      omega
    have grs : g * r < g * s := Int.mul_lt_mul_of_pos_left hr2 (by omega)
    have ssg : s * s ≤ g * s := Int.mul_le_mul_of_nonneg_right gs (by omega)
    have ss0 : 0 < s * s := Int.mul_pos hs hs
    have gr0 : 0 ≤ g * r := Int.mul_nonneg (by omega) hr
    have hi : s * s ≤ g * r → wt g s = k := fun c => by
      rw [e2, Int.ediv_eq_zero_of_lt (by omega) (by omega)]
      omega
    have lo : ¬ s * s ≤ g * r → wt g s = k - 1 := fun c => by
      have e3 : (g * r - s * s) / (g * s) = -1 := by
        have e4 : g * r - s * s = (g * r - s * s + g * s) + g * s * (-1) := by omega
        rw [e4, Int.add_mul_ediv_left _ _ (by omega), Int.ediv_eq_zero_of_lt (by omega) (by omega)]
        rfl
      rw [e2, e3]
      omega
    unfold lv
    by_cases r0 : r = 0
    · rw [if_pos r0]
      refine lo ?_
      rw [r0, Int.mul_zero]
      omega
    · rw [if_neg r0, if_neg k0]
      have hr0 : 0 < r := by omega
      have hsr : 0 < s * r := Int.mul_pos hs hr0
      have w1 : wt s r = (s * s - r * r) / (s * r) := by
        unfold wt
        rw [show max s r = s by omega, show min s r = r by omega]
      have key : wt s r < k ↔ s * s < g * r := by
        rw [w1, Int.ediv_lt_iff_lt_mul hsr]
        have : k * (s * r) = g * r - r * r := by
          rw [← hg, Int.add_mul, ← Int.mul_assoc]
          omega
        omega
      have ne : g * r ≠ s * s := by
        have := noeq hr0 hr2 hk
        rw [hg, Int.mul_comm] at this
        exact this
      by_cases c : wt s r < k
      · rw [if_pos c]
        exact hi (by have := key.mp c; omega)
      · rw [if_neg c]
        exact lo (fun z => c (key.mpr (by omega)))
theorem lv_low {s r : Int} (hs : 0 < s) (hr : 0 ≤ r) (hr2 : r < s) : r = 0 ∨ 0 ≤ wt s r := by
  by_cases c : r = 0
  · exact .inl c
  · exact .inr (wt_nonneg (by omega) (by omega))
theorem lv_inj {s r k k' : Int} (hw : r = 0 ∨ 0 ≤ wt s r) (hk : 0 ≤ k) (hk' : 0 ≤ k') (h1 : r = 0 → 1 ≤ k) (h2 : r = 0 → 1 ≤ k') (e : lv s r k = lv s r k') : k = k' := by
  unfold lv at e
  by_cases c : r = 0
  · rw [if_pos c, if_pos c] at e; omega
  · rw [if_neg c, if_neg c] at e
    have hw2 : 0 ≤ wt s r := hw.resolve_left c
    generalize wt s r = w at *
    split at e <;> split at e <;> (try split at e) <;> (try split at e) <;> omega
theorem lv_nonneg {s r k : Int} (hw : r = 0 ∨ 0 ≤ wt s r) (hk : 0 ≤ k) (h1 : r = 0 → 1 ≤ k) : 0 ≤ lv s r k := by
  unfold lv
  by_cases c : r = 0
  · rw [if_pos c]; have := h1 c; omega
  · rw [if_neg c]
    have hw2 : 0 ≤ wt s r := hw.resolve_left c
    split
    · exact hw2
    · split <;> omega
theorem lv_surj {s r q n : Int} (hw : r = 0 ∨ 0 ≤ wt s r) (hq : 1 ≤ q) (hn : 0 ≤ n) (h : n < lv s r q) : ∃ k, 0 ≤ k ∧ k < q ∧ (r = 0 → 1 ≤ k) ∧ lv s r k = n := by
  unfold lv at h
  by_cases c : r = 0
  · rw [if_pos c] at h
    refine ⟨n + 1, by omega, by omega, fun _ => by omega, ?_⟩
    unfold lv
    rw [if_pos c]
    omega
  · rw [if_neg c, if_neg (by omega)] at h
    have hw2 : 0 ≤ wt s r := hw.resolve_left c
    have form : ∀ k, lv s r k = if k = 0 then wt s r else if wt s r < k then k else k - 1 := fun k => by unfold lv; rw [if_neg c]
    generalize hwt : wt s r = w at *
    by_cases d : n < w
    · refine ⟨n + 1, by omega, ?_, fun z => absurd z c, ?_⟩
      · split at h <;> omega
      · rw [form, if_neg (by omega), if_neg (by omega)]
        omega
    · by_cases e : n = w
      · refine ⟨0, by omega, by omega, fun z => absurd z c, ?_⟩
        rw [form, if_pos rfl, e]
      · refine ⟨n, hn, ?_, fun z => absurd z c, ?_⟩
        · split at h <;> omega
        · rw [form, if_neg (by omega), if_pos (by omega)]
theorem lv_greater {s r q k : Int} (hw : r = 0 ∨ 0 ≤ wt s r) (hk : 0 ≤ k) (hkq : k < q) (h : lv s r q < lv s r k) : k = 0 := by
  unfold lv at h
  by_cases c : r = 0
  · rw [if_pos c, if_pos c] at h; omega
  · rw [if_neg c, if_neg c] at h
    generalize wt s r = w at *
    split at h <;> split at h <;> (try split at h) <;> (try split at h) <;> omega
theorem lv_at {s r k : Int} : k = lv s r k ∨ k = lv s r k + 1 ∨ k = 0 := by
  unfold lv
  split
  · omega
  · split
    · omega
    · split <;> omega
/-! ### moves and their worths -/
/-- the worth behind a move -/
def wtb (x y t : Int) : Int := wt (bh x y t).1 (bh x y t).2
structure Qr (x y s r q : Int) : Prop where
  hs : 0 < s
  hr : 0 ≤ r
  hr2 : r < s
  hq : 1 ≤ q
  hq0 : max x y / min x y = q
  own : wt x y = lv s r q
  mv : mvs x y = q - (if r = 0 then 1 else 0)
  bt : ∀ t, 1 ≤ t → t ≤ mvs x y → wtb x y t = lv s r (q - t)
theorem qr_of {x y : Int} (hx : 1 ≤ x) (hy : 1 ≤ y) : Qr x y (min x y) (max x y % min x y) (max x y / min x y) := by
  have hs : 0 < min x y := by omega
  have h1 := Int.emod_add_mul_ediv (max x y) (min x y)
  have h2 := Int.emod_nonneg (max x y) (by omega : min x y ≠ 0)
  have h3 := Int.emod_lt_of_pos (max x y) hs
  have hq : 1 ≤ max x y / min x y := by
    rw [Int.le_ediv_iff_mul_le hs]
    omega
  have hmv : mvs x y = max x y / min x y - (if max x y % min x y = 0 then 1 else 0) := by
    unfold mvs
    generalize hM : max x y = M at *
    generalize hm : min x y = m at *
    generalize M / m = q at *
    by_cases c : M % m = 0
    · rw [if_pos c]
      rw [c] at h1
      have e : M - 1 = (m - 1) + m * (q - 1) := by rw [Int.mul_sub]; omega
      rw [e, Int.add_mul_ediv_left _ _ (by omega), Int.ediv_eq_zero_of_lt (by omega) (by omega)]
      omega
    · rw [if_neg c]
      have e : M - 1 = (M % m - 1) + m * q := by omega
      rw [e, Int.add_mul_ediv_left _ _ (by omega), Int.ediv_eq_zero_of_lt (by omega) (by omega)]
      omega
  have hk2 : ∀ t, t ≤ mvs x y → max x y % min x y = 0 → 1 ≤ max x y / min x y - t := fun t ht c => by
    rw [hmv, if_pos c] at ht
    omega
  have hk : ∀ t, t ≤ mvs x y → 0 ≤ max x y / min x y - t := fun t ht => by
    rw [hmv] at ht
    split at ht <;> omega
  refine ⟨hs, h2, h3, hq, rfl, ?_, hmv, fun t h5 h6 => ?_⟩
  · have e := wt_lv hs h2 h3 (show 0 ≤ max x y / min x y by omega) fun _ => hq
    rw [← e]
    have e2 : max x y / min x y * min x y + max x y % min x y = max x y := by
      rw [Int.mul_comm]
      omega
    rw [e2]
    by_cases c : x ≤ y
    · rw [show max x y = y by omega, show min x y = x by omega, wt_comm]
    · rw [show max x y = x by omega, show min x y = y by omega]
  · have e := wt_lv hs h2 h3 (hk t h6) (hk2 t h6)
    rw [← e]
    have e2 : (max x y / min x y - t) * min x y + max x y % min x y = max x y - t * min x y := by
      rw [Int.sub_mul, Int.mul_comm (max x y / min x y)]
      omega
    rw [e2]
    unfold wtb bh
    by_cases c : y < x
    · rw [if_pos c, show max x y = x by omega, show min x y = y by omega]
    · rw [if_neg c, show max x y = y by omega, show min x y = x by omega, wt_comm]
theorem Qr.k0 {x y s r q t : Int} (h : Qr x y s r q) (h1 : 1 ≤ t) (h2 : t ≤ mvs x y) : 0 ≤ q - t ∧ (r = 0 → 1 ≤ q - t) := by
  rw [h.mv] at h2
  refine ⟨by split at h2 <;> omega, fun c => ?_⟩
  rw [if_pos c] at h2
  omega
theorem Qr.low {x y s r q : Int} (h : Qr x y s r q) : r = 0 ∨ 0 ≤ wt s r := lv_low h.hs h.hr h.hr2
/-- no two moves lead to one worth -/
theorem wtb_inj {x y t u : Int} (hx : 1 ≤ x) (hy : 1 ≤ y) (h1 : 1 ≤ t) (h2 : t ≤ mvs x y) (h3 : 1 ≤ u) (h4 : u ≤ mvs x y) (e : wtb x y t = wtb x y u) : t = u := by
  have h := qr_of hx hy
  generalize min x y = s at h
  generalize max x y % s = r at h
  generalize max x y / s = q at h
  rw [h.bt t h1 h2, h.bt u h3 h4] at e
  have := lv_inj h.low (h.k0 h1 h2).1 (h.k0 h3 h4).1 (h.k0 h1 h2).2 (h.k0 h3 h4).2 e
  omega
/-- none leads to the pair's own -/
theorem wtb_ne {x y t : Int} (hx : 1 ≤ x) (hy : 1 ≤ y) (h1 : 1 ≤ t) (h2 : t ≤ mvs x y) : wtb x y t ≠ wt x y := fun e => by
  have h := qr_of hx hy
  generalize min x y = s at h
  generalize max x y % s = r at h
  generalize max x y / s = q at h
  rw [h.bt t h1 h2, h.own] at e
  have := lv_inj h.low (h.k0 h1 h2).1 (by have := h.hq; omega) (h.k0 h1 h2).2 (fun _ => h.hq) e
  omega
/-- each lesser worth is led to -/
theorem wtb_surj {x y n : Int} (hx : 1 ≤ x) (hy : 1 ≤ y) (h0 : 0 ≤ n) (h1 : n < wt x y) : ∃ t, 1 ≤ t ∧ t ≤ mvs x y ∧ wtb x y t = n := by
  have h := qr_of hx hy
  generalize min x y = s at h
  generalize max x y % s = r at h
  generalize max x y / s = q at h
  rw [h.own] at h1
  obtain ⟨k, k0, k1, k2, k3⟩ := lv_surj h.low h.hq h0 h1
  have hm := h.mv
  have ht : q - k ≤ mvs x y := by
    rw [hm]
    split
    · rename_i c
      have := k2 c
      omega
    · omega
  refine ⟨q - k, by omega, ht, ?_⟩
  rw [h.bt _ (by omega) ht, show q - (q - k) = k by omega]
  exact k3
/-- at most one leads to a greater one -/
theorem wtb_greater {x y t u : Int} (hx : 1 ≤ x) (hy : 1 ≤ y) (h1 : 1 ≤ t) (h2 : t ≤ mvs x y) (h3 : 1 ≤ u) (h4 : u ≤ mvs x y) (g1 : wt x y < wtb x y t) (g2 : wt x y < wtb x y u) : t = u := by
  have h := qr_of hx hy
  generalize min x y = s at h
  generalize max x y % s = r at h
  generalize max x y / s = q at h
  rw [h.bt t h1 h2, h.own] at g1
  rw [h.bt u h3 h4, h.own] at g2
  have := lv_greater h.low (h.k0 h1 h2).1 (by omega) g1
  have := lv_greater h.low (h.k0 h3 h4).1 (by omega) g2
  omega
theorem wtb_nonneg {x y t : Int} (hx : 1 ≤ x) (hy : 1 ≤ y) (h1 : 1 ≤ t) (h2 : t ≤ mvs x y) : 0 ≤ wtb x y t := by
  have h := qr_of hx hy
  generalize min x y = s at h
  generalize max x y % s = r at h
  generalize max x y / s = q at h
  rw [h.bt t h1 h2]
  exact lv_nonneg h.low (h.k0 h1 h2).1 (h.k0 h1 h2).2
/-- where the move is found -/
theorem wtb_at {x y t : Int} (hx : 1 ≤ x) (hy : 1 ≤ y) (h1 : 1 ≤ t) (h2 : t ≤ mvs x y) : t = max x y / min x y - wtb x y t ∨ t = max x y / min x y - (wtb x y t + 1) ∨ t = max x y / min x y - 0 := by
  have h := qr_of hx hy
  have hq0 := h.hq0
  generalize min x y = s at *
  generalize max x y % s = r at *
  generalize max x y / s = q at *
  rw [h.bt t h1 h2]
  have := @lv_at s r (q - t)
  omega

/-- what leads to a worth -/
def optV : Option Int → V
  | some t => .int t
  | none => .non
def ldOk (x y aim left : Int) : Bool := decide (1 ≤ max x y / min x y - left ∧ max x y / min x y - left ≤ mvs x y ∧ wtb x y (max x y / min x y - left) = aim)
def ld (x y aim : Int) : Option Int := if ldOk x y aim aim = true then some (max x y / min x y - aim) else if ldOk x y aim (aim + 1) = true then some (max x y / min x y - (aim + 1)) else if ldOk x y aim 0 = true then some (max x y / min x y - 0) else none
theorem ld_some {x y aim t : Int} (h : ld x y aim = some t) : 1 ≤ t ∧ t ≤ mvs x y ∧ wtb x y t = aim := by
  unfold ld at h
  split at h
  · rename_i c
    cases h
    exact of_decide_eq_true c
  · split at h
    · rename_i c
      cases h
      exact of_decide_eq_true c
    · split at h
      · rename_i c
        cases h
        exact of_decide_eq_true c
      · cases h
theorem ld_none {x y aim : Int} (hx : 1 ≤ x) (hy : 1 ≤ y) (h : ld x y aim = none) : ∀ t, 1 ≤ t → t ≤ mvs x y → wtb x y t ≠ aim := fun t h1 h2 e => by
  unfold ld at h
  split at h
  · cases h
  · rename_i c1
    split at h
    · cases h
    · rename_i c2
      split at h
      · cases h
      · rename_i c3
        have yes : ∀ left, t = max x y / min x y - left → ldOk x y aim left = true := fun left z => decide_eq_true (by rw [← z]; exact ⟨h1, h2, e⟩)
        rcases wtb_at hx hy h1 h2 with z | z | z
        · rw [e] at z; exact c1 (yes _ z)
        · rw [e] at z; exact c2 (yes _ z)
        · exact c3 (yes _ z)
theorem ld_of {x y aim t : Int} (hx : 1 ≤ x) (hy : 1 ≤ y) (h1 : 1 ≤ t) (h2 : t ≤ mvs x y) (e : wtb x y t = aim) : ld x y aim = some t := by
  cases h : ld x y aim with
  | none => exact absurd e (ld_none hx hy h t h1 h2)
  | some u =>
    obtain ⟨a, b, c⟩ := ld_some h
    rw [wtb_inj hx hy h1 h2 a b (by rw [e, c])]
def sp_leading_of (K : PySem.W.Frag) : Sp := fun vs H Q _ => ∃ v x y aim, vs = [v, .int aim] ∧ Pr K H v x y ∧ Gd x ∧ Gd y ∧ RetV (optV (ld x y aim)) H Q
theorem ok_leading_of (F : Df K mg "leading_of" s_leading_of) (T : Txt K mg cs) (c_moves_of : Cl P w K mg base 1 "moves_of" (sp_moves_of K)) (c_behind : Cl P w K mg base 1 "behind" (sp_behind K)) (c_worth_of : Cl P w K mg base 1 "worth_of" (sp_worth_of K)) : Cl P w K mg base 2 "leading_of" (sp_leading_of K) := by
  refine cl_of (N := ["pair", "aim", "most", "quotient", "left", "times"]) (ps := ["pair", "aim"]) F (fun _ _ _ _ _ _ us hl => match us, hl with | [_, _], _ => rfl) sc_leading_of (fun vs H Q E h => by obtain ⟨_, _, _, _, rfl, _⟩ := h; rfl) (fun f cdv A outer s H vs Q E hr h => ⟨_, (pss_cons (ps_set (i := 2) sc_leading_of.nd rfl (.inl rfl) (pe_cl c_moves_of hr (by decide) (by rfl) (pa_cons (pv 0) pa_nil)))
    (pss_cons (ps_set (i := 3) sc_leading_of.nd rfl (.inl rfl) (pe_op op_fdivW (pe_callB (call_maxT rfl) (by rfl) T.b_max (by decide +kernel) (pa_cons (pv 0) pa_nil)) (pe_callB (call_minT rfl) (by rfl) T.b_min (by decide +kernel) (pa_cons (pv 0) pa_nil))))
    (pss_cons (ps_for PassesOwn.never rfl (pi_tup (pe_tup (pa_cons (pv 1) (pa_cons (pe_op op_add (pv 1) pe_int) (pa_cons pe_int pa_nil))))) (pg_name (i := 4) sc_leading_of.nd rfl (.inl rfl)) (pss_cons (ps_set (i := 5) sc_leading_of.nd rfl (.inl rfl) (pe_op op_sub (pv 3) (pv 4)))
    (pss_one (ps_if (PW.pt (pw_and (pt_chain op_le op_le pe_int (pv 5) (pv 2)) (pw_and1 (pt_cmpR op_eq (pe_cl c_worth_of hr (by decide) (by rfl) (pa_cons (pe_cl c_behind hr (by decide) (by rfl) (pa_cons (pv 0) (pa_cons (pv 5) pa_nil))) pa_nil)) (pv 1) (nomark _))))) (pss_one (ps_ret (pv 5))) pss_nil))))
    (pss_one (ps_ret pe_non))))), ?_⟩)
  obtain ⟨v, x, y, aim, rfl, hp, ⟨hx1, hx2⟩, ⟨hy1, hy2⟩, q⟩ := h
  rw [show start ["pair", "aim", "most", "quotient", "left", "times"] [v, .int aim] = [some (v), some (.int aim), none, none, none, none] from rfl]
  walk_at "go"
  rename_i H1 e1
  refine d_forU (xs := [.int aim, .int (aim + 1), .int 0]) (by walk_at "eu") (fun H2 i σ' H' => Ex H2 H' ∧ (∃ z z2, σ' = [some v, some (.int aim), some (.int (mvs x y)), some (.int (max x y / min x y)), z, z2]) ∧
      ∀ j < i, ∀ l, ([.int aim, .int (aim + 1), .int 0] : List V)[j]? = some (.int l) → ldOk x y aim l = false)
    (fun H2 e2 => ⟨Ex.refl _, ⟨_, _, rfl⟩, fun j hj => absurd hj (Nat.not_lt_zero j)⟩) (fun H2 i σ' H' h => h.1) ?_ ?_
  · rintro H2 i xv σ' H' e2 hi ⟨e3, ⟨z, z2, rfl⟩, hj⟩
    obtain ⟨l, rfl⟩ : ∃ l, xv = .int l := by
      match i, hi with
      | 0, hi => exact ⟨_, (Option.some.inj hi).symm⟩
      | 1, hi => exact ⟨_, (Option.some.inj hi).symm⟩
      | 2, hi => exact ⟨_, (Option.some.inj hi).symm⟩
    walk_at "nx"
    walk_at "go"
    walk_at "if"
    · intro hb H4 e4
      simp at hb
      have hld : ld x y aim = some (max x y / min x y - l) := ld_of hx1 hy1 hb.1.1 hb.1.2 hb.2
      rw [hld] at q
      walk_at "go"
      exact q _ (by walk_at "ex")
    · intro hb H4 e4
      refine ⟨by walk_at "ex", ⟨_, _, rfl⟩, fun j hj2 l' hl' => ?_⟩
      by_cases c : j = i
      · subst c
        rw [hi] at hl'
        cases hl'
        refine decide_eq_false fun z => ?_
        obtain ⟨z1, z2, z3⟩ := z
        unfold wtb at z3
        simp [z1, z2, z3] at hb
      · exact hj j (by omega) l' hl'
  · rintro H2 σ' H' e2 ⟨e3, ⟨z, z2, rfl⟩, hj⟩
    have hld : ld x y aim = none := by
      unfold ld
      rw [hj 0 (by simp) _ rfl, hj 1 (by simp) _ rfl, hj 2 (by simp) _ rfl]
      rfl
    rw [hld] at q
    walk_at "go"
    exact q _ (by walk_at "ex")
theorem u_leading_of {H : Hp} {Q : VK} {E : XK} {v : V} {x y aim : Int} (hp : Pr K H v x y) (hx : Gd x) (hy : Gd y) (q : ∀ H2, Ex H H2 → Q (optV (ld x y aim)) H2) : sp_leading_of K [v, .int aim] H Q E := ⟨v, x, y, aim, rfl, hp, hx, hy, q⟩
local macro_rules | `(tactic| walk_at "spcall") => `(tactic| ((with_reducible apply u_leading_of); (· walk_at "pr"); (· walk_at "gd"); (· walk_at "gd"); intro _ _))

/-! ### asked_table -/
def sp_asked_table (K : PySem.W.Frag) (cs : Cs) : Sp := fun vs H Q E => ∃ v T, vs = [v] ∧ Tb K H v T ∧ (T.length ≤ 6 → GdT T → RetV .non H Q) ∧ (¬ T.length ≤ 6 → ∀ H', Ex H H' → E (.ref cs.NoTable) none H') ∧ (T.length ≤ 6 → ¬ GdT T → ∀ H', Ex H H' → E (.ref cs.NoPair) none H')
theorem ok_asked_table (F : Df K mg "asked_table" s_asked_table) (T : Txt K mg cs) (c_asked_pair : ClX P w K mg base 1 "asked_pair" (sp_asked_pair K cs)) : ClX P w K mg base 2 "asked_table" (sp_asked_table K cs) := by
  refine clX_of (N := ["table", "pair"]) (ps := ["table"]) F (fun _ _ _ _ _ _ us hl => match us, hl with | [_], _ => rfl) sc_asked_table (fun vs H Q E h => by obtain ⟨_, _, rfl, _⟩ := h; rfl) (fun f cdv A outer s H vs Q E hr h => ⟨_, (pss_cons (ps_if (pt_cmpR op_gt (pe_callB call_lenL (by rfl) T.b_len (by decide +kernel) (pa_cons (pv 0) pa_nil)) (pe_gc (by rfl) T.g_MOST) (nomark _)) (pss_one (ps_raise rfl (takes_of rfl rfl rfl rfl) (pmk_own PySem.F.excBase_ValueError T.x_NoTable.xC T.x_NoTable.gC T.x_NoTable.kC (raises_own T.x_NoTable.bC T.x_NoTable.tC) (by exact rfl)))) pss_nil)
    (pss_one (ps_for (passes_of rfl) rfl (pi_list (pv 0)) (pg_name (i := 1) sc_asked_table.nd rfl (.inl rfl)) (pss_one (ps_expr (pe_clX c_asked_pair hr (by decide) (by rfl) (takes_of rfl rfl rfl rfl) (pa_cons (pv 1) pa_nil))))))), ?_⟩)
  obtain ⟨v, T, rfl, hT, q, qt, qp⟩ := h
  rw [show start ["table", "pair"] [v] = [some (v), none] from rfl]
  walk_at "go"
  walk_at "if"
  · intro hb H1 e1
    simp at hb
    exact qt (by omega) _ (by walk_at "ex")
  · intro hb H1 e1
    simp at hb
    have hl : T.length ≤ 6 := by omega
    walk_at "go"
    refine d_forT (T := T) (by walk_at "ev") (by walk_at "tb") (fun i σ' H' => Ex H1 H' ∧ (∃ z, σ' = [some v, z]) ∧ ∀ j < i, ∀ p, T[j]? = some p → Gd p.1 ∧ Gd p.2) (fun H2 e2 => ⟨e2, ⟨_, rfl⟩, fun j hj => absurd hj (Nat.not_lt_zero j)⟩) (fun i σ' H' h => h.1) ?_ ?_
    · rintro i w p σ' H' hi hp ⟨e2, ⟨z, rfl⟩, hj⟩
      walk_at "nx"
      by_cases hg : Gd p.1 ∧ Gd p.2
      · obtain ⟨g1, g2⟩ := hg
        walk_at "go"
        refine ⟨by walk_at "ex", ⟨_, rfl⟩, fun j hj2 p' hp' => ?_⟩
        by_cases c : j = i
        · subst c
          rw [hi] at hp'
          cases hp'
          exact ⟨g1, g2⟩
        · exact hj j (by omega) p' hp'
      · walk_at "go"
        exact ⟨w, _, _, rfl, by walk_at "pr", fun a b => absurd ⟨a, b⟩ hg, fun _ H2 e3 => qp hl (fun z => hg (z p (List.mem_of_getElem? hi))) _ (by walk_at "ex")⟩
    · rintro σ' H' ⟨e2, ⟨z, rfl⟩, hj⟩
      refine q hl (fun p hp => ?_) _ (by walk_at "ex")
      obtain ⟨j, hj1, rfl⟩ := List.getElem_of_mem hp
      exact hj j hj1 _ (List.getElem?_eq_getElem hj1)
theorem u_asked_table {cs : Cs} {H : Hp} {Q : VK} {E : XK} {v : V} {T : List (Int × Int)} (hT : Tb K H v T) (hl : T.length ≤ 6) (hG : GdT T) (q : ∀ H2, Ex H H2 → Q .non H2) : sp_asked_table K cs [v] H Q E := ⟨v, T, rfl, hT, fun _ _ => q, fun z => absurd hl z, fun _ z => absurd hG z⟩
local macro_rules | `(tactic| walk_at "spcall") => `(tactic| ((with_reducible apply u_asked_table); (· walk_at "tb"); (· assumption); (· assumption); intro _ _))

/-! ### _law_pair_by -/
def fibP : Nat → Int × Int
  | 0 => (1, 1)
  | n + 1 => ((fibP n).2, (fibP n).1 + (fibP n).2)
def fibT : Nat → Int → Int → Bool
  | 0, a, b => decide (1 ≤ a ∧ a ≤ 1000000000000000000000000000000 ∧ 1 ≤ b ∧ b ≤ 1000000000000000000000000000000)
  | n + 1, a, b => decide (1 ≤ a ∧ a ≤ 1000000000000000000000000000000 ∧ 1 ≤ b ∧ b ≤ 1000000000000000000000000000000) && fibT n b (a + b)
theorem fibT_ok : fibT 140 1 1 = true := by decide +kernel
theorem fibT_at : ∀ (i n : Nat) (a b : Int), fibT (i + n) a b = true → (∀ j, (a, b) = fibP j → Gd (fibP (j + i)).1 ∧ Gd (fibP (j + i)).2)
  | 0, 0, a, b, h, j, e => by
    have h := of_decide_eq_true h
    rw [Nat.add_zero, ← e]
    exact ⟨⟨h.1, h.2.1⟩, ⟨h.2.2.1, h.2.2.2⟩⟩
  | 0, n + 1, a, b, h, j, e => by
    have h := of_decide_eq_true (Bool.and_eq_true _ _ ▸ (show (_ && _) = true by rw [Nat.zero_add] at h; exact h)).1
    rw [Nat.add_zero, ← e]
    exact ⟨⟨h.1, h.2.1⟩, ⟨h.2.2.1, h.2.2.2⟩⟩
  | i + 1, n, a, b, h, j, e => by
    have e1 : i + 1 + n = (i + n) + 1 := by omega
    rw [e1] at h
    have h2 := ((Bool.and_eq_true _ _).mp h).2
    have := fibT_at i n b (a + b) h2 (j + 1) (by
      show (b, a + b) = ((fibP j).2, (fibP j).1 + (fibP j).2)
      rw [← e])
    rw [show j + (i + 1) = j + 1 + i by omega]
    exact this
theorem fib_gd {i : Nat} (h : i ≤ 140) : Gd (fibP i).1 ∧ Gd (fibP i).2 := by
  have := fibT_at i (140 - i) 1 1 (by rw [show i + (140 - i) = 140 by omega]; exact fibT_ok) 0 rfl
  rwa [Nat.zero_add] at this
def MidPair (a : Addr) (n : Int) (c : Int) (H : Hp) (σ' : L2.St) (H' : Hp) : Prop := ∃ x y k, σ' = [some (.ref a), some (.int n), some (.int x), some (.int y), some (.int c), k] ∧ Gd x ∧ Gd y ∧ Ex H H'
def sp__law_pair_by (K : PySem.W.Frag) : Sp := fun vs H Q _ => ∃ (a : Addr) (ns : List Int) (n : Int), vs = [.ref a, .int n] ∧ SqL K H a (ns.map V.int) ∧ 0 ≤ n ∧ ∀ v H' x y, Ex H H' → Pr K H' v x y → Gd x → Gd y → Q v H'
theorem ok__law_pair_by (F : Df K mg "_law_pair_by" s__law_pair_by) (T : Txt K mg cs) (c__law_cell_at : Cl P w K mg base 1 "_law_cell_at" (sp__law_cell_at K)) (c__law_pile_by : Cl P w K mg base 1 "_law_pile_by" (sp__law_pile_by K)) : Cl P w K mg base 2 "_law_pair_by" (sp__law_pair_by K) := by
  refine cl_of (N := ["script", "at", "one", "other", "cell", "k"]) (ps := ["script", "at"]) F (fun _ _ _ _ _ _ us hl => match us, hl with | [_, _], _ => rfl) sc__law_pair_by (fun vs H Q E h => by obtain ⟨_, _, _, rfl, _⟩ := h; rfl) (fun f cdv A outer s H vs Q E hr h => ⟨_, (pss_cons (ps_set (i := 2) sc__law_pair_by.nd rfl (.inl rfl) (pe_cl c__law_pile_by hr (by decide) (by rfl) (pa_cons (pe_cl c__law_cell_at hr (by decide) (by rfl) (pa_cons (pv 0) (pa_cons (pv 1) pa_nil))) pa_nil)))
    (pss_cons (ps_set (i := 3) sc__law_pair_by.nd rfl (.inl rfl) (pe_cl c__law_pile_by hr (by decide) (by rfl) (pa_cons (pe_cl c__law_cell_at hr (by decide) (by rfl) (pa_cons (pv 0) (pa_cons (pe_op op_add (pv 1) pe_int) pa_nil))) pa_nil)))
    (pss_cons (ps_set (i := 4) sc__law_pair_by.nd rfl (.inl rfl) (pe_cl c__law_cell_at hr (by decide) (by rfl) (pa_cons (pv 0) (pa_cons (pe_op op_add (pv 1) pe_int) pa_nil))))
    (pss_cut (ps_if (pt_cmpR op_eq (pe_op op_mod (pv 4) pe_int) pe_int (nomark _)) (pss_one (ps_set (i := 3) sc__law_pair_by.nd rfl (.inl rfl) (pv 2))) pss_nil)
    (pss_cut (ps_if (pt_cmpR op_eq (pe_op op_mod (pv 4) pe_int) pe_int (nomark _)) (pss_one (ps_set (i := 3) sc__law_pair_by.nd rfl (.inl rfl) (pe_callB (call_min2' rfl) (by rfl) T.b_min (by decide +kernel) (pa_cons (pe_op op_pow pe_int pe_int) (pa_cons (pe_op op_mulW (pv 2) (pe_op op_add pe_int (pe_op op_mod (pe_op op_fdivW (pv 4) pe_int) pe_int))) pa_nil))))) pss_nil)
    (pss_cut (ps_if (pt_cmpR op_eq (pe_op op_mod (pv 4) pe_int) pe_int (nomark _)) (pss_cons (ps_asg (pe_tup (pa_cons pe_int (pa_cons pe_int pa_nil))) (pg_tup (n := 2) rfl (pgs_cons (pg_name (i := 2) sc__law_pair_by.nd rfl (.inl rfl)) (pgs_cons (pg_name (i := 3) sc__law_pair_by.nd rfl (.inl rfl)) pgs_nil))))
    (pss_one (ps_for PassesOwn.never rfl (pi_range1 (by rfl) T.b_range (pa_cons (pe_op op_mod (pe_op op_fdivW (pv 4) pe_int) pe_int) pa_nil)) (pg_name (i := 5) sc__law_pair_by.nd rfl (.inl rfl)) (pss_one (ps_par (i := 2) (j := 3) rfl sc__law_pair_by.nd rfl rfl (by decide) rfl rfl (pa_cons (pv 3) (pa_cons (pe_op op_add (pv 2) (pv 3)) pa_nil)) rfl))))) pss_nil)
    (pss_cut (ps_if (pt_cmpR op_eq (pe_op op_mod (pv 4) pe_int) pe_int (nomark _)) (pss_one (ps_set (i := 3) sc__law_pair_by.nd rfl (.inl rfl) (pe_callB (call_min2' rfl) (by rfl) T.b_min (by decide +kernel) (pa_cons (pe_op op_pow pe_int pe_int) (pa_cons (pe_op op_add (pe_op op_add (pv 2) pe_int) (pe_op op_mod (pe_op op_fdivW (pv 4) pe_int) pe_int)) pa_nil))))) pss_nil)
    (pss_cons (ps_if (pt_cmpR op_eq (pe_op op_mod (pe_op op_fdivW (pv 4) pe_int) pe_int) pe_int (nomark _)) (pss_one (ps_ret (pe_tup (pa_cons (pv 3) (pa_cons (pv 2) pa_nil))))) pss_nil)
    (pss_one (ps_ret (pe_tup (pa_cons (pv 2) (pa_cons (pv 3) pa_nil))))))))))))), ?_⟩)
  obtain ⟨a, ns, n, rfl, hs, hn, q⟩ := h
  rw [show start ["script", "at", "one", "other", "cell", "k"] [.ref a, .int n] = [some (.ref a), some (.int n), none, none, none, none] from rfl]
  walk_at "go"
  rename_i x gx H1 e1 _ _ y gy H2 e2 H3 e3
  generalize cellL ns (n + 2).toNat = c
  -- other = one
  refine ⟨MidPair a n c H, ?_, ?_⟩
  · walk_at "if"
    · intro hb H4 e4
      walk_at "go"
      exact ⟨_, _, _, rfl, gx, gx, by walk_at "ex"⟩
    · intro hb H4 e4
      walk_at "go"
      exact ⟨_, _, _, rfl, gx, gy, by walk_at "ex"⟩
  clear gx gy
  rintro σ' H' ⟨x, y, k, rfl, ⟨gx1, gx2⟩, gy, e⟩
  -- a multiple
  refine ⟨MidPair a n c H, ?_, ?_⟩
  · walk_at "if"
    · intro hb H4 e4
      have r1 := Int.emod_nonneg (c / 16) (by decide : (9 : Int) ≠ 0)
      have r2 := Int.emod_lt_of_pos (c / 16) (by decide : (0 : Int) < 9)
      have r3 : 1 ≤ x * (1 + c / 16 % 9) := by
        have := Int.mul_le_mul gx1 (show (1 : Int) ≤ 1 + c / 16 % 9 by omega) (by decide) (by omega)
        omega
      walk_at "go"
      exact ⟨_, _, _, rfl, ⟨gx1, gx2⟩, ⟨by omega, by omega⟩, by walk_at "ex"⟩
    · intro hb H4 e4
      walk_at "go"
      exact ⟨_, _, _, rfl, ⟨gx1, gx2⟩, gy, by walk_at "ex"⟩
  clear gx1 gx2 gy
  rintro σ' H' ⟨x, y, k, rfl, gx, gy, e⟩
  -- neighbours
  refine ⟨MidPair a n c H, ?_, ?_⟩
  · walk_at "if"
    · intro hb H4 e4
      have r1 := Int.emod_nonneg (c / 16) (by decide : (140 : Int) ≠ 0)
      have r2 := Int.emod_lt_of_pos (c / 16) (by decide : (0 : Int) < 140)
      walk_at "go"
      refine d_for1 (n := c / 16 % 140) (by walk_at "ea") (by omega) (fun i σ' H' => ∃ z, σ' = [some (.ref a), some (.int n), some (.int (fibP i).1), some (.int (fibP i).2), some (.int c), z] ∧ Ex H H')
        (fun H2 e2 => ⟨_, rfl, by walk_at "ex"⟩) ?_ ?_
      · rintro i σ' H' hi ⟨z, rfl, e2⟩
        walk_at "nx"
        walk_at "go"
        exact ⟨_, rfl, by walk_at "ex"⟩
      · rintro σ' H' ⟨z, rfl, e2⟩
        have := fib_gd (show (c / 16 % 140).toNat ≤ 140 by omega)
        exact ⟨_, _, _, rfl, this.1, this.2, e2⟩
    · intro hb H4 e4
      walk_at "go"
      exact ⟨_, _, _, rfl, gx, gy, by walk_at "ex"⟩
  clear gx gy
  rintro σ' H' ⟨x, y, k, rfl, ⟨gx1, gx2⟩, gy, e⟩
  -- piles that differ by little
  refine ⟨MidPair a n c H, ?_, ?_⟩
  · walk_at "if"
    · intro hb H4 e4
      have r1 := Int.emod_nonneg (c / 16) (by decide : (3 : Int) ≠ 0)
      walk_at "go"
      exact ⟨_, _, _, rfl, ⟨gx1, gx2⟩, ⟨by omega, by omega⟩, by walk_at "ex"⟩
    · intro hb H4 e4
      walk_at "go"
      exact ⟨_, _, _, rfl, ⟨gx1, gx2⟩, gy, by walk_at "ex"⟩
  clear gx1 gx2 gy
  rintro σ' H' ⟨x, y, k, rfl, gx, gy, e⟩
  -- either one first
  walk_at "go"
  walk_at "if"
  · intro hb H4 e4
    walk_at "go"
    exact q _ _ _ _ (by walk_at "ex") (by walk_at "pr") gy gx
  · intro hb H4 e4
    walk_at "go"
    exact q _ _ _ _ (by walk_at "ex") (by walk_at "pr") gx gy
theorem u_pair_by {H : Hp} {Q : VK} {E : XK} {a : Addr} {ns : List Int} {n : Int} (hs : SqL K H a (ns.map V.int)) (hn : 0 ≤ n) (q : ∀ v H' x y, Ex H H' → Pr K H' v x y → Gd x → Gd y → Q v H') : sp__law_pair_by K [.ref a, .int n] H Q E := ⟨a, ns, n, rfl, hs, hn, q⟩
local macro_rules | `(tactic| walk_at "spcall") => `(tactic| ((with_reducible apply u_pair_by); (· walk_at "sl"); (· omega); intro _ _ _ _ _ _ _ _))

/-! ### leading -/
def sp_leading (K : PySem.W.Frag) (cs : Cs) : Sp := fun vs H Q E => ∃ v x y aim, vs = [v, .int aim] ∧ Pr K H v x y ∧ (Gd x → Gd y → RetV (optV (ld x y aim)) H Q) ∧ (¬ (Gd x ∧ Gd y) → ∀ H', Ex H H' → E (.ref cs.NoPair) none H')
theorem ok_leading (F : Df K mg "leading" s_leading) (T : Txt K mg cs) (c_asked_pair : ClX P w K mg base 1 "asked_pair" (sp_asked_pair K cs)) (c_leading_of : Cl P w K mg base 2 "leading_of" (sp_leading_of K)) : ClX P w K mg base 3 "leading" (sp_leading K cs) := by
  refine clX_of (N := ["pair", "aim"]) (ps := ["pair", "aim"]) F (fun _ _ _ _ _ _ us hl => match us, hl with | [_, _], _ => rfl) sc_leading (fun vs H Q E h => by obtain ⟨_, _, _, _, rfl, _⟩ := h; rfl) (fun f cdv A outer s H vs Q E hr h => ⟨_, (pss_cons (ps_expr (pe_clX c_asked_pair hr (by decide) (by rfl) (takes_of rfl rfl rfl rfl) (pa_cons (pv 0) pa_nil)))
    (pss_one (ps_ret (pe_cl c_leading_of hr (by decide) (by rfl) (pa_cons (pv 0) (pa_cons (pv 1) pa_nil)))))), ?_⟩)
  obtain ⟨v, x, y, aim, rfl, hp, q, qe⟩ := h
  by_cases hg : Gd x ∧ Gd y
  · obtain ⟨hx, hy⟩ := hg
    have q := q hx hy
    rw [show start ["pair", "aim"] [v, .int aim] = [some (v), some (.int aim)] from rfl]
    walk_at "go"
    exact q _ (by walk_at "ex")
  · rw [show start ["pair", "aim"] [v, .int aim] = [some (v), some (.int aim)] from rfl]
    walk_at "go"
    exact ⟨v, x, y, rfl, by walk_at "pr", fun a b => absurd ⟨a, b⟩ hg, fun _ H1 e1 => qe hg _ (by walk_at "ex")⟩
theorem u_leading {cs : Cs} {H : Hp} {Q : VK} {E : XK} {v : V} {x y aim : Int} (hp : Pr K H v x y) (hx : Gd x) (hy : Gd y) (q : ∀ H2, Ex H H2 → Q (optV (ld x y aim)) H2) : sp_leading K cs [v, .int aim] H Q E := ⟨v, x, y, aim, rfl, hp, fun _ _ => q, fun z => absurd ⟨hx, hy⟩ z⟩
local macro_rules | `(tactic| walk_at "spcall") => `(tactic| ((with_reducible apply u_leading); (· walk_at "pr"); (· walk_at "gd"); (· walk_at "gd"); intro _ _))

/-! ### together -/
/-! ### a table's worth -/
def nimT (T : List (Int × Int)) : Int := T.foldl (fun t p => xr t (wt p.1 p.2)) 0
theorem wt_bd {x y : Int} (hx : Gd x) (hy : Gd y) : Bd (wt x y) := ⟨wt_nonneg hx.1 hy.1, by have := wt_le hx hy; omega⟩
theorem nimT_bd_go : ∀ (T : List (Int × Int)) (t : Int), Bd t → GdT T → Bd (T.foldl (fun t p => xr t (wt p.1 p.2)) t)
  | [], _, h, _ => h
  | p :: T, t, h, g => nimT_bd_go T _ (xr_bd h (wt_bd (g p List.mem_cons_self).1 (g p List.mem_cons_self).2)) fun q hq => g q (List.mem_cons_of_mem _ hq)
theorem nimT_bd {T : List (Int × Int)} (g : GdT T) : Bd (nimT T) := nimT_bd_go T 0 ⟨by decide, by decide⟩ g
theorem nimT_take {T : List (Int × Int)} {i : Nat} {p : Int × Int} (h : T[i]? = some p) : nimT (T.take (i + 1)) = xr (nimT (T.take i)) (wt p.1 p.2) := by
  unfold nimT
  rw [take_succ' h, List.foldl_append]
  rfl

def sp_together (K : PySem.W.Frag) (cs : Cs) : Sp := fun vs H Q E => ∃ v T, vs = [v] ∧ Tb K H v T ∧ (T.length ≤ 6 → GdT T → RetV (.int (nimT T)) H Q) ∧ (¬ T.length ≤ 6 → ∀ H', Ex H H' → E (.ref cs.NoTable) none H') ∧ (T.length ≤ 6 → ¬ GdT T → ∀ H', Ex H H' → E (.ref cs.NoPair) none H')
theorem ok_together (F : Df K mg "together" s_together) (T : Txt K mg cs) (c_worth_of : Cl P w K mg base 1 "worth_of" (sp_worth_of K)) (c_asked_table : ClX P w K mg base 2 "asked_table" (sp_asked_table K cs)) (c_added : Cl P w K mg base 1 "added" (sp_added K)) : ClX P w K mg base 3 "together" (sp_together K cs) := by
  refine clX_of (N := ["table", "total", "pair"]) (ps := ["table"]) F (fun _ _ _ _ _ _ us hl => match us, hl with | [_], _ => rfl) sc_together (fun vs H Q E h => by obtain ⟨_, _, rfl, _⟩ := h; rfl) (fun f cdv A outer s H vs Q E hr h => ⟨_, (pss_cons (ps_expr (pe_clX c_asked_table hr (by decide) (by rfl) (takes_of rfl rfl rfl rfl) (pa_cons (pv 0) pa_nil)))
    (pss_cons (ps_set (i := 1) sc_together.nd rfl (.inl rfl) pe_int)
    (pss_cons (ps_for (passes_of rfl) rfl (pi_list (pv 0)) (pg_name (i := 2) sc_together.nd rfl (.inl rfl)) (pss_one (ps_set (i := 1) sc_together.nd rfl (.inl rfl) (pe_cl c_added hr (by decide) (by rfl) (pa_cons (pv 1) (pa_cons (pe_cl c_worth_of hr (by decide) (by rfl) (pa_cons (pv 2) pa_nil)) pa_nil))))))
    (pss_one (ps_ret (pv 1)))))), ?_⟩)
  obtain ⟨v, T, rfl, hT, q, qt, qp⟩ := h
  by_cases hg : T.length ≤ 6 ∧ GdT T
  · obtain ⟨hl, hG⟩ := hg
    have q := q hl hG
    rw [show start ["table", "total", "pair"] [v] = [some (v), none, none] from rfl]
    walk_at "go"
    rename_i H1 e1
    refine d_forT (T := T) (by walk_at "ev") (by walk_at "tb") (fun i σ' H' => Ex H1 H' ∧ ∃ z, σ' = [some v, some (.int (nimT (T.take i))), z]) (fun H2 e2 => ⟨e2, _, rfl⟩) (fun i σ' H' h => h.1) ?_ ?_
    · rintro i w p σ' H' hi hp ⟨e2, z, rfl⟩
      obtain ⟨g1, g2⟩ := hG p (List.mem_of_getElem? hi)
      have b1 := nimT_bd (hG.take i)
      have b2 := wt_bd g1 g2
      walk_at "nx"
      walk_at "go"
      rw [← nimT_take hi]
      exact ⟨by walk_at "ex", _, rfl⟩
    · rintro σ' H' ⟨e2, z, rfl⟩
      rw [List.take_length]
      walk_at "go"
      exact q _ (by walk_at "ex")
  · rw [show start ["table", "total", "pair"] [v] = [some (v), none, none] from rfl]
    walk_at "go"
    exact ⟨v, T, rfl, by walk_at "tb", fun a b => absurd ⟨a, b⟩ hg, fun z H1 e1 => qt z _ (by walk_at "ex"), fun z w H1 e1 => qp z w _ (by walk_at "ex")⟩
theorem u_together {cs : Cs} {H : Hp} {Q : VK} {E : XK} {v : V} {T : List (Int × Int)} (hT : Tb K H v T) (hl : T.length ≤ 6) (hG : GdT T) (q : ∀ H2, Ex H H2 → Q (.int (nimT T)) H2) : sp_together K cs [v] H Q E := ⟨v, T, rfl, hT, fun _ _ => q, fun z => absurd hl z, fun _ z => absurd hG z⟩
local macro_rules | `(tactic| walk_at "spcall") => `(tactic| ((with_reducible apply u_together); (· walk_at "tb"); (· assumption); (· assumption); intro _ _))

/-! ### moved -/
def sp_moved (K : PySem.W.Frag) (cs : Cs) : Sp := fun vs H Q E => ∃ v T n t, vs = [v, .int n, .int t] ∧ Tb K H v T ∧ n < 0 ∧ (T.length ≤ 6 → GdT T → ∀ H', Ex H H' → E (.ref cs.NoMove) none H') ∧ (¬ T.length ≤ 6 → ∀ H', Ex H H' → E (.ref cs.NoTable) none H') ∧ (T.length ≤ 6 → ¬ GdT T → ∀ H', Ex H H' → E (.ref cs.NoPair) none H')
theorem ok_moved (F : Df K mg "moved" s_moved) (T : Txt K mg cs) (c_moves_of : Cl P w K mg base 1 "moves_of" (sp_moves_of K)) (c_behind : Cl P w K mg base 1 "behind" (sp_behind K)) (c_asked_table : ClX P w K mg base 2 "asked_table" (sp_asked_table K cs)) : ClX P w K mg base 3 "moved" (sp_moved K cs) := by
  refine clX_of (N := ["table", "number", "times"]) (ps := ["table", "number", "times"]) F (fun _ _ _ _ _ _ us hl => match us, hl with | [_, _, _], _ => rfl) sc_moved (fun vs H Q E h => by obtain ⟨_, _, _, _, rfl, _⟩ := h; rfl) (fun f cdv A outer s H vs Q E hr h => ⟨_, (pss_cons (ps_expr (pe_clX c_asked_table hr (by decide) (by rfl) (takes_of rfl rfl rfl rfl) (pa_cons (pv 0) pa_nil)))
    (pss_cons (ps_if (PW.pt (pw_or (pt_cmpR op_lt (pv 1) pe_int (nomark _)) (pw_or (pt_cmpR op_ge (pv 1) (pe_callB call_lenL (by rfl) T.b_len (by decide +kernel) (pa_cons (pv 0) pa_nil)) (nomark _)) (pw_or (pt_cmpR op_lt (pv 2) pe_int (nomark _)) (pw_or1 (pt_cmpR op_gt (pv 2) (pe_cl c_moves_of hr (by decide) (by rfl) (pa_cons (pe_ix ix_list (pv 0) (pv 1) (fun _ _ => rfl)) pa_nil)) (nomark _))))))) (pss_one (ps_raise rfl (takes_of rfl rfl rfl rfl) (pmk_own PySem.F.excBase_ValueError T.x_NoMove.xC T.x_NoMove.gC T.x_NoMove.kC (raises_own T.x_NoMove.bC T.x_NoMove.tC) (by exact rfl)))) pss_nil)
    (pss_one (ps_ret (pe_op op_cat (pe_op op_cat (pe_slice sl_list (pv 0) po_none (po_some (pv 1))) (pe_lst (pa_cons (pe_cl c_behind hr (by decide) (by rfl) (pa_cons (pe_ix ix_list (pv 0) (pv 1) (fun _ _ => rfl)) (pa_cons (pv 2) pa_nil))) pa_nil))) (pe_slice sl_list (pv 0) (po_some (pe_op op_add (pv 1) pe_int)) po_none)))))), ?_⟩)
  obtain ⟨v, T, n, t, rfl, hT, hn, q, qt, qp⟩ := h
  rw [show start ["table", "number", "times"] [v, .int n, .int t] = [some (v), some (.int n), some (.int t)] from rfl]
  by_cases hg : T.length ≤ 6 ∧ GdT T
  · obtain ⟨hl, hG⟩ := hg
    walk_at "go"
    refine d_if (b := true) ?_ (fun _ H1 e1 => ?_) (fun z => nomatch z)
    · apply et_orT
      apply et_is
      · walk_at "et"
      · exact decide_eq_true hn
    · exact q hl hG _ (by walk_at "ex")
  · walk_at "go"
    exact ⟨v, T, rfl, by walk_at "tb", fun a b => absurd ⟨a, b⟩ hg, fun z H1 e1 => qt z _ (by walk_at "ex"), fun z w H1 e1 => qp z w _ (by walk_at "ex")⟩

/-! ### shown -/
/-! ### numbers and pairs as texts -/
/-- what writes a number -/
def NumOk (a : List Nat) : Prop := a ≠ [] ∧ a.length ≤ 31 ∧ ¬ (a.head? = some 48 ∧ a ≠ [48]) ∧ ∀ c ∈ a, 48 ≤ c ∧ c ≤ 57
def digV (a : List Nat) : Int := ((NumText.digitsVal a : Nat) : Int)
theorem num_int {a : List Nat} (h : NumOk a) : PySem.intText? (SX.S a) = some (digV a) := by
  refine SX.int_S (List.all_eq_true.mpr fun c hc => ?_) h.1 (by have := h.2.1; omega)
  have := h.2.2.2 c hc
  simp [this.1, this.2]
theorem numL_head (n : Nat) (h : 1 ≤ n) : (TL.numL n).head? ≠ some 48 := by
  induction n using Nat.strongRecOn with
  | _ n ih =>
    by_cases c : n < 10
    · rw [TL.numL_lt c]
      intro e
      have : 48 + n = 48 := by simpa using e
      omega
    · rw [TL.numL_step (by omega)]
      have := ih (n / 10) (by omega) (by omega)
      have hn := TL.numL_ne (n / 10)
      cases e : TL.numL (n / 10) with
      | nil => exact absurd e hn
      | cons d r =>
        rw [e] at this
        simpa using this
theorem numL_len {n : Nat} (h : n ≤ 1000000000000000000000000000000) : (TL.numL n).length ≤ 31 := TL.numL_len (by decide) (by
  have : (10 : Nat) ^ 31 = 10000000000000000000000000000000 := by decide
  omega)
theorem numL_ok {n : Nat} (h1 : 1 ≤ n) (h2 : n ≤ 1000000000000000000000000000000) : NumOk (TL.numL n) :=
  ⟨TL.numL_ne n, numL_len h2, fun z => numL_head n h1 z.1, fun c hc => TL.numL_digits n c hc⟩
theorem numL_digV {x : Int} (h : 0 ≤ x) : digV (TL.numL x.toNat) = x := by
  unfold digV
  rw [TL.numL_val]
  omega
/-- a pair's text -/
def ptL (p : Int × Int) : List Nat := TL.numL p.1.toNat ++ [47] ++ TL.numL p.2.toNat
theorem ptL_len {p : Int × Int} (h1 : Gd p.1) (h2 : Gd p.2) : (ptL p).length ≤ 63 := by
  unfold ptL
  have := numL_len (n := p.1.toNat) (by have := h1.2; omega)
  have := numL_len (n := p.2.toNat) (by have := h2.2; omega)
  simp
  omega
theorem ptL_free (p : Int × Int) : 32 ∉ ptL p := by
  unfold ptL
  intro h
  rcases List.mem_append.mp h with h | h
  · rcases List.mem_append.mp h with h | h
    · exact TL.numL_free (by omega) h
    · simp at h
  · exact TL.numL_free (by omega) h
theorem ptL_spl (p : Int × Int) : TL.spl [47] 0 [] (ptL p) = [TL.numL p.1.toNat, TL.numL p.2.toNat] := by
  have e : ptL p = TL.joinL [47] [TL.numL p.1.toNat, TL.numL p.2.toNat] := by
    unfold ptL
    rw [List.append_assoc]
    rfl
  rw [e]
  refine TL.spl_join (by simp) fun q hq => ?_
  rcases List.mem_cons.mp hq with rfl | hq
  · exact TL.numL_free (by omega)
  · rw [List.mem_singleton.mp hq]
    exact TL.numL_free (by omega)
/-- a table's text -/
def txL (T : List (Int × Int)) : List Nat := TL.joinL [32] (T.map ptL)
theorem txL_spl {T : List (Int × Int)} (h : T ≠ []) : TL.spl [32] 0 [] (txL T) = T.map ptL := by
  refine TL.spl_join (fun e => h (List.map_eq_nil_iff.mp e)) fun q hq => ?_
  obtain ⟨p, _, rfl⟩ := List.mem_map.mp hq
  exact ptL_free p
theorem ptL_ne (p : Int × Int) : ptL p ≠ [] := by
  unfold ptL
  simp
theorem joinL_ne {s : List Nat} : ∀ {ps : List (List Nat)}, ps ≠ [] → (∀ p ∈ ps, p ≠ []) → TL.joinL s ps ≠ []
  | [], h, _ => absurd rfl h
  | [p], _, h => h p (List.mem_singleton.mpr rfl)
  | p :: q :: r, _, h => by
    show p ++ (s ++ TL.joinL s (q :: r)) ≠ []
    intro e
    exact h p List.mem_cons_self (List.append_eq_nil_iff.mp e).1
theorem txL_ne {T : List (Int × Int)} (h : T ≠ []) : txL T ≠ [] := joinL_ne (fun e => h (List.map_eq_nil_iff.mp e)) fun q hq => by
  obtain ⟨p, _, rfl⟩ := List.mem_map.mp hq
  exact ptL_ne p
theorem joinL_snoc {s : List Nat} : ∀ {ps : List (List Nat)} (q : List Nat), ps ≠ [] → TL.joinL s (ps ++ [q]) = TL.joinL s ps ++ (s ++ q)
  | [], _, h => absurd rfl h
  | [p], q, _ => rfl
  | p :: p2 :: r, q, _ => by
    show p ++ (s ++ TL.joinL s ((p2 :: r) ++ [q])) = (p ++ (s ++ TL.joinL s (p2 :: r))) ++ (s ++ q)
    rw [joinL_snoc q (by simp)]
    simp
theorem txL_take {T : List (Int × Int)} {i : Nat} {p : Int × Int} (h : T[i]? = some p) : txL (T.take (i + 1)) = (if 0 < i then txL (T.take i) ++ [32] else txL (T.take i)) ++ ptL p := by
  unfold txL
  rw [take_succ' h, List.map_append]
  by_cases c : 0 < i
  · rw [if_pos c]
    have hne : (T.take i).map ptL ≠ [] := by
      intro e
      have := congrArg List.length e
      have h2 := (List.getElem?_eq_some_iff.mp h).1
      rw [List.length_map, List.length_take] at this
      have : min i T.length = 0 := this
      omega
    rw [show ([p] : List (Int × Int)).map ptL = [ptL p] from rfl, joinL_snoc _ hne, List.append_assoc]
  · have e : i = 0 := by omega
    subst e
    rfl
theorem joinL_len {s : List Nat} : ∀ {ps : List (List Nat)}, (TL.joinL s ps).length ≤ (ps.map (·.length)).sum + ps.length * s.length
  | [] => Nat.zero_le _
  | [p] => by show p.length ≤ _; simp
  | p :: q :: r => by
    have := joinL_len (s := s) (ps := q :: r)
    show (p ++ (s ++ TL.joinL s (q :: r))).length ≤ _
    rw [List.length_append, List.length_append, List.map_cons, List.sum_cons, List.length_cons, Nat.add_mul]
    omega
theorem sum_le_mul {m : Nat} : ∀ {l : List Nat}, (∀ n ∈ l, n ≤ m) → l.sum ≤ l.length * m
  | [], _ => Nat.zero_le _
  | a :: l, h => by
    have := sum_le_mul (l := l) fun n hn => h n (List.mem_cons_of_mem _ hn)
    have := h a List.mem_cons_self
    rw [List.sum_cons, List.length_cons, Nat.add_mul]
    omega
theorem pts_sum {T : List (Int × Int)} (g : GdT T) : ((T.map ptL).map (·.length)).sum ≤ T.length * 63 := by
  have := sum_le_mul (m := 63) (l := (T.map ptL).map (·.length)) fun n hn => by
    obtain ⟨q, hq, rfl⟩ := List.mem_map.mp hn
    obtain ⟨p, hp, rfl⟩ := List.mem_map.mp hq
    exact ptL_len (g p hp).1 (g p hp).2
  rw [List.length_map, List.length_map] at this
  exact this
theorem txL_len {T : List (Int × Int)} (g : GdT T) : (txL T).length ≤ T.length * 64 := by
  have h1 := joinL_len (s := [32]) (ps := T.map ptL)
  have h2 := pts_sum g
  rw [List.length_map] at h1
  have e : ([32] : List Nat).length = 1 := rfl
  rw [e] at h1
  unfold txL
  omega
/-- what writes a pair -/
def PairOk (w : List Nat) : Prop := ∃ a b, TL.spl [47] 0 [] w = [a, b] ∧ NumOk a ∧ NumOk b
theorem spl_nil1 (s : Nat) (acc : List Nat) : TL.spl [s] 0 acc [] = [acc] := rfl
theorem spl_cons1 (s : Nat) (acc : List Nat) (c : Nat) (r : List Nat) : TL.spl [s] 0 acc (c :: r) = acc :: TL.spl [s] 0 [] r ∨ TL.spl [s] 0 acc (c :: r) = TL.spl [s] 0 (acc ++ [c]) r := by
  cases h : TL.pre [s] (c :: r) with
  | true => exact .inl (TL.spl_hit h)
  | false => exact .inr (TL.spl_miss h)
theorem spl_sum (s : Nat) : ∀ (l acc : List Nat), ((TL.spl [s] 0 acc l).map (·.length)).sum + (TL.spl [s] 0 acc l).length = acc.length + l.length + 1
  | [], acc => by rw [spl_nil1]; simp
  | c :: r, acc => by
    rcases spl_cons1 s acc c r with h | h
    · have := spl_sum s r []
      rw [h, List.map_cons, List.sum_cons, List.length_cons, List.length_cons]
      simp only [List.length_nil] at this
      omega
    · have := spl_sum s r (acc ++ [c])
      rw [h, this, List.length_append, List.length_cons, List.length_cons, List.length_nil]
      omega
theorem len_le_sum {m : List Nat} : ∀ {l : List (List Nat)}, m ∈ l → m.length ≤ (l.map (·.length)).sum
  | [], h => nomatch h
  | a :: l, h => by
    rw [List.map_cons, List.sum_cons]
    rcases List.mem_cons.mp h with rfl | h
    · omega
    · have := len_le_sum h
      omega
theorem spl_ne (s : Nat) (l : List Nat) : TL.spl [s] 0 [] l ≠ [] := fun e => by
  have := spl_sum s l []
  rw [e] at this
  simp at this
theorem spl_len {s : Nat} {w : List Nat} : (TL.spl [s] 0 [] w).length ≤ w.length + 1 := by
  have := spl_sum s w []
  simp only [List.length_nil] at this
  omega
theorem spl_part_len {s : Nat} {w : List Nat} : ∀ m ∈ TL.spl [s] 0 [] w, m.length ≤ w.length := fun m hm => by
  have h1 := spl_sum s w []
  have h2 := len_le_sum hm
  have h3 : 0 < (TL.spl [s] 0 [] w).length := List.length_pos_iff.mpr (List.ne_nil_of_mem hm)
  simp only [List.length_nil] at h1
  omega

def sp_shown (K : PySem.W.Frag) (cs : Cs) : Sp := fun vs H Q E => ∃ v T, vs = [v] ∧ Tb K H v T ∧ (T.length ≤ 6 → GdT T → RetV (tV (txL T)) H Q) ∧ (¬ T.length ≤ 6 → ∀ H', Ex H H' → E (.ref cs.NoTable) none H') ∧ (T.length ≤ 6 → ¬ GdT T → ∀ H', Ex H H' → E (.ref cs.NoPair) none H')
theorem ok_shown (F : Df K mg "shown" s_shown) (T : Txt K mg cs) (c_asked_table : ClX P w K mg base 2 "asked_table" (sp_asked_table K cs)) : ClX P w K mg base 3 "shown" (sp_shown K cs) := by
  refine clX_of (N := ["table", "pair"]) (ps := ["table"]) F (fun _ _ _ _ _ _ us hl => match us, hl with | [_], _ => rfl) sc_shown (fun vs H Q E h => by obtain ⟨_, _, rfl, _⟩ := h; rfl) (fun f cdv A outer s H vs Q E hr h => ⟨_, (pss_cons (ps_expr (pe_clX c_asked_table hr (by decide) (by rfl) (takes_of rfl rfl rfl rfl) (pa_cons (pv 0) pa_nil)))
    (pss_one (ps_ret (pe_joinT pe_str (pe_lc (own := [("pair", 1)]) (g := gName 1) rfl sc_shown.nd (pi_list (pv 0)) (blkOk_by (own := [("pair", 1)]) (N := ["table", "pair"]) (sc := defScope s_shown) (by decide +kernel)) (fun _ _ _ _ _ => (pg_name (i := 1) sc_shown.nd rfl (.inl rfl))) (fun _ _ _ _ _ => pts_nil) (fun _ _ _ _ _ => (pe_op op_addT (pe_op op_addT (pe_callTy call_strI (by rfl) T.b_str (by decide +kernel) (pa_cons (pe_ix (r := rIxT K) ix_tup (pv 1) pe_int (fun _ _ => rfl)) pa_nil)) pe_str) (pe_callTy call_strI (by rfl) T.b_str (by decide +kernel) (pa_cons (pe_ix (r := rIxT K) ix_tup (pv 1) pe_int (fun _ _ => rfl)) pa_nil))))))))), ?_⟩)
  obtain ⟨v, T, rfl, hT, q, qt, qp⟩ := h
  by_cases hg : T.length ≤ 6 ∧ GdT T
  · obtain ⟨hl, hG⟩ := hg
    have q := q hl hG
    rw [show start ["table", "pair"] [v] = [some (v), none] from rfl]
    walk_at "go"
    rename_i H1 e1
    refine d_lcT (T := T) (by walk_at "ev") (by walk_at "tb") (by omega) (fun k acc _ => acc = ((T.take k).map ptL).map tV) (fun _ _ _ _ _ _ _ _ r => r) (fun _ => rfl) (fun _ _ => rfl) ?_ ?_
    · rintro k w p acc H2 hk hw e2 hl2 hr
      obtain ⟨⟨g1, g2⟩, ⟨g3, g4⟩⟩ := hG p (List.mem_of_getElem? hk)
      have l1 := numL_len (n := p.1.toNat) (by omega)
      have l2 := numL_len (n := p.2.toNat) (by omega)
      refine ⟨true, et_yes, fun _ H3 e3 => ?_, fun z => nomatch z⟩
      refine er_ev (v := tV (ptL p)) (by walk_at "ev") fun H4 e4 => ?_
      show acc ++ [tV _] = _
      rw [hr, take_succ' hk]
      simp
    · rintro d H2 acc hd e2 h2 rfl
      rw [List.take_length] at h2
      have hs := pts_sum hG
      walk_at "go"
      refine d_rJoin (ys := T.map ptL) (by walk_at "sl") (by rw [List.length_map]; show _ + T.length * 1 ≤ _; omega) ?_
      exact q _ (by walk_at "ex")
  · rw [show start ["table", "pair"] [v] = [some (v), none] from rfl]
    walk_at "go"
    exact ⟨v, T, rfl, by walk_at "tb", fun a b => absurd ⟨a, b⟩ hg, fun z H1 e1 => qt z _ (by walk_at "ex"), fun z w H1 e1 => qp z w _ (by walk_at "ex")⟩

/-! ### shortest -/
def sp_shortest (K : PySem.W.Frag) (cs : Cs) : Sp := fun vs H Q E => ∃ v x y, vs = [v] ∧ Pr K H v x y ∧ (Gd x → Gd y → RetV (.int (if x = y then 0 else ((qs x y).length : Int))) H Q) ∧ (¬ (Gd x ∧ Gd y) → ∀ H', Ex H H' → E (.ref cs.NoPair) none H')
theorem ok_shortest (F : Df K mg "shortest" s_shortest) (T : Txt K mg cs) (c_quotients : ClX P w K mg base 2 "quotients" (sp_quotients K cs)) : ClX P w K mg base 3 "shortest" (sp_shortest K cs) := by
  refine clX_of (N := ["pair", "found"]) (ps := ["pair"]) F (fun _ _ _ _ _ _ us hl => match us, hl with | [_], _ => rfl) sc_shortest (fun vs H Q E h => by obtain ⟨_, _, _, rfl, _⟩ := h; rfl) (fun f cdv A outer s H vs Q E hr h => ⟨_, (pss_cons (ps_set (i := 1) sc_shortest.nd rfl (.inl rfl) (pe_clX c_quotients hr (by decide) (by rfl) (takes_of rfl rfl rfl rfl) (pa_cons (pv 0) pa_nil)))
    (pss_cons (ps_if (pt_cmpR op_eq (pe_ix ix_tup (pv 0) pe_int (fun _ _ => rfl)) (pe_ix ix_tup (pv 0) pe_int (fun _ _ => rfl)) (nomark _)) (pss_one (ps_ret pe_int)) pss_nil)
    (pss_one (ps_ret (pe_callB call_lenL (by rfl) T.b_len (by decide +kernel) (pa_cons (pv 1) pa_nil)))))), ?_⟩)
  obtain ⟨v, x, y, rfl, hp, q, qe⟩ := h
  by_cases hg : Gd x ∧ Gd y
  · obtain ⟨hx, hy⟩ := hg
    have q := q hx hy
    rw [show start ["pair", "found"] [v] = [some (v), none] from rfl]
    walk_at "go"
    walk_at "if"
    · intro hb H1 e1
      rw [if_pos (of_decide_eq_true hb)] at q
      walk_at "go"
      exact q _ (by walk_at "ex")
    · intro hb H1 e1
      rw [if_neg (of_decide_eq_false hb)] at q
      walk_at "go"
      rw [List.length_map]
      exact q _ (by walk_at "ex")
  · rw [show start ["pair", "found"] [v] = [some (v), none] from rfl]
    walk_at "go"
    exact ⟨v, x, y, rfl, by walk_at "pr", fun a b => absurd ⟨a, b⟩ hg, fun _ H1 e1 => qe hg _ (by walk_at "ex")⟩
theorem u_shortest {cs : Cs} {H : Hp} {Q : VK} {E : XK} {v : V} {x y : Int} (hp : Pr K H v x y) (hx : Gd x) (hy : Gd y) (q : ∀ H2, Ex H H2 → Q (.int (if x = y then 0 else ((qs x y).length : Int))) H2) : sp_shortest K cs [v] H Q E := ⟨v, x, y, rfl, hp, fun _ _ => q, fun z => absurd ⟨hx, hy⟩ z⟩
local macro_rules | `(tactic| walk_at "spcall") => `(tactic| ((with_reducible apply u_shortest); (· walk_at "pr"); (· walk_at "gd"); (· walk_at "gd"); intro _ _))

/-! ### longest -/
def sp_longest (K : PySem.W.Frag) (cs : Cs) : Sp := fun vs H Q E => ∃ v x y, vs = [v] ∧ Pr K H v x y ∧ (Gd x → Gd y → RetV (.int ((qs x y).sum - 1)) H Q) ∧ (¬ (Gd x ∧ Gd y) → ∀ H', Ex H H' → E (.ref cs.NoPair) none H')
theorem ok_longest (F : Df K mg "longest" s_longest) (T : Txt K mg cs) (c_quotients : ClX P w K mg base 2 "quotients" (sp_quotients K cs)) : ClX P w K mg base 3 "longest" (sp_longest K cs) := by
  refine clX_of (N := ["pair"]) (ps := ["pair"]) F (fun _ _ _ _ _ _ us hl => match us, hl with | [_], _ => rfl) sc_longest (fun vs H Q E h => by obtain ⟨_, _, _, rfl, _⟩ := h; rfl) (fun f cdv A outer s H vs Q E hr h => ⟨_, (pss_one (ps_ret (pe_op op_sub (pe_callB (cr_sum rfl) (by rfl) T.b_sum (by decide +kernel) (pa_cons (pe_clX c_quotients hr (by decide) (by rfl) (takes_of rfl rfl rfl rfl) (pa_cons (pv 0) pa_nil)) pa_nil)) pe_int))), ?_⟩)
  obtain ⟨v, x, y, rfl, hp, q, qe⟩ := h
  by_cases hg : Gd x ∧ Gd y
  · obtain ⟨hx, hy⟩ := hg
    have q := q hx hy
    rw [show start ["pair"] [v] = [some (v)] from rfl]
    walk_at "go"
    exact q _ (by walk_at "ex")
  · rw [show start ["pair"] [v] = [some (v)] from rfl]
    walk_at "go"
    exact ⟨v, x, y, rfl, by walk_at "pr", fun a b => absurd ⟨a, b⟩ hg, fun _ H1 e1 => qe hg _ (by walk_at "ex")⟩
theorem u_longest {cs : Cs} {H : Hp} {Q : VK} {E : XK} {v : V} {x y : Int} (hp : Pr K H v x y) (hx : Gd x) (hy : Gd y) (q : ∀ H2, Ex H H2 → Q (.int ((qs x y).sum - 1)) H2) : sp_longest K cs [v] H Q E := ⟨v, x, y, rfl, hp, fun _ _ => q, fun z => absurd ⟨hx, hy⟩ z⟩
local macro_rules | `(tactic| walk_at "spcall") => `(tactic| ((with_reducible apply u_longest); (· walk_at "pr"); (· walk_at "gd"); (· walk_at "gd"); intro _ _))

/-! ### wins -/
def sp_wins (K : PySem.W.Frag) (cs : Cs) : Sp := fun vs H Q E => ∃ v T, vs = [v] ∧ Tb K H v T ∧ (T.length ≤ 6 → GdT T → RetV (.bl (decide (0 < nimT T))) H Q) ∧ (¬ T.length ≤ 6 → ∀ H', Ex H H' → E (.ref cs.NoTable) none H') ∧ (T.length ≤ 6 → ¬ GdT T → ∀ H', Ex H H' → E (.ref cs.NoPair) none H')
theorem ok_wins (F : Df K mg "wins" s_wins) (T : Txt K mg cs) (c_together : ClX P w K mg base 3 "together" (sp_together K cs)) : ClX P w K mg base 4 "wins" (sp_wins K cs) := by
  refine clX_of (N := ["table"]) (ps := ["table"]) F (fun _ _ _ _ _ _ us hl => match us, hl with | [_], _ => rfl) sc_wins (fun vs H Q E h => by obtain ⟨_, _, rfl, _⟩ := h; rfl) (fun f cdv A outer s H vs Q E hr h => ⟨_, (pss_one (ps_ret (pe_cmpR op_gt (pe_clX c_together hr (by decide) (by rfl) (takes_of rfl rfl rfl rfl) (pa_cons (pv 0) pa_nil)) pe_int (nomark _)))), ?_⟩)
  obtain ⟨v, T, rfl, hT, q, qt, qp⟩ := h
  by_cases hg : T.length ≤ 6 ∧ GdT T
  · obtain ⟨hl, hG⟩ := hg
    have q := q hl hG
    rw [show start ["table"] [v] = [some (v)] from rfl]
    walk_at "go"
    exact q _ (by walk_at "ex")
  · rw [show start ["table"] [v] = [some (v)] from rfl]
    walk_at "go"
    exact ⟨v, T, rfl, by walk_at "tb", fun a b => absurd ⟨a, b⟩ hg, fun z H1 e1 => qt z _ (by walk_at "ex"), fun z w H1 e1 => qp z w _ (by walk_at "ex")⟩
theorem u_wins {cs : Cs} {H : Hp} {Q : VK} {E : XK} {v : V} {T : List (Int × Int)} (hT : Tb K H v T) (hl : T.length ≤ 6) (hG : GdT T) (q : ∀ H2, Ex H H2 → Q (.bl (decide (0 < nimT T))) H2) : sp_wins K cs [v] H Q E := ⟨v, T, rfl, hT, fun _ _ => q, fun z => absurd hl z, fun _ z => absurd hG z⟩
local macro_rules | `(tactic| walk_at "spcall") => `(tactic| ((with_reducible apply u_wins); (· walk_at "tb"); (· assumption); (· assumption); intro _ _))

/-! ### winning -/


/-- the pair at k put otherwise -/
def putT (T : List (Int × Int)) (k : Nat) (b : Int × Int) : List (Int × Int) := T.take k ++ [b] ++ T.drop (k + 1)
theorem putT_same {T : List (Int × Int)} {k : Nat} {p : Int × Int} (h : T[k]? = some p) : T = putT T k p := by
  unfold putT
  have e := (List.getElem?_eq_some_iff.mp h)
  obtain ⟨hk, e⟩ := e
  rw [List.append_assoc, List.singleton_append]
  subst e
  rw [← List.drop_eq_getElem_cons hk, List.take_append_drop]
theorem putT_len {T : List (Int × Int)} {k : Nat} {b : Int × Int} (h : k < T.length) : (putT T k b).length = T.length := by
  unfold putT
  simp
  omega
theorem putT_gd {T : List (Int × Int)} {k : Nat} {b : Int × Int} (g : GdT T) (h1 : Gd b.1) (h2 : Gd b.2) : GdT (putT T k b) := fun p hp => by
  unfold putT at hp
  rcases List.mem_append.mp hp with hp | hp
  · rcases List.mem_append.mp hp with hp | hp
    · exact g p (List.mem_of_mem_take hp)
    · rw [List.mem_singleton.mp hp]
      exact ⟨h1, h2⟩
  · exact g p (List.mem_of_mem_drop hp)

/-! ### winning moves -/
theorem xr_assoc (a b c : Int) : xr (xr a b) c = xr a (xr b c) := by
  unfold xr
  rw [Int.toNat_natCast, Int.toNat_natCast, Nat.xor_assoc]
theorem xr_nonneg (a b : Int) : 0 ≤ xr a b := by
  unfold xr
  omega
theorem xr_z {a : Int} (h : 0 ≤ a) : xr a 0 = a := by
  unfold xr
  rw [show (0 : Int).toNat = 0 from rfl, Nat.xor_zero]
  omega
theorem xr_self (a : Int) : xr a a = 0 := by
  unfold xr
  rw [Nat.xor_self]
  rfl
theorem xr_eq0 {a b : Int} (ha : 0 ≤ a) (hb : 0 ≤ b) : xr a b = 0 ↔ a = b := by
  constructor
  · intro h
    have e : xr (xr a b) b = a := by rw [xr_assoc, xr_self, xr_z ha]
    rw [h, xr_comm, xr_z hb] at e
    exact e.symm
  · rintro rfl
    exact xr_self a
theorem nim_go : ∀ (T : List (Int × Int)) (t : Int), 0 ≤ t → T.foldl (fun t p => xr t (wt p.1 p.2)) t = xr t (nimT T)
  | [], t, h => (xr_z h).symm
  | p :: T, t, h => by
    unfold nimT
    rw [List.foldl_cons, List.foldl_cons, nim_go T _ (xr_nonneg _ _), nim_go T _ (xr_nonneg _ _), xr_assoc, xr_assoc]
    congr 1
    unfold xr
    simp
theorem nimT_nonneg : ∀ T : List (Int × Int), 0 ≤ nimT T
  | [] => Int.le_refl _
  | p :: T => by
    unfold nimT
    rw [List.foldl_cons, nim_go _ _ (xr_nonneg _ _)]
    exact xr_nonneg _ _
theorem nimT_app (T U : List (Int × Int)) : nimT (T ++ U) = xr (nimT T) (nimT U) := by
  show (T ++ U).foldl _ 0 = _
  rw [List.foldl_append]
  exact nim_go U _ (nimT_nonneg T)
theorem nimT_one (p : Int × Int) (h : 0 ≤ wt p.1 p.2) : nimT [p] = wt p.1 p.2 := by
  show xr 0 (wt p.1 p.2) = _
  rw [xr_comm, xr_z h]
theorem nimT_put {T : List (Int × Int)} {k : Nat} {p b : Int × Int} (h : T[k]? = some p) (hp : 0 ≤ wt p.1 p.2) (hb : 0 ≤ wt b.1 b.2) : nimT (putT T k b) = xr (xr (nimT T) (wt p.1 p.2)) (wt b.1 b.2) := by
  have e : nimT T = nimT (putT T k p) := congrArg nimT (putT_same h)
  rw [e]
  unfold putT
  rw [nimT_app, nimT_app, nimT_app, nimT_app, nimT_one b hb, nimT_one p hp]
  generalize nimT (T.take k) = a
  generalize nimT (T.drop (k + 1)) = c
  generalize wt p.1 p.2 = u
  generalize wt b.1 b.2 = w
  unfold xr
  simp only [Int.toNat_natCast]
  congr 1
  refine Nat.eq_of_testBit_eq fun i => ?_
  simp only [Nat.testBit_xor]
  cases a.toNat.testBit i <;> cases c.toNat.testBit i <;> cases u.toNat.testBit i <;> cases w.toNat.testBit i <;> rfl
theorem nim_bit (d : Nat) : ∀ T : List (Int × Int), (nimT T).toNat.testBit d = true → ∃ (k : Nat) (p : Int × Int), T[k]? = some p ∧ (wt p.1 p.2).toNat.testBit d = true
  | [], h => by
    have e : (nimT []).toNat = 0 := rfl
    rw [e, Nat.zero_testBit] at h
    cases h
  | p :: T, h => by
    by_cases c : (wt p.1 p.2).toNat.testBit d = true
    · exact ⟨0, p, rfl, c⟩
    · have e : nimT (p :: T) = xr (xr 0 (wt p.1 p.2)) (nimT T) := nim_go T _ (xr_nonneg _ _)
      rw [e] at h
      unfold xr at h
      simp only [Int.toNat_natCast, Nat.testBit_xor, Nat.zero_testBit, show (0 : Int).toNat = 0 from rfl] at h
      have c2 : (wt p.1 p.2).toNat.testBit d = false := by
        cases z : (wt p.1 p.2).toNat.testBit d with
        | true => exact absurd z c
        | false => rfl
      rw [c2] at h
      obtain ⟨k, q, h1, h2⟩ := nim_bit d T (by simpa using h)
      exact ⟨k + 1, q, h1, h2⟩
theorem xor_less {x d w : Nat} (hn : x ≠ 0) (hd : x.log2 = d) (hb : w.testBit d = true) : x ^^^ w < w := by
  have h1 : 2 ^ d ≤ x := by rw [← hd]; exact Nat.log2_self_le hn
  have h2 : x < 2 ^ (d + 1) := by rw [← hd]; exact Nat.lt_log2_self
  have h0 := Nat.two_pow_pos d
  have h3 : x / 2 ^ d = 1 := by
    rw [Nat.pow_succ] at h2
    have a : 1 ≤ x / 2 ^ d := (Nat.le_div_iff_mul_le h0).mpr (by omega)
    have b : x / 2 ^ d < 2 := (Nat.div_lt_iff_lt_mul h0).mpr (by omega)
    omega
  rw [Nat.testBit_eq_decide_div_mod_eq] at hb
  have hb := of_decide_eq_true hb
  have h4 : (x ^^^ w) / 2 ^ d < w / 2 ^ d := by
    rw [Nat.xor_div_two_pow, h3]
    generalize w / 2 ^ d = m at *
    have e1 := xor_mod2 1 m
    have e2 : (1 ^^^ m) / 2 = m / 2 := by
      rw [Nat.xor_div_two, show 1 / 2 = 0 from rfl, Nat.zero_xor]
    omega
  exact Nat.lt_of_div_lt_div h4
theorem nim_less {T : List (Int × Int)} (h : nimT T ≠ 0) : ∃ (k : Nat) (p : Int × Int), T[k]? = some p ∧ xr (nimT T) (wt p.1 p.2) < wt p.1 p.2 := by
  have h0 := nimT_nonneg T
  have hn : (nimT T).toNat ≠ 0 := by omega
  obtain ⟨k, p, hk, hb⟩ := nim_bit (nimT T).toNat.log2 T (Nat.testBit_log2 hn)
  refine ⟨k, p, hk, ?_⟩
  generalize hx : (nimT T).toNat = x at *
  generalize hd : x.log2 = d at *
  have hb1 : x.testBit d = true := by rw [← hd]; exact Nat.testBit_log2 hn
  have := xor_less hn hd hb
  unfold xr
  rw [hx]
  omega
def winN (T : List (Int × Int)) (X : Int) : Nat → List (Int × Int)
  | 0 => []
  | i + 1 => winN T X i ++ (match T[i]? with
    | some p => (match ld p.1 p.2 (xr X (wt p.1 p.2)) with
      | some t => [((i : Int), t)]
      | none => [])
    | none => [])
theorem winN_some {T : List (Int × Int)} {X t : Int} {i : Nat} {p : Int × Int} (h : T[i]? = some p) (e : ld p.1 p.2 (xr X (wt p.1 p.2)) = some t) : winN T X (i + 1) = winN T X i ++ [((i : Int), t)] := by
  rw [winN, h]
  simp only [e]
theorem winN_none {T : List (Int × Int)} {X : Int} {i : Nat} {p : Int × Int} (h : T[i]? = some p) (e : ld p.1 p.2 (xr X (wt p.1 p.2)) = none) : winN T X (i + 1) = winN T X i := by
  rw [winN, h]
  simp only [e, List.append_nil]
theorem winN_len (T : List (Int × Int)) (X : Int) : ∀ n, (winN T X n).length ≤ n
  | 0 => Nat.le_refl _
  | n + 1 => by
    have := winN_len T X n
    rw [winN, List.length_append]
    split
    · split
      · simp; omega
      · simp; omega
    · simp; omega
theorem winN_mem {T : List (Int × Int)} {X i t : Int} : ∀ {n : Nat}, (i, t) ∈ winN T X n ↔ ∃ k : Nat, k < n ∧ i = (k : Int) ∧ ∃ p, T[k]? = some p ∧ ld p.1 p.2 (xr X (wt p.1 p.2)) = some t
  | 0 => ⟨fun h => (List.not_mem_nil h).elim, fun ⟨k, h, _⟩ => absurd h (Nat.not_lt_zero k)⟩
  | n + 1 => by
    constructor
    · intro h
      rw [winN] at h
      rcases List.mem_append.mp h with h | h
      · obtain ⟨k, h1, h2⟩ := winN_mem.mp h
        exact ⟨k, by omega, h2⟩
      · split at h
        · rename_i p hp
          split at h
          · rename_i u hu
            have h := List.mem_singleton.mp h
            cases h
            exact ⟨n, by omega, rfl, p, hp, hu⟩
          · cases h
        · cases h
    · rintro ⟨k, h1, rfl, p, h2, h3⟩
      by_cases c : k = n
      · subst c
        rw [winN_some h2 h3]
        exact List.mem_append_right _ (List.mem_singleton.mpr rfl)
      · rw [winN]
        exact List.mem_append_left _ (winN_mem.mpr ⟨k, by omega, rfl, p, h2, h3⟩)
/-- the winning moves of a table -/
def winT (T : List (Int × Int)) : List (Int × Int) := winN T (nimT T) T.length
theorem winT_mem {T : List (Int × Int)} (g : GdT T) {k : Nat} {p : Int × Int} {t : Int} (h : T[k]? = some p) (h1 : 1 ≤ t) (h2 : t ≤ mvs p.1 p.2) : ((k : Int), t) ∈ winT T ↔ nimT (putT T k (bh p.1 p.2 t)) = 0 := by
  obtain ⟨g1, g2⟩ := g p (List.mem_of_getElem? h)
  rw [nimT_put h (wt_nonneg g1.1 g2.1) (wtb_nonneg g1.1 g2.1 h1 h2)]
  show _ ↔ xr (xr (nimT T) (wt p.1 p.2)) (wtb p.1 p.2 t) = 0
  rw [xr_eq0 (xr_nonneg _ _) (wtb_nonneg g1.1 g2.1 h1 h2)]
  unfold winT
  rw [winN_mem]
  constructor
  · rintro ⟨j, _, hj, q, e1, e2⟩
    obtain rfl : k = j := by omega
    rw [h] at e1
    cases e1
    exact (ld_some e2).2.2.symm
  · intro e
    exact ⟨k, (List.getElem?_eq_some_iff.mp h).1, rfl, p, h, ld_of g1.1 g2.1 h1 h2 e.symm⟩
theorem winT_is {T : List (Int × Int)} (g : GdT T) {i t : Int} (h : (i, t) ∈ winT T) : ∃ k : Nat, k < T.length ∧ i = (k : Int) ∧ ∃ p, T[k]? = some p ∧ 1 ≤ t ∧ t ≤ mvs p.1 p.2 ∧ nimT (putT T k (bh p.1 p.2 t)) = 0 := by
  obtain ⟨k, h1, rfl, p, h2, h3⟩ := winN_mem.mp h
  obtain ⟨a, b, c⟩ := ld_some h3
  exact ⟨k, h1, rfl, p, h2, a, b, (winT_mem g h2 a b).mp h⟩
theorem winT_nil {T : List (Int × Int)} (g : GdT T) : winT T = [] ↔ nimT T = 0 := by
  constructor
  · intro h
    apply Classical.byContradiction
    intro c
    obtain ⟨k, p, h1, h2⟩ := nim_less c
    obtain ⟨g1, g2⟩ := g p (List.mem_of_getElem? h1)
    obtain ⟨t, t1, t2, t3⟩ := wtb_surj g1.1 g2.1 (xr_nonneg _ _) h2
    have : ((k : Int), t) ∈ winT T := winN_mem.mpr ⟨k, (List.getElem?_eq_some_iff.mp h1).1, rfl, p, h1, ld_of g1.1 g2.1 t1 t2 t3⟩
    rw [h] at this
    cases this
  · intro h
    cases e : winT T with
    | nil => rfl
    | cons q r =>
      obtain ⟨i, t⟩ := q
      have hm : (i, t) ∈ winT T := by rw [e]; exact List.mem_cons_self
      obtain ⟨k, h1, rfl, p, h2, h3⟩ := winN_mem.mp hm
      obtain ⟨g1, g2⟩ := g p (List.mem_of_getElem? h2)
      obtain ⟨a, b, c⟩ := ld_some h3
      rw [h, xr_comm, xr_z (wt_nonneg g1.1 g2.1)] at c
      exact absurd c (wtb_ne g1.1 g2.1 a b)

def sp_winning (K : PySem.W.Frag) (cs : Cs) : Sp := fun vs H Q E => ∃ v T, vs = [v] ∧ Tb K H v T ∧ (T.length ≤ 6 → GdT T → ∀ p H2 ws, H p = none → Ex H H2 → H2 p = some (.lst ws) → Prs K H2 ws (winT T) → Q (.ref p) H2) ∧ (¬ T.length ≤ 6 → ∀ H', Ex H H' → E (.ref cs.NoTable) none H') ∧ (T.length ≤ 6 → ¬ GdT T → ∀ H', Ex H H' → E (.ref cs.NoPair) none H')
theorem ok_winning (F : Df K mg "winning" s_winning) (T : Txt K mg cs) (c_worth_of : Cl P w K mg base 1 "worth_of" (sp_worth_of K)) (c_leading_of : Cl P w K mg base 2 "leading_of" (sp_leading_of K)) (c_added : Cl P w K mg base 1 "added" (sp_added K)) (c_together : ClX P w K mg base 3 "together" (sp_together K cs)) : ClX P w K mg base 4 "winning" (sp_winning K cs) := by
  refine clX_of (N := ["table", "total", "found", "number", "pair", "times"]) (ps := ["table"]) F (fun _ _ _ _ _ _ us hl => match us, hl with | [_], _ => rfl) sc_winning (fun vs H Q E h => by obtain ⟨_, _, rfl, _⟩ := h; rfl) (fun f cdv A outer s H vs Q E hr h => ⟨_, (pss_cons (ps_set (i := 1) sc_winning.nd rfl (.inl rfl) (pe_clX c_together hr (by decide) (by rfl) (takes_of rfl rfl rfl rfl) (pa_cons (pv 0) pa_nil)))
    (pss_cons (ps_set (i := 2) sc_winning.nd rfl (.inl rfl) (pe_lst pa_nil))
    (pss_cons (ps_for (passes_of rfl) rfl (pi_enum (by rfl) T.b_enumerate (pa_cons (pv 0) pa_nil)) (pg_tup (n := 2) rfl (pgs_cons (pg_name (i := 3) sc_winning.nd rfl (.inl rfl)) (pgs_cons (pg_name (i := 4) sc_winning.nd rfl (.inl rfl)) pgs_nil))) (pss_cons (ps_set (i := 5) sc_winning.nd rfl (.inl rfl) (pe_cl c_leading_of hr (by decide) (by rfl) (pa_cons (pv 4) (pa_cons (pe_cl c_added hr (by decide) (by rfl) (pa_cons (pv 1) (pa_cons (pe_cl c_worth_of hr (by decide) (by rfl) (pa_cons (pv 4) pa_nil)) pa_nil))) pa_nil))))
    (pss_one (ps_if (pt_cmpR op_notNn (pv 5) pe_non (nomark _)) (pss_one (ps_expr (pe_bm PySem.F.plainAttrs_list PySem.F.slot_list_append PySem.F.type_list_append mt_append (pv 2) (pa_cons (pe_tup (pa_cons (pv 3) (pa_cons (pv 5) pa_nil))) pa_nil)))) pss_nil))))
    (pss_one (ps_ret (pv 2)))))), ?_⟩)
  obtain ⟨v, T, rfl, hT, q, qt, qp⟩ := h
  by_cases hg : T.length ≤ 6 ∧ GdT T
  · obtain ⟨hl, hG⟩ := hg
    have q := q hl hG
    rw [show start ["table", "total", "found", "number", "pair", "times"] [v] = [some (v), none, none, none, none, none] from rfl]
    have b := nimT_bd hG
    walk_at "go"
    rename_i H1 e1 l H2 hl2 e2 h2
    refine d_forE (T := T) (H0 := H1) (by walk_at "ea") (by walk_at "tb") (by walk_at "ex") (fun i σ' H' => Ex H1 H' ∧ ∃ z z2 z3 ws, σ' = [some v, some (.int (nimT T)), some (.ref l), z, z2, z3] ∧ H' l = some (.lst ws) ∧ Prs K H' ws (winN T (nimT T) i))
      (fun H3 e3 => ⟨by walk_at "ex", _, _, _, [], rfl, by walk_at "hl", trivial⟩) (fun i σ' H' h => h.1) (fun i σ' H3 H4 h e => ?_) ?_ ?_
    · obtain ⟨e3, z, z2, z3, ws, h3, h4, h5⟩ := h
      exact ⟨e3.trans e, z, z2, z3, ws, h3, e _ _ h4, h5.mono e⟩
    · rintro i w p σ' H' hi hp ⟨e3, z, z2, z3, ws, rfl, h4, h5⟩
      obtain ⟨g1, g2⟩ := hG p (List.mem_of_getElem? hi)
      have b2 := wt_bd g1 g2
      have hlen := winN_len T (nimT T) i
      have hi2 := (List.getElem?_eq_some_iff.mp hi).1
      rw [← h5.len] at hlen
      walk_at "nx"
      walk_at "go"
      rename_i H3 e4 H4 e5 H5 e6
      cases hld : ld p.1 p.2 (xr (nimT T) (wt p.1 p.2)) with
      | none =>
        simp only [optV]
        walk_at "if"
        · intro hb
          simp at hb
        · intro hb H6 e7
          walk_at "go"
          refine ⟨by walk_at "ex", _, _, _, ws, rfl, by walk_at "hl", ?_⟩
          rw [winN_none hi hld]
          exact h5.mono (by walk_at "ex")
      | some t =>
        simp only [optV]
        walk_at "if"
        · intro hb H6 e7
          walk_at "go"
          rename_i H8 b8 h8
          refine ⟨by walk_at "ex", _, _, _, _, rfl, h8, ?_⟩
          rw [winN_some hi hld]
          exact (h5.mono (by walk_at "ex")).exb b8 (by walk_at "hl") |>.app (Prs.one (by walk_at "pr"))
        · intro hb
          simp at hb
    · rintro σ' H' ⟨e3, z, z2, z3, ws, rfl, h4, h5⟩
      walk_at "go"
      exact q l _ ws (by walk_at "fr") (by walk_at "ex") h4 h5
  · rw [show start ["table", "total", "found", "number", "pair", "times"] [v] = [some (v), none, none, none, none, none] from rfl]
    walk_at "go"
    exact ⟨v, T, rfl, by walk_at "tb", fun a b => absurd ⟨a, b⟩ hg, fun z H1 e1 => qt z _ (by walk_at "ex"), fun z w H1 e1 => qp z w _ (by walk_at "ex")⟩

/-! ### plays -/


/-- the pairs behind the first n moves -/
def opts (x y : Int) (n : Nat) : List (Int × Int) := (List.range n).map fun i : Nat => bh x y ((i : Int) + 1)
theorem opts_succ (x y : Int) (n : Nat) : opts x y (n + 1) = opts x y n ++ [bh x y ((n : Int) + 1)] := by
  unfold opts
  rw [List.range_succ, List.map_append]
  rfl
theorem opts_len (x y : Int) (n : Nat) : (opts x y n).length = n := by
  unfold opts
  simp
theorem opts_get {x y : Int} {n i : Nat} {p : Int × Int} (h : (opts x y n)[i]? = some p) : i < n ∧ p = bh x y ((i : Int) + 1) := by
  unfold opts at h
  rw [List.getElem?_map] at h
  obtain ⟨j, hj, rfl⟩ := Option.map_eq_some_iff.mp h
  have h1 := (List.getElem?_eq_some_iff.mp hj).1
  rw [List.length_range] at h1
  rw [List.getElem?_range h1] at hj
  cases hj
  exact ⟨h1, rfl⟩

/-! ### plays counted -/
/-- so many twos are multiplied -/
def exq (x y : Int) : Int := ((qs x y).map (· - 1)).sum - (if x = y then 0 else 1)
def cnt (x y : Int) : Int := ((2 ^ (exq x y).toNat : Nat) : Int)
theorem sum_less : ∀ l : List Int, (l.map (· - 1)).sum = l.sum - (l.length : Int)
  | [] => rfl
  | a :: l => by
    rw [List.map_cons, List.sum_cons, List.sum_cons, List.length_cons, sum_less l]
    omega
theorem qs_ne {x y : Int} (hx : 1 ≤ x) (hy : 1 ≤ y) : 1 ≤ (qs x y).length := by
  unfold qs
  rw [eu_step (by omega) (by omega), List.length_cons]
  omega
theorem euN_sum : ∀ (n g s : Nat), s < n → 0 ≤ (euN g s).sum
  | 0, _, _, h => absurd h (Nat.not_lt_zero _)
  | n + 1, g, s, h => by
    by_cases c : s = 0
    · rw [c, euN_zero]
      exact Int.le_refl _
    · have hs : 0 < s := Nat.pos_of_ne_zero c
      have := Nat.mod_lt g hs
      rw [euN_step hs, List.sum_cons]
      exact Int.add_nonneg (Int.natCast_nonneg _) (euN_sum n s (g % s) (by omega))
theorem qs_nonneg {x y : Int} (hx : 1 ≤ x) (hy : 1 ≤ y) : 0 ≤ (qs x y).sum := euN_sum _ _ _ (Nat.lt_succ_self _)
theorem exq_le {x y : Int} (hx : 1 ≤ x) (hy : 1 ≤ y) (h : (qs x y).sum - 1 ≤ 200) : exq x y ≤ 200 := by
  unfold exq
  have := qs_ne hx hy
  rw [sum_less]
  split <;> omega
def euF : Nat → Nat → Nat → List Int
  | 0, _, _ => []
  | f + 1, g, s => if s = 0 then [] else ((g / s : Nat) : Int) :: euF f s (g % s)
theorem euF_eq : ∀ (f g s : Nat), s < f → euN g s = euF f g s
  | 0, _, _, h => absurd h (Nat.not_lt_zero _)
  | f + 1, g, s, h => by
    unfold euF
    by_cases c : s = 0
    · rw [if_pos c, c, euN_zero]
    · have hs : 0 < s := Nat.pos_of_ne_zero c
      have := Nat.mod_lt g hs
      rw [if_neg c, euN_step hs, euF_eq f s (g % s) (by omega)]
def qF (x y : Int) : List Int := euF 20 (max x y).toNat (min x y).toNat
def cntF (x y : Int) : Int := ((2 ^ (((qF x y).map (· - 1)).sum - (if x = y then 0 else 1)).toNat : Nat) : Int)
def okF (x y : Int) : Bool :=
  decide ((qF x y).sum ≤ 201) && decide (0 ≤ ((qF x y).map (· - 1)).sum - (if x = y then 0 else 1)) &&
  decide (cntF x y = (if mvs x y ≤ 0 then 1 else 0) + ((List.range (mvs x y).toNat).map fun i : Nat => cntF (bh x y ((i : Int) + 1)).1 (bh x y ((i : Int) + 1)).2).sum)
theorem okF_all : ((List.range 12).all fun i => (List.range 12).all fun j => okF ((i : Int) + 1) ((j : Int) + 1)) = true := by decide +kernel
theorem okF_at {x y : Int} (hx : 1 ≤ x) (hy : 1 ≤ y) (hx2 : x ≤ 12) (hy2 : y ≤ 12) : okF x y = true := by
  have h := List.all_eq_true.mp okF_all (x.toNat - 1) (List.mem_range.mpr (by omega))
  have h := List.all_eq_true.mp h (y.toNat - 1) (List.mem_range.mpr (by omega))
  rw [show ((x.toNat - 1 : Nat) : Int) + 1 = x by omega, show ((y.toNat - 1 : Nat) : Int) + 1 = y by omega] at h
  exact h
theorem qF_eq {x y : Int} (hx : 1 ≤ x) (hy : 1 ≤ y) (hx2 : x ≤ 12) (hy2 : y ≤ 12) : qs x y = qF x y := by
  unfold qs qF eu
  rw [euF_eq 20 _ _ (by omega)]
theorem cntF_eq {x y : Int} (hx : 1 ≤ x) (hy : 1 ≤ y) (hx2 : x ≤ 12) (hy2 : y ≤ 12) : cnt x y = cntF x y := by
  unfold cnt exq cntF
  rw [qF_eq hx hy hx2 hy2]
theorem bh_le {x y t : Int} (hx : 1 ≤ x) (hy : 1 ≤ y) (h1 : 1 ≤ t) : (bh x y t).1 ≤ x ∧ (bh x y t).2 ≤ y := by
  unfold bh
  by_cases c : y < x
  · rw [if_pos c]
    have := Int.mul_le_mul_of_nonneg_right h1 (show 0 ≤ y by omega)
    exact ⟨by show x - t * y ≤ x; omega, Int.le_refl _⟩
  · rw [if_neg c]
    have := Int.mul_le_mul_of_nonneg_right h1 (show 0 ≤ x by omega)
    exact ⟨Int.le_refl _, by show y - t * x ≤ y; omega⟩
/-- the plays behind all moves -/
def clo (x y : Int) : List Int := (opts x y (mvs x y).toNat).map fun p => cnt p.1 p.2
theorem cnt_step {x y : Int} (hx : Gd x) (hy : Gd y) (hx2 : x ≤ 12) (hy2 : y ≤ 12) : cnt x y = (if opts x y (mvs x y).toNat = [] then 1 else 0) + (clo x y).sum := by
  have h := okF_at hx.1 hy.1 hx2 hy2
  unfold okF at h
  simp only [Bool.and_eq_true, decide_eq_true_eq] at h
  have h := h.2
  rw [cntF_eq hx.1 hy.1 hx2 hy2, h]
  have m0 := (mvs_le hx hy).1
  congr 1
  · have e : opts x y (mvs x y).toNat = [] ↔ mvs x y ≤ 0 := by
      rw [← List.length_eq_zero_iff, opts_len]
      omega
    simp only [e]
  · unfold clo opts
    rw [List.map_map]
    congr 1
    refine List.map_congr_left fun i hi => ?_
    have hi := List.mem_range.mp hi
    obtain ⟨g1, g2⟩ := bh_gd hx hy (show 1 ≤ (i : Int) + 1 by omega) (by omega)
    obtain ⟨l1, l2⟩ := bh_le hx.1 hy.1 (show 1 ≤ (i : Int) + 1 by omega)
    exact (cntF_eq g1.1 g2.1 (by omega) (by omega)).symm
theorem few_short {x y : Int} (hx : 1 ≤ x) (hy : 1 ≤ y) (hx2 : x ≤ 12) (hy2 : y ≤ 12) : (qs x y).sum - 1 ≤ 200 := by
  have h := okF_at hx hy hx2 hy2
  unfold okF at h
  simp only [Bool.and_eq_true, decide_eq_true_eq] at h
  rw [qF_eq hx hy hx2 hy2]
  omega
theorem two_le {i : Nat} (h : i ≤ 200) : 0 < (2 : Nat) ^ i ∧ (2 : Nat) ^ i ≤ 10000000000000000000000000000000000000000000000000000000000000000000 := by
  refine ⟨Nat.two_pow_pos i, ?_⟩
  have h1 := Nat.pow_le_pow_right (show 0 < 2 by decide) h
  have h2 : (2 : Nat) ^ 200 ≤ 10000000000000000000000000000000000000000000000000000000000000000000 := by decide
  omega

def sp_plays (K : PySem.W.Frag) (cs : Cs) : Sp := fun vs H Q E => ∃ v x y, vs = [v] ∧ Pr K H v x y ∧ (Gd x → Gd y → (∀ v' H', Ex H H' → Q v' H') ∧ ∀ H', Ex H H' → E (.ref cs.TooLong) none H') ∧ (¬ (Gd x ∧ Gd y) → ∀ H', Ex H H' → E (.ref cs.NoPair) none H')
theorem ok_plays (F : Df K mg "plays" s_plays) (T : Txt K mg cs) (c_quotients : ClX P w K mg base 2 "quotients" (sp_quotients K cs)) (c_longest : ClX P w K mg base 3 "longest" (sp_longest K cs)) : ClX P w K mg base 4 "plays" (sp_plays K cs) := by
  refine clX_of (N := ["pair", "twos", "total", "k", "quotient"]) (ps := ["pair"]) F (fun _ _ _ _ _ _ us hl => match us, hl with | [_], _ => rfl) sc_plays (fun vs H Q E h => by obtain ⟨_, _, _, rfl, _⟩ := h; rfl) (fun f cdv A outer s H vs Q E hr h => ⟨_, (pss_cons (ps_if (pt_cmpR op_gt (pe_clX c_longest hr (by decide) (by rfl) (takes_of rfl rfl rfl rfl) (pa_cons (pv 0) pa_nil)) (pe_gc (by rfl) T.g_MOST_MOVES) (nomark _)) (pss_one (ps_raise rfl (takes_of rfl rfl rfl rfl) (pmk_own PySem.F.excBase_ValueError T.x_TooLong.xC T.x_TooLong.gC T.x_TooLong.kC (raises_own T.x_TooLong.bC T.x_TooLong.tC) (by exact rfl)))) pss_nil)
    (pss_cons (ps_set (i := 1) sc_plays.nd rfl (.inl rfl) (pe_op op_sub (pe_callB (cr_sum rfl) (by rfl) T.b_sum (by decide +kernel) (pa_cons (pe_lc (own := [("quotient", 4)]) (g := gName 4) rfl sc_plays.nd (pi_list (pe_clX c_quotients hr (by decide) (by rfl) (takes_of rfl rfl rfl rfl) (pa_cons (pv 0) pa_nil))) (blkOk_by (own := [("quotient", 4)]) (N := ["pair", "twos", "total", "k", "quotient"]) (sc := defScope s_plays) (by decide +kernel)) (fun _ _ _ _ _ => (pg_name (i := 4) sc_plays.nd rfl (.inl rfl))) (fun _ _ _ _ _ => pts_nil) (fun _ _ _ _ _ => (pe_op op_sub (pv 4) pe_int))) pa_nil)) (pe_callTy call_intB (by rfl) T.b_int (by decide +kernel) (pa_cons (pe_cmpR op_ne (pe_ix ix_tup (pv 0) pe_int (fun _ _ => rfl)) (pe_ix ix_tup (pv 0) pe_int (fun _ _ => rfl)) (nomark _)) pa_nil))))
    (pss_cons (ps_set (i := 2) sc_plays.nd rfl (.inl rfl) pe_int)
    (pss_cons (ps_for (passes_of rfl) rfl (pi_range1 (by rfl) T.b_range (pa_cons (pv 1) pa_nil)) (pg_name (i := 3) sc_plays.nd rfl (.inl rfl)) (pss_one (ps_set (i := 2) sc_plays.nd rfl (.inl rfl) (pe_op op_mulW pe_int (pv 2)))))
    (pss_one (ps_ret (pv 2))))))), ?_⟩)
  obtain ⟨v, x, y, rfl, hp, q, qe⟩ := h
  by_cases hg : Gd x ∧ Gd y
  · obtain ⟨hx, hy⟩ := hg
    obtain ⟨q2, qe2⟩ := q hx hy
    rw [show start ["pair", "twos", "total", "k", "quotient"] [v] = [some (v), none, none, none, none] from rfl]
    walk_at "go"
    walk_at "if"
    · intro hb H1 e1
      simp at hb
      exact qe2 _ (by walk_at "ex")
    · intro hb H1 e1
      simp at hb
      have hsh : (qs x y).sum - 1 ≤ 200 := by omega
      have hex := exq_le hx.1 hy.1 hsh
      have hln := qs_len (y := y) hx.2
      walk_at "go"
      refine d_lc ?_
      walk_at "go"
      rename_i p H2 n2 e2 f2
      refine d_rLcL (xs := (qs x y).map V.int) (by walk_at "sl") (by simp; omega) (fun k acc _ => acc = (((qs x y).take k).map (· - 1)).map V.int) (fun _ _ _ _ _ _ _ _ r => r) (fun _ => rfl) (fun _ _ => rfl) ?_ ?_
      · rintro i xv acc H3 hi e3 hl3 rfl
        rw [List.getElem?_map] at hi
        obtain ⟨n, hn, rfl⟩ := Option.map_eq_some_iff.mp hi
        refine ⟨true, et_yes, fun _ H4 e4 => ?_, fun z => nomatch z⟩
        refine er_ev (v := .int (n - 1)) (by walk_at "ev") fun H5 e5 => ?_
        show _ ++ [V.int _] = _
        rw [take_succ' hn]
        simp
      · rintro p2 H3 acc n3 e3 f3 rfl
        rw [List.length_map, List.take_length] at f3
        walk_at "nx"
        walk_at "go"
        have hE : ((qs x y).map (· - 1)).sum - (if (!decide (x = y)) = true then 1 else 0) = exq x y := by
          unfold exq
          by_cases c : x = y <;> simp [c]
        rw [hE]
        refine d_for1z (n := exq x y) (by walk_at "ea") ?_ (fun i σ' H' => Ex H3 H' ∧ ∃ z, σ' = [some v, some (.int (exq x y)), some (.int ((2 ^ i : Nat) : Int)), z, none]) (fun H4 e4 => ⟨by walk_at "ex", _, rfl⟩) ?_ ?_
        · have := qs_nonneg hx.1 hy.1
          unfold exq
          rw [sum_less]
          constructor
          · split <;> omega
          · have := exq_le hx.1 hy.1 hsh
            unfold exq at this
            rw [sum_less] at this
            omega
        · rintro i σ' H4 hi ⟨e4, z, rfl⟩
          obtain ⟨t1, t2⟩ := two_le (show i ≤ 200 by omega)
          walk_at "nx"
          walk_at "go"
          have e : 2 * ((2 ^ i : Nat) : Int) = ((2 ^ (i + 1) : Nat) : Int) := by
            rw [Nat.pow_succ]
            omega
          rw [e]
          exact ⟨by walk_at "ex", _, rfl⟩
        · rintro σ' H4 ⟨e4, z, rfl⟩
          walk_at "go"
          exact q2 _ _ (by walk_at "ex")
  · rw [show start ["pair", "twos", "total", "k", "quotient"] [v] = [some (v), none, none, none, none] from rfl]
    walk_at "go"
    refine d_ifU (d_testU ?_)
    walk_at "go"
    exact ⟨v, x, y, rfl, by walk_at "pr", fun a b => absurd ⟨a, b⟩ hg, fun _ H1 e1 => qe hg _ (by walk_at "ex")⟩

/-! ### _law_of_pair -/
def sp__law_of_pair (K : PySem.W.Frag) (cs : Cs) : Sp := fun vs H Q E => ∃ n v x y, vs = [.int n, v] ∧ Pr K H v x y ∧ ((0 ≤ n → n ≤ 7 → (Gd x ∧ Gd y) ∧ n ≠ 2) → ∀ H', Ex H H' → Q .non H') ∧ (0 ≤ n → n ≤ 7 → ¬ (Gd x ∧ Gd y) → ∀ H', Ex H H' → E (.ref cs.NoPair) none H') ∧
  (n = 2 → Gd x → Gd y → ∀ H', Ex H H' → E (.ref cs.NoMove) none H') ∧ (n = 7 → Gd x → Gd y → ∀ H', Ex H H' → E (.ref cs.TooLong) none H')
theorem ok__law_of_pair (F : Df K mg "_law_of_pair" s__law_of_pair) (T : Txt K mg cs) (c_quotients : ClX P w K mg base 2 "quotients" (sp_quotients K cs)) (c_moves : ClX P w K mg base 2 "moves" (sp_moves K cs)) (c_taken : ClX P w K mg base 2 "taken" (sp_taken K cs)) (c_worth : ClX P w K mg base 2 "worth" (sp_worth K cs)) (c_leading : ClX P w K mg base 3 "leading" (sp_leading K cs)) (c_shortest : ClX P w K mg base 3 "shortest" (sp_shortest K cs)) (c_longest : ClX P w K mg base 3 "longest" (sp_longest K cs)) (c_plays : ClX P w K mg base 4 "plays" (sp_plays K cs)) : ClX P w K mg base 5 "_law_of_pair" (sp__law_of_pair K cs) := by
  refine clX_of (N := ["which", "pair"]) (ps := ["which", "pair"]) F (fun _ _ _ _ _ _ us hl => match us, hl with | [_, _], _ => rfl) sc__law_of_pair (fun vs H Q E h => by obtain ⟨_, _, _, _, rfl, _⟩ := h; rfl) (fun f cdv A outer s H vs Q E hr h => ⟨_, (pss_cut (ps_if (pt_cmpR op_eq (pv 0) pe_int (nomark _)) (pss_one (ps_expr (pe_clX c_quotients hr (by decide) (by rfl) (takes_of rfl rfl rfl rfl) (pa_cons (pv 1) pa_nil)))) pss_nil)
    (pss_cut (ps_if (pt_cmpR op_eq (pv 0) pe_int (nomark _)) (pss_one (ps_expr (pe_clX c_moves hr (by decide) (by rfl) (takes_of rfl rfl rfl rfl) (pa_cons (pv 1) pa_nil)))) pss_nil)
    (pss_cut (ps_if (pt_cmpR op_eq (pv 0) pe_int (nomark _)) (pss_one (ps_expr (pe_clX c_taken hr (by decide) (by rfl) (takes_of rfl rfl rfl rfl) (pa_cons (pv 1) (pa_cons pe_int pa_nil))))) pss_nil)
    (pss_cut (ps_if (pt_cmpR op_eq (pv 0) pe_int (nomark _)) (pss_one (ps_expr (pe_clX c_worth hr (by decide) (by rfl) (takes_of rfl rfl rfl rfl) (pa_cons (pv 1) pa_nil)))) pss_nil)
    (pss_cut (ps_if (pt_cmpR op_eq (pv 0) pe_int (nomark _)) (pss_one (ps_expr (pe_clX c_leading hr (by decide) (by rfl) (takes_of rfl rfl rfl rfl) (pa_cons (pv 1) (pa_cons pe_int pa_nil))))) pss_nil)
    (pss_cut (ps_if (pt_cmpR op_eq (pv 0) pe_int (nomark _)) (pss_one (ps_expr (pe_clX c_shortest hr (by decide) (by rfl) (takes_of rfl rfl rfl rfl) (pa_cons (pv 1) pa_nil)))) pss_nil)
    (pss_cut (ps_if (pt_cmpR op_eq (pv 0) pe_int (nomark _)) (pss_one (ps_expr (pe_clX c_longest hr (by decide) (by rfl) (takes_of rfl rfl rfl rfl) (pa_cons (pv 1) pa_nil)))) pss_nil)
    (pss_one (ps_if (pt_cmpR op_eq (pv 0) pe_int (nomark _)) (pss_one (ps_expr (pe_clX c_plays hr (by decide) (by rfl) (takes_of rfl rfl rfl rfl) (pa_cons (pv 1) pa_nil)))) pss_nil))))))))), ?_⟩)
  obtain ⟨n, v, x, y, rfl, hp, q, qp, qm, ql⟩ := h
  rw [show start ["which", "pair"] [.int n, v] = [some (.int n), some (v)] from rfl]
  walk_at "go"
  refine ⟨fun σ' H' => σ' = [some (.int n), some v] ∧ Ex H H' ∧ (0 ≤ n → n ≤ 0 → (Gd x ∧ Gd y) ∧ n ≠ 2), ?_, ?_⟩
  · walk_at "if"
    · intro hb H9 e9
      have hb := of_decide_eq_true hb
      by_cases hg : Gd x ∧ Gd y
      · obtain ⟨hx, hy⟩ := hg
        walk_at "go"
        refine ⟨rfl, by walk_at "ex", fun z1 z2 => ⟨⟨hx, hy⟩, by omega⟩⟩
      · walk_at "go"
        exact ⟨v, x, y, rfl, by walk_at "pr", fun a b => absurd ⟨a, b⟩ hg, fun _ H1 e1 => qp (by omega) (by omega) hg _ (by walk_at "ex")⟩
    · intro hb H9 e9
      have hb := of_decide_eq_false hb
      exact ⟨rfl, by walk_at "ex", fun z1 z2 => absurd (by omega) hb⟩
  rintro σ' H1 ⟨rfl, e1, hk⟩
  walk_at "go"
  refine ⟨fun σ' H' => σ' = [some (.int n), some v] ∧ Ex H H' ∧ (0 ≤ n → n ≤ 1 → (Gd x ∧ Gd y) ∧ n ≠ 2), ?_, ?_⟩
  · walk_at "if"
    · intro hb H9 e9
      have hb := of_decide_eq_true hb
      by_cases hg : Gd x ∧ Gd y
      · obtain ⟨hx, hy⟩ := hg
        walk_at "go"
        refine ⟨rfl, by walk_at "ex", fun z1 z2 => ⟨⟨hx, hy⟩, by omega⟩⟩
      · walk_at "go"
        exact ⟨v, x, y, rfl, by walk_at "pr", fun a b => absurd ⟨a, b⟩ hg, fun _ H1 e1 => qp (by omega) (by omega) hg _ (by walk_at "ex")⟩
    · intro hb H9 e9
      have hb := of_decide_eq_false hb
      exact ⟨rfl, by walk_at "ex", fun z1 z2 => hk z1 (by omega)⟩
  clear hk
  rintro σ' H1 ⟨rfl, e1, hk⟩
  walk_at "go"
  refine ⟨fun σ' H' => σ' = [some (.int n), some v] ∧ Ex H H' ∧ (0 ≤ n → n ≤ 2 → (Gd x ∧ Gd y) ∧ n ≠ 2), ?_, ?_⟩
  · walk_at "if"
    · intro hb H9 e9
      have hb := of_decide_eq_true hb
      walk_at "go"
      exact ⟨v, x, y, 0, rfl, by walk_at "pr", by decide, fun a b _ e10 => qm hb a b _ (by walk_at "ex"), fun hg _ e10 => qp (by omega) (by omega) hg _ (by walk_at "ex")⟩
    · intro hb H9 e9
      have hb := of_decide_eq_false hb
      exact ⟨rfl, by walk_at "ex", fun z1 z2 => hk z1 (by omega)⟩
  clear hk
  rintro σ' H1 ⟨rfl, e1, hk⟩
  walk_at "go"
  refine ⟨fun σ' H' => σ' = [some (.int n), some v] ∧ Ex H H' ∧ (0 ≤ n → n ≤ 3 → (Gd x ∧ Gd y) ∧ n ≠ 2), ?_, ?_⟩
  · walk_at "if"
    · intro hb H9 e9
      have hb := of_decide_eq_true hb
      by_cases hg : Gd x ∧ Gd y
      · obtain ⟨hx, hy⟩ := hg
        walk_at "go"
        refine ⟨rfl, by walk_at "ex", fun z1 z2 => ⟨⟨hx, hy⟩, by omega⟩⟩
      · walk_at "go"
        exact ⟨v, x, y, rfl, by walk_at "pr", fun a b => absurd ⟨a, b⟩ hg, fun _ H1 e1 => qp (by omega) (by omega) hg _ (by walk_at "ex")⟩
    · intro hb H9 e9
      have hb := of_decide_eq_false hb
      exact ⟨rfl, by walk_at "ex", fun z1 z2 => hk z1 (by omega)⟩
  clear hk
  rintro σ' H1 ⟨rfl, e1, hk⟩
  walk_at "go"
  refine ⟨fun σ' H' => σ' = [some (.int n), some v] ∧ Ex H H' ∧ (0 ≤ n → n ≤ 4 → (Gd x ∧ Gd y) ∧ n ≠ 2), ?_, ?_⟩
  · walk_at "if"
    · intro hb H9 e9
      have hb := of_decide_eq_true hb
      by_cases hg : Gd x ∧ Gd y
      · obtain ⟨hx, hy⟩ := hg
        walk_at "go"
        refine ⟨rfl, by walk_at "ex", fun z1 z2 => ⟨⟨hx, hy⟩, by omega⟩⟩
      · walk_at "go"
        exact ⟨v, x, y, 0, rfl, by walk_at "pr", fun a b => absurd ⟨a, b⟩ hg, fun _ H1 e1 => qp (by omega) (by omega) hg _ (by walk_at "ex")⟩
    · intro hb H9 e9
      have hb := of_decide_eq_false hb
      exact ⟨rfl, by walk_at "ex", fun z1 z2 => hk z1 (by omega)⟩
  clear hk
  rintro σ' H1 ⟨rfl, e1, hk⟩
  walk_at "go"
  refine ⟨fun σ' H' => σ' = [some (.int n), some v] ∧ Ex H H' ∧ (0 ≤ n → n ≤ 5 → (Gd x ∧ Gd y) ∧ n ≠ 2), ?_, ?_⟩
  · walk_at "if"
    · intro hb H9 e9
      have hb := of_decide_eq_true hb
      by_cases hg : Gd x ∧ Gd y
      · obtain ⟨hx, hy⟩ := hg
        walk_at "go"
        refine ⟨rfl, by walk_at "ex", fun z1 z2 => ⟨⟨hx, hy⟩, by omega⟩⟩
      · walk_at "go"
        exact ⟨v, x, y, rfl, by walk_at "pr", fun a b => absurd ⟨a, b⟩ hg, fun _ H1 e1 => qp (by omega) (by omega) hg _ (by walk_at "ex")⟩
    · intro hb H9 e9
      have hb := of_decide_eq_false hb
      exact ⟨rfl, by walk_at "ex", fun z1 z2 => hk z1 (by omega)⟩
  clear hk
  rintro σ' H1 ⟨rfl, e1, hk⟩
  walk_at "go"
  refine ⟨fun σ' H' => σ' = [some (.int n), some v] ∧ Ex H H' ∧ (0 ≤ n → n ≤ 6 → (Gd x ∧ Gd y) ∧ n ≠ 2), ?_, ?_⟩
  · walk_at "if"
    · intro hb H9 e9
      have hb := of_decide_eq_true hb
      by_cases hg : Gd x ∧ Gd y
      · obtain ⟨hx, hy⟩ := hg
        walk_at "go"
        refine ⟨rfl, by walk_at "ex", fun z1 z2 => ⟨⟨hx, hy⟩, by omega⟩⟩
      · walk_at "go"
        exact ⟨v, x, y, rfl, by walk_at "pr", fun a b => absurd ⟨a, b⟩ hg, fun _ H1 e1 => qp (by omega) (by omega) hg _ (by walk_at "ex")⟩
    · intro hb H9 e9
      have hb := of_decide_eq_false hb
      exact ⟨rfl, by walk_at "ex", fun z1 z2 => hk z1 (by omega)⟩
  clear hk
  rintro σ' H1 ⟨rfl, e1, hk⟩
  walk_at "go"
  walk_at "if"
  · intro hb H9 e9
    have hb := of_decide_eq_true hb
    walk_at "go"
    exact ⟨v, x, y, rfl, by walk_at "pr", fun hx hy => ⟨fun _ _ e10 => by
      exact q (fun z1 z2 => ⟨⟨hx, hy⟩, by omega⟩) _ (by walk_at "ex"), fun _ e10 => ql hb hx hy _ (by walk_at "ex")⟩, fun hg _ e10 => qp (by omega) (by omega) hg _ (by walk_at "ex")⟩
  · intro hb H9 e9
    have hb := of_decide_eq_false hb
    exact q (fun z1 z2 => hk z1 (by omega)) _ (by walk_at "ex")

/-! ### _law_of_table -/
def sp__law_of_table (K : PySem.W.Frag) (cs : Cs) : Sp := fun vs H Q E => ∃ n v T, vs = [.int n, v] ∧ Tb K H v T ∧ ((8 ≤ n → n ≤ 12 → (T.length ≤ 6 ∧ GdT T) ∧ n ≠ 11) → ∀ H', Ex H H' → Q .non H') ∧ (8 ≤ n → n ≤ 12 → ¬ T.length ≤ 6 → ∀ H', Ex H H' → E (.ref cs.NoTable) none H') ∧
  (8 ≤ n → n ≤ 12 → T.length ≤ 6 → ¬ GdT T → ∀ H', Ex H H' → E (.ref cs.NoPair) none H') ∧ (n = 11 → T.length ≤ 6 → GdT T → ∀ H', Ex H H' → E (.ref cs.NoMove) none H')
theorem ok__law_of_table (F : Df K mg "_law_of_table" s__law_of_table) (T : Txt K mg cs) (c_together : ClX P w K mg base 3 "together" (sp_together K cs)) (c_wins : ClX P w K mg base 4 "wins" (sp_wins K cs)) (c_winning : ClX P w K mg base 4 "winning" (sp_winning K cs)) (c_moved : ClX P w K mg base 3 "moved" (sp_moved K cs)) (c_shown : ClX P w K mg base 3 "shown" (sp_shown K cs)) : ClX P w K mg base 5 "_law_of_table" (sp__law_of_table K cs) := by
  refine clX_of (N := ["which", "table"]) (ps := ["which", "table"]) F (fun _ _ _ _ _ _ us hl => match us, hl with | [_, _], _ => rfl) sc__law_of_table (fun vs H Q E h => by obtain ⟨_, _, _, rfl, _⟩ := h; rfl) (fun f cdv A outer s H vs Q E hr h => ⟨_, (pss_cut (ps_if (pt_cmpR op_eq (pv 0) pe_int (nomark _)) (pss_one (ps_expr (pe_clX c_together hr (by decide) (by rfl) (takes_of rfl rfl rfl rfl) (pa_cons (pv 1) pa_nil)))) pss_nil)
    (pss_cut (ps_if (pt_cmpR op_eq (pv 0) pe_int (nomark _)) (pss_one (ps_expr (pe_clX c_wins hr (by decide) (by rfl) (takes_of rfl rfl rfl rfl) (pa_cons (pv 1) pa_nil)))) pss_nil)
    (pss_cut (ps_if (pt_cmpR op_eq (pv 0) pe_int (nomark _)) (pss_one (ps_expr (pe_clX c_winning hr (by decide) (by rfl) (takes_of rfl rfl rfl rfl) (pa_cons (pv 1) pa_nil)))) pss_nil)
    (pss_cut (ps_if (pt_cmpR op_eq (pv 0) pe_int (nomark _)) (pss_one (ps_expr (pe_clX c_moved hr (by decide) (by rfl) (takes_of rfl rfl rfl rfl) (pa_cons (pv 1) (pa_cons (pe_un un_neg pe_int) (pa_cons pe_int pa_nil)))))) pss_nil)
    (pss_one (ps_if (pt_cmpR op_eq (pv 0) pe_int (nomark _)) (pss_one (ps_expr (pe_clX c_shown hr (by decide) (by rfl) (takes_of rfl rfl rfl rfl) (pa_cons (pv 1) pa_nil)))) pss_nil)))))), ?_⟩)
  obtain ⟨n, v, T', rfl, hT, q, qt, qp, qm⟩ := h
  rw [show start ["which", "table"] [.int n, v] = [some (.int n), some (v)] from rfl]
  walk_at "go"
  refine ⟨fun σ' H' => σ' = [some (.int n), some v] ∧ Ex H H' ∧ (8 ≤ n → n ≤ 8 → (T'.length ≤ 6 ∧ GdT T') ∧ n ≠ 11), ?_, ?_⟩
  · walk_at "if"
    · intro hb H9 e9
      have hb := of_decide_eq_true hb
      walk_at "go"
      exact ⟨v, T', rfl, by walk_at "tb", fun hl hG _ e10 => by
        refine ⟨rfl, by walk_at "ex", fun z1 z2 => ⟨⟨hl, hG⟩, by omega⟩⟩, fun z _ e10 => qt (by omega) (by omega) z _ (by walk_at "ex"), fun z w _ e10 => qp (by omega) (by omega) z w _ (by walk_at "ex")⟩
    · intro hb H9 e9
      have hb := of_decide_eq_false hb
      exact ⟨rfl, by walk_at "ex", fun z1 z2 => absurd (by omega) hb⟩
  rintro σ' H1 ⟨rfl, e1, hk⟩
  walk_at "go"
  refine ⟨fun σ' H' => σ' = [some (.int n), some v] ∧ Ex H H' ∧ (8 ≤ n → n ≤ 9 → (T'.length ≤ 6 ∧ GdT T') ∧ n ≠ 11), ?_, ?_⟩
  · walk_at "if"
    · intro hb H9 e9
      have hb := of_decide_eq_true hb
      walk_at "go"
      exact ⟨v, T', rfl, by walk_at "tb", fun hl hG _ e10 => by
        refine ⟨rfl, by walk_at "ex", fun z1 z2 => ⟨⟨hl, hG⟩, by omega⟩⟩, fun z _ e10 => qt (by omega) (by omega) z _ (by walk_at "ex"), fun z w _ e10 => qp (by omega) (by omega) z w _ (by walk_at "ex")⟩
    · intro hb H9 e9
      have hb := of_decide_eq_false hb
      exact ⟨rfl, by walk_at "ex", fun z1 z2 => hk z1 (by omega)⟩
  clear hk
  rintro σ' H1 ⟨rfl, e1, hk⟩
  walk_at "go"
  refine ⟨fun σ' H' => σ' = [some (.int n), some v] ∧ Ex H H' ∧ (8 ≤ n → n ≤ 10 → (T'.length ≤ 6 ∧ GdT T') ∧ n ≠ 11), ?_, ?_⟩
  · walk_at "if"
    · intro hb H9 e9
      have hb := of_decide_eq_true hb
      walk_at "go"
      exact ⟨v, T', rfl, by walk_at "tb", fun hl hG _ _ _ _ e10 _ _ => by
        refine ⟨rfl, by walk_at "ex", fun z1 z2 => ⟨⟨hl, hG⟩, by omega⟩⟩, fun z _ e10 => qt (by omega) (by omega) z _ (by walk_at "ex"), fun z w _ e10 => qp (by omega) (by omega) z w _ (by walk_at "ex")⟩
    · intro hb H9 e9
      have hb := of_decide_eq_false hb
      exact ⟨rfl, by walk_at "ex", fun z1 z2 => hk z1 (by omega)⟩
  clear hk
  rintro σ' H1 ⟨rfl, e1, hk⟩
  walk_at "go"
  refine ⟨fun σ' H' => σ' = [some (.int n), some v] ∧ Ex H H' ∧ (8 ≤ n → n ≤ 11 → (T'.length ≤ 6 ∧ GdT T') ∧ n ≠ 11), ?_, ?_⟩
  · walk_at "if"
    · intro hb H9 e9
      have hb := of_decide_eq_true hb
      walk_at "go"
      exact ⟨v, T', -1, 0, rfl, by walk_at "tb", by decide, fun a b _ e10 => qm hb a b _ (by walk_at "ex"), fun z _ e10 => qt (by omega) (by omega) z _ (by walk_at "ex"), fun z w _ e10 => qp (by omega) (by omega) z w _ (by walk_at "ex")⟩
    · intro hb H9 e9
      have hb := of_decide_eq_false hb
      exact ⟨rfl, by walk_at "ex", fun z1 z2 => hk z1 (by omega)⟩
  clear hk
  rintro σ' H1 ⟨rfl, e1, hk⟩
  walk_at "go"
  walk_at "if"
  · intro hb H9 e9
    have hb := of_decide_eq_true hb
    walk_at "go"
    exact ⟨v, T', rfl, by walk_at "tb", fun hl hG _ e10 => by
      exact q (fun z1 z2 => ⟨⟨hl, hG⟩, by omega⟩) _ (by walk_at "ex"), fun z _ e10 => qt (by omega) (by omega) z _ (by walk_at "ex"), fun z w _ e10 => qp (by omega) (by omega) z w _ (by walk_at "ex")⟩
  · intro hb H9 e9
    have hb := of_decide_eq_false hb
    exact q (fun z1 z2 => hk z1 (by omega)) _ (by walk_at "ex")

/-! ### _law_tried -/
def Tells (n x y : Int) (T : List (Int × Int)) (w : Str) : Prop :=
  (0 ≤ n ∧ n ≤ 7 ∧ ((¬ (Gd x ∧ Gd y) ∧ w = "pair") ∨ (Gd x ∧ Gd y ∧ n = 2 ∧ w = "move") ∨ (Gd x ∧ Gd y ∧ n = 7 ∧ w = "long") ∨ (Gd x ∧ Gd y ∧ n ≠ 2 ∧ w = "done"))) ∨
  (8 ≤ n ∧ n ≤ 12 ∧ ((¬ T.length ≤ 6 ∧ w = "table") ∨ (T.length ≤ 6 ∧ ¬ GdT T ∧ w = "pair") ∨ (T.length ≤ 6 ∧ GdT T ∧ n = 11 ∧ w = "move") ∨ (T.length ≤ 6 ∧ GdT T ∧ n ≠ 11 ∧ w = "done")))
def sp__law_tried (K : PySem.W.Frag) : Sp := fun vs H Q _ => ∃ n v x y t U, vs = [.int n, v, t] ∧ Pr K H v x y ∧ Tb K H t U ∧ 0 ≤ n ∧ n ≤ 12 ∧ ∀ w H', Ex H H' → Tells n x y U w → Q (.str w) H'
theorem ok__law_tried (F : Df K mg "_law_tried" s__law_tried) (T : Txt K mg cs) (c__law_word_of : ClP P w K mg base 1 "_law_word_of" (sp__law_word_of K cs)) (c__law_of_pair : ClX P w K mg base 5 "_law_of_pair" (sp__law_of_pair K cs)) (c__law_of_table : ClX P w K mg base 5 "_law_of_table" (sp__law_of_table K cs)) : Cl P w K mg base 6 "_law_tried" (sp__law_tried K) := by
  refine cl_of (N := ["which", "pair", "table", "e"]) (ps := ["which", "pair", "table"]) F (fun _ _ _ _ _ _ us hl => match us, hl with | [_, _, _], _ => rfl) sc__law_tried (fun vs H Q E h => by obtain ⟨_, _, _, _, _, _, rfl, _⟩ := h; rfl) (fun f cdv A outer s H vs Q E hr h => ⟨_, (pss_cons (ps_try_as (i := 3) rfl rfl sc__law_tried.nd rfl rfl ⟨rfl, by decide, Or.inl T.x_TakeError.gC⟩ takes0 (fun W pn xe tk _ => (pss_cons (ps_expr (pe_clX c__law_of_pair hr (by decide) (by rfl) tk (pa_cons (pv 0) (pa_cons (pv 1) pa_nil))))
    (pss_one (ps_expr (pe_clX c__law_of_table hr (by decide) (by rfl) tk (pa_cons (pv 0) (pa_cons (pv 2) pa_nil))))))) (fun a oe cls d pn hz hf => (pss_one (ps_ret (pe_clP c__law_word_of (roomH_mark hr) (by decide) List.mem_cons_self hz hf (by rfl) (pa_cons (pv 3) pa_nil))))))
    (pss_one (ps_ret pe_str))), ?_⟩)
  obtain ⟨n, v, x, y, t, U, rfl, hp, hT, n0, n1, q⟩ := h
  rw [show start ["which", "pair", "table", "e"] [.int n, v, t] = [some (.int n), some (v), some (t), none] from rfl]
  walk_at "go"
  refine ⟨n, v, x, y, rfl, hp, fun hk H1 e1 => ?_, fun z1 z2 hg H1 e1 => ?_, fun hn gx gy H1 e1 => ?_, fun hn gx gy H1 e1 => ?_⟩
  · walk_at "go"
    refine ⟨n, t, U, rfl, by walk_at "tb", fun hk2 H2 e2 => ?_, fun z1 z2 hg H2 e2 => ?_, fun z1 z2 hl hg H2 e2 => ?_, fun hn hl hg H2 e2 => ?_⟩
    · walk_at "go"
      refine q _ _ (by walk_at "ex") ?_
      by_cases c : n ≤ 7
      · obtain ⟨⟨gx, gy⟩, h2⟩ := hk n0 c
        exact .inl ⟨n0, c, .inr (.inr (.inr ⟨gx, gy, h2, rfl⟩))⟩
      · obtain ⟨⟨gx, gy⟩, h2⟩ := hk2 (by omega) n1
        exact .inr ⟨by omega, n1, .inr (.inr (.inr ⟨gx, gy, h2, rfl⟩))⟩
    · refine ⟨true, T.m_NoTable, fun _ a ha => ?_, fun z => nomatch z⟩
      walk_at "nx"
      walk_at "go"
      exact u_word_of (j := 1) rfl fun H3 e3 => q _ _ (by walk_at "ex") (.inr ⟨z1, z2, .inl ⟨hg, rfl⟩⟩)
    · refine ⟨true, T.m_NoPair, fun _ a ha => ?_, fun z => nomatch z⟩
      walk_at "nx"
      walk_at "go"
      exact u_word_of (j := 0) rfl fun H3 e3 => q _ _ (by walk_at "ex") (.inr ⟨z1, z2, .inr (.inl ⟨hl, hg, rfl⟩)⟩)
    · refine ⟨true, T.m_NoMove, fun _ a ha => ?_, fun z => nomatch z⟩
      walk_at "nx"
      walk_at "go"
      exact u_word_of (j := 2) rfl fun H3 e3 => q _ _ (by walk_at "ex") (.inr ⟨by omega, n1, .inr (.inr (.inl ⟨hl, hg, hn, rfl⟩))⟩)
  · refine ⟨true, T.m_NoPair, fun _ a ha => ?_, fun z => nomatch z⟩
    walk_at "nx"
    walk_at "go"
    exact u_word_of (j := 0) rfl fun H3 e3 => q _ _ (by walk_at "ex") (.inl ⟨z1, z2, .inl ⟨hg, rfl⟩⟩)
  · refine ⟨true, T.m_NoMove, fun _ a ha => ?_, fun z => nomatch z⟩
    walk_at "nx"
    walk_at "go"
    exact u_word_of (j := 2) rfl fun H3 e3 => q _ _ (by walk_at "ex") (.inl ⟨n0, by omega, .inr (.inl ⟨gx, gy, hn, rfl⟩)⟩)
  · refine ⟨true, T.m_TooLong, fun _ a ha => ?_, fun z => nomatch z⟩
    walk_at "nx"
    walk_at "go"
    exact u_word_of (j := 3) rfl fun H3 e3 => q _ _ (by walk_at "ex") (.inl ⟨n0, by omega, .inr (.inr (.inl ⟨gx, gy, hn, rfl⟩))⟩)

/-! ### law -/
def Rel0 (w : Str) (g : Prop) : Prop := (w = "done" ∧ g) ∨ (w = "pair" ∧ ¬ g)
def Rel1 (w : Str) (T : List (Int × Int)) : Prop := (w = "table" ∧ ¬ T.length ≤ 6) ∨ (w = "pair" ∧ T.length ≤ 6 ∧ ¬ GdT T) ∨ (w = "done" ∧ T.length ≤ 6 ∧ GdT T)
theorem k14_plain {i x y : Int} {T : List (Int × Int)} {w0 w1 w W W2 w2 : Str} (h0 : Rel0 w0 (Gd x ∧ Gd y)) (h1 : Rel1 w1 T) (ht : Tells i x y T w) (hW : W = if 7 < i then w1 else w0)
    (hW2 : W2 = if W = "done" ∧ (i = 2 ∨ i = 11) then ("move" : Str) else W) (hw2 : w2 = if W2 = "done" ∧ i = 7 ∧ w = "long" then ("done" : Str) else w) : w2 = W2 := by
  have n1 : ¬ (Str.ofString "pair" : Str) = Str.ofString "done" := by decide +kernel
  have n2 : ¬ (Str.ofString "move" : Str) = Str.ofString "done" := by decide +kernel
  have n3 : ¬ (Str.ofString "table" : Str) = Str.ofString "done" := by decide +kernel
  have n4 : ¬ (Str.ofString "done" : Str) = Str.ofString "long" := by decide +kernel
  rcases ht with ⟨i0, i1, ht⟩ | ⟨i0, i1, ht⟩
  · have c : ¬ 7 < i := by omega
    rw [if_neg c] at hW
    subst hW
    rcases h0 with ⟨e0, g0⟩ | ⟨e0, g0⟩
    · rcases ht with ⟨g, e⟩ | ⟨gx, gy, hi, e⟩ | ⟨gx, gy, hi, e⟩ | ⟨gx, gy, hi, e⟩
      · exact absurd g0 g
      · subst hi; rw [hw2, hW2, e, e0]; simp [n2]
      · subst hi; rw [hw2, hW2, e, e0]; simp
      · have : ¬ (i = 2 ∨ i = 11) := by omega
        rw [hw2, hW2, e, e0]; simp [n4, this]
    · rcases ht with ⟨g, e⟩ | ⟨gx, gy, hi, e⟩ | ⟨gx, gy, hi, e⟩ | ⟨gx, gy, hi, e⟩
      · rw [hw2, hW2, e, e0]; simp [n1]
      · exact absurd ⟨gx, gy⟩ g0
      · exact absurd ⟨gx, gy⟩ g0
      · exact absurd ⟨gx, gy⟩ g0
  · have c : 7 < i := by omega
    have c7 : ¬ i = 7 := by omega
    rw [if_pos c] at hW
    subst hW
    rw [if_neg (fun z => c7 z.2.1)] at hw2
    rcases h1 with ⟨e0, g0⟩ | ⟨e0, g0, g1⟩ | ⟨e0, g0, g1⟩
    · rcases ht with ⟨g, e⟩ | ⟨g, k, e⟩ | ⟨g, k, hi, e⟩ | ⟨g, k, hi, e⟩
      · rw [hw2, hW2, e, e0]; simp [n3]
      · exact absurd g g0
      · exact absurd g g0
      · exact absurd g g0
    · rcases ht with ⟨g, e⟩ | ⟨g, k, e⟩ | ⟨g, k, hi, e⟩ | ⟨g, k, hi, e⟩
      · exact absurd g0 g
      · rw [hw2, hW2, e, e0]; simp [n1]
      · exact absurd k g1
      · exact absurd k g1
    · rcases ht with ⟨g, e⟩ | ⟨g, k, e⟩ | ⟨g, k, hi, e⟩ | ⟨g, k, hi, e⟩
      · exact absurd g0 g
      · exact absurd g1 k
      · subst hi; rw [hw2, hW2, e, e0]; simp
      · have : ¬ (i = 2 ∨ i = 11) := by omega
        rw [hw2, hW2, e, e0]; simp [this]
def sp_law (K : PySem.W.Frag) : Sp := fun vs H Q _ => ∃ (a : Addr) (ns : List Int), vs = [.ref a] ∧ SqL K H a (ns.map V.int) ∧ ns.length ≤ 63 ∧ RetV (.bl true) H Q
theorem ok_law {fa : Addr} {fd : FuncData} (F : L2.Fun K "law" "law" s_law fa fd) (T : Txt K mg cs) (c__law_cell_at : Cl P w K mg base 1 "_law_cell_at" (sp__law_cell_at K)) (c__law_pair_by : Cl P w K mg base 2 "_law_pair_by" (sp__law_pair_by K)) (c__law_tried : Cl P w K mg base 6 "_law_tried" (sp__law_tried K)) : FnOk P w K mg base CX0 7 fa fd ["script"] (sp_law K) := by
  refine F.ok sc_law (fun vs H Q E h => by obtain ⟨_, _, rfl, _⟩ := h; rfl) (fun cdv A outer s H vs Q E hr h => ⟨_, (pss_cons (ps_set (i := 1) sc_law.nd rfl (.inl rfl) (pe_op op_add pe_int (pe_op op_mod (pe_cl c__law_cell_at hr (by decide) (by rfl) (pa_cons (pv 0) (pa_cons pe_int pa_nil))) pe_int)))
    (pss_cons (ps_set (i := 2) sc_law.nd rfl (.inl rfl) (pe_lst (pa_cons pe_str (pa_cons pe_str pa_nil))))
    (pss_cons (ps_setLc (i := 3) (own := [("k", 11)]) (g := gName 11) rfl sc_law.nd rfl rfl (sw_true rfl rfl rfl (by decide +kernel)) (pi_range1 (by rfl) T.b_range (pa_cons (pv 1) pa_nil)) (blkOk_by (own := [("k", 11)]) (N := ["script", "many", "due", "table", "at", "far", "pile", "pair", "which", "wanted", "found", "k"]) (sc := defScope s_law) (by decide +kernel)) (fun _ _ _ _ _ => (pg_name (i := 11) sc_law.nd rfl (.inl rfl))) (fun _ _ _ _ _ => pts_nil) (fun _ _ _ _ _ => (pe_cl c__law_pair_by hr (by decide) (by rfl) (pa_cons (pv 0) (pa_cons (pe_op op_add pe_int (pe_op op_mulW pe_int (pv 11))) pa_nil)))))
    (pss_cons (ps_set (i := 4) sc_law.nd rfl (.inl rfl) (pe_op op_mod (pe_cl c__law_cell_at hr (by decide) (by rfl) (pa_cons (pv 0) (pa_cons pe_int pa_nil))) (pv 1)))
    (pss_cut (ps_if (pt_cmpR op_eq (pe_op op_mod (pe_cl c__law_cell_at hr (by decide) (by rfl) (pa_cons (pv 0) (pa_cons pe_int pa_nil))) pe_int) pe_int (nomark _)) (pss_cons (ps_set (i := 5) sc_law.nd rfl (.inl rfl) (pe_op op_mod (pe_cl c__law_cell_at hr (by decide) (by rfl) (pa_cons (pv 0) (pa_cons pe_int pa_nil))) (pe_op op_pow pe_int pe_int)))
    (pss_cons (ps_set (i := 6) sc_law.nd rfl (.inl rfl) (pe_ix ix_list (pe_lst (pa_cons pe_int (pa_cons (pe_op op_sub (pe_un un_neg pe_int) (pv 5)) (pa_cons (pe_op op_add (pe_op op_pow pe_int pe_int) pe_int) (pa_cons (pe_op op_add (pe_op op_add (pe_op op_pow pe_int pe_int) pe_int) (pv 5)) pa_nil))))) (pe_op op_mod (pe_op op_fdivW (pe_cl c__law_cell_at hr (by decide) (by rfl) (pa_cons (pv 0) (pa_cons pe_int pa_nil))) pe_int) pe_int) (fun _ _ => rfl)))
    (pss_cons (ps_asg (pe_ix ix_list (pe_lst (pa_cons (pe_tup (pa_cons (pv 6) (pa_cons (pe_ix ix_tup (pe_ix ix_list (pv 3) (pv 4) (fun _ _ => rfl)) pe_int (fun _ _ => rfl)) pa_nil))) (pa_cons (pe_tup (pa_cons (pe_ix ix_tup (pe_ix ix_list (pv 3) (pv 4) (fun _ _ => rfl)) pe_int (fun _ _ => rfl)) (pa_cons (pv 6) pa_nil))) pa_nil))) (pe_op op_mod (pe_op op_fdivW (pe_cl c__law_cell_at hr (by decide) (by rfl) (pa_cons (pv 0) (pa_cons pe_int pa_nil))) pe_int) pe_int) (fun _ _ => rfl)) (pg_sub (pv 3) (pv 4) set_list))
    (pss_one (ps_set (i := 2) sc_law.nd rfl (.inl rfl) (pe_lst (pa_cons pe_str (pa_cons pe_str pa_nil)))))))) pss_nil)
    (pss_cons (ps_set (i := 7) sc_law.nd rfl (.inl rfl) (pe_ix ix_list (pv 3) (pv 4) (fun _ _ => rfl)))
    (pss_cut (ps_if (pt_cmpR op_eq (pe_op op_mod (pe_cl c__law_cell_at hr (by decide) (by rfl) (pa_cons (pv 0) (pa_cons pe_int pa_nil))) pe_int) pe_int (nomark _)) (pss_cons (ps_set (i := 3) sc_law.nd rfl (.inl rfl) (pe_op op_cat (pv 3) (pe_lc (own := [("k", 11)]) (g := gName 11) rfl sc_law.nd (pi_range1 (by rfl) T.b_range (pa_cons (pe_op op_add (pe_op op_sub pe_int (pv 1)) (pe_op op_mod (pe_op op_fdivW (pe_cl c__law_cell_at hr (by decide) (by rfl) (pa_cons (pv 0) (pa_cons pe_int pa_nil))) pe_int) pe_int)) pa_nil)) (blkOk_by (own := [("k", 11)]) (N := ["script", "many", "due", "table", "at", "far", "pile", "pair", "which", "wanted", "found", "k"]) (sc := defScope s_law) (by decide +kernel)) (fun _ _ _ _ _ => (pg_name (i := 11) sc_law.nd rfl (.inl rfl))) (fun _ _ _ _ _ => pts_nil) (fun _ _ _ _ _ => (pe_tup (pa_cons pe_int (pa_cons pe_int pa_nil)))))))
    (pss_one (ps_asg pe_str (pg_sub (pv 2) pe_int set_list)))) pss_nil)
    (pss_cons (ps_for PassesOwn.never rfl (pi_range1 (by rfl) T.b_range (pa_cons pe_int pa_nil)) (pg_name (i := 8) sc_law.nd rfl (.inl rfl)) (pss_cons (ps_set (i := 9) sc_law.nd rfl (.inl rfl) (pe_ix ix_list (pv 2) (pe_callTy call_intB (by rfl) T.b_int (by decide +kernel) (pa_cons (pe_cmpR op_gt (pv 8) pe_int (nomark _)) pa_nil)) (fun _ _ => rfl)))
    (pss_cut (ps_if (PW.pt (pw_and (pt_cmpR op_eq (pv 9) pe_str (nomark _)) (pw_and1 (PW.pt (pw_or (pt_cmpR op_eq (pv 8) pe_int (nomark _)) (pw_or1 (pt_cmpR op_eq (pv 8) pe_int (nomark _)))))))) (pss_one (ps_set (i := 9) sc_law.nd rfl (.inl rfl) pe_str)) pss_nil)
    (pss_cons (ps_set (i := 10) sc_law.nd rfl (.inl rfl) (pe_cl c__law_tried hr (by decide) (by rfl) (pa_cons (pv 8) (pa_cons (pv 7) (pa_cons (pe_callTy call_listS (by rfl) T.b_list (by decide +kernel) (pa_cons (pv 3) pa_nil)) pa_nil)))))
    (pss_cut (ps_if (PW.pt (pw_and (pt_cmpR op_eq (pv 9) pe_str (nomark _)) (pw_and (pt_cmpR op_eq (pv 8) pe_int (nomark _)) (pw_and1 (pt_cmpR op_eq (pv 10) pe_str (nomark _)))))) (pss_one (ps_set (i := 10) sc_law.nd rfl (.inl rfl) pe_str)) pss_nil)
    (pss_one (ps_if (pt_cmpR op_ne (pv 10) (pv 9) (nomark _)) (pss_one (ps_ret pe_bl)) pss_nil)))))))
    (pss_one (ps_ret pe_bl)))))))))), ?_⟩)
  obtain ⟨a, ns, rfl, hs, hn, q⟩ := h
  rw [show start ["script", "many", "due", "table", "at", "far", "pile", "pair", "which", "wanted", "found", "k"] [.ref a] = [some (.ref a), none, none, none, none, none, none, none, none, none, none, none] from rfl]
  walk_at "go"
  rename_i H1 e1 d0 H2 n2 e2 f2
  have c0 := Int.emod_nonneg (cellL ns (Int.toNat 0)) (by decide : (6 : Int) ≠ 0)
  have c1 := Int.emod_lt_of_pos (cellL ns (Int.toNat 0)) (by decide : (0 : Int) < 6)
  generalize cellL ns (Int.toNat 0) % 6 = many0 at *
  refine d_lcR (n := 1 + many0) (by walk_at "ea") (by omega) (fun i acc H' => ∃ T, Prs K H' acc T ∧ T.length = i ∧ GdT T)
    (fun D i acc acc' H1 H2 b h r => by obtain ⟨T, r1, r2, r3⟩ := r; exact ⟨T, r1.exb b h, r2, r3⟩) (fun _ => rfl) (fun H1 _ => ⟨[], trivial, rfl, (by intro p z; cases z)⟩) ?_ ?_
  · rintro i acc H' hi e hl ⟨T, r1, r2, r3⟩
    refine ⟨true, et_yes, fun _ H3 e3 => ?_, fun z => nomatch z⟩
    intro Q' q'
    walk_at "nx"
    walk_at "go"
    rename_i v H4 x y e4 hp gx gy
    refine q' _ _ (by walk_at "ex") ⟨T ++ [(x, y)], ?_, by simp; omega, ?_⟩
    · exact ((r1.mono e3).mono (by walk_at "ex")).app (Prs.one (by walk_at "pr"))
    · intro p hp
      rcases List.mem_append.mp hp with hp | hp
      · exact r3 p hp
      · rw [List.mem_singleton.mp hp]
        exact ⟨gx, gy⟩
  · rintro t0 H3 acc n3 e3 f3 ⟨T0, r3, l3, hG0⟩
    walk_at "nx"
    walk_at "go"
    rename_i H4 e4
    have a0 := Int.emod_nonneg (cellL ns (Int.toNat 20)) (show 1 + many0 ≠ 0 by omega)
    have a1 := Int.emod_lt_of_pos (cellL ns (Int.toNat 20)) (show 0 < 1 + many0 by omega)
    obtain ⟨m, hm⟩ := Int.eq_ofNat_of_zero_le a0
    rw [hm] at a1
    rw [hm]
    have hm2 : m < T0.length := by omega
    have hk0 : T0[m]? = some (T0[m]) := List.getElem?_eq_getElem hm2
    generalize T0[m] = p0 at hk0
    obtain ⟨g1, g2⟩ := hG0 p0 (List.mem_of_getElem? hk0)
    have ft : H4 t0 = some (.lst acc) := e4 _ _ f3
    have tb4 : Tb K H4 (.ref t0) T0 := ⟨t0, acc, rfl, sq_of ft, r3.mono e4⟩
    have nt : H t0 = none := fresh_back (by walk_at "ex") n3
    have nd : H d0 = none := fresh_back (by walk_at "ex") n2
    -- perhaps a bad pile
    refine ⟨fun σ' H' => ∃ d w T ws z5 z6, σ' = [some (.ref a), some (.int (1 + many0)), some (.ref d), some (.ref t0), some (.int (m : Int)), z5, z6, none, none, none, none, none] ∧ Ex H H' ∧ H d = none ∧ H' d = some (.lst [.str w, .str w]) ∧ H' t0 = some (.lst ws) ∧ Prs K H' ws T ∧ T.length = T0.length ∧
      ((w = "done" ∧ GdT T) ∨ (w = "pair" ∧ ∃ p, T[m]? = some p ∧ ¬ (Gd p.1 ∧ Gd p.2))), ?_, ?_⟩
    · walk_at "if"
      · intro hb H5 e5
        walk_at "go"
        rename_i H6 e6 lp H7 n7 e7 f7 H8 e8
        have fr0 := Int.emod_nonneg (cellL ns (Int.toNat 22)) (by decide : (100000000000000000000 : Int) ≠ 0)
        generalize cellL ns (Int.toNat 22) % 100000000000000000000 = far at *
        have k0 := Int.emod_nonneg (cellL ns (Int.toNat 21) / 3) (by decide : (4 : Int) ≠ 0)
        have k1 := Int.emod_lt_of_pos (cellL ns (Int.toNat 21) / 3) (by decide : (0 : Int) < 4)
        generalize cellL ns (Int.toNat 21) / 3 % 4 = kind at *
        obtain ⟨pile, hat, hbad⟩ : ∃ pile, atI [V.int 0, V.int (-1 - far), V.int (1000000000000000000000000000000 + 1), V.int (1000000000000000000000000000000 + 1 + far)] kind = some (.int pile) ∧ ¬ Gd pile := by
          have hk : kind = 0 ∨ kind = 1 ∨ kind = 2 ∨ kind = 3 := by omega
          rcases hk with e | e | e | e <;> rw [e]
          · exact ⟨_, rfl, fun z => by have := z.1; omega⟩
          · exact ⟨_, rfl, fun z => by have := z.1; omega⟩
          · exact ⟨_, rfl, fun z => by have := z.2; omega⟩
          · exact ⟨_, rfl, fun z => by have := z.2; omega⟩
        refine d_ixL (by walk_at "sl") hat ?_
        clear hat
        walk_at "go"
        rename_i v1 hv1 t1 H9 e9 hp1 v2 hv2 t2 H10 e10 hp2 l2 H11 n11 e11 f11 H12 e12
        have j0 := Int.emod_nonneg (cellL ns (Int.toNat 21) / 12) (by decide : (2 : Int) ≠ 0)
        have j1 := Int.emod_lt_of_pos (cellL ns (Int.toNat 21) / 12) (by decide : (0 : Int) < 2)
        generalize cellL ns (Int.toNat 21) / 12 % 2 = side at *
        obtain ⟨tv, b1, b2, hat, hpb, hbb⟩ : ∃ tv b1 b2, atI [t1, t2] side = some tv ∧ Pr K H12 tv b1 b2 ∧ ¬ (Gd b1 ∧ Gd b2) := by
          have hk : side = 0 ∨ side = 1 := by omega
          rcases hk with e | e <;> rw [e]
          · exact ⟨_, _, _, rfl, (show Pr K H9 t1 _ _ by walk_at "pr").mono (by walk_at "ex"), fun z => hbad z.1⟩
          · exact ⟨_, _, _, rfl, (show Pr K H10 t2 _ _ by walk_at "pr").mono (by walk_at "ex"), fun z => hbad z.2⟩
        refine d_ixL (by walk_at "sl") hat ?_
        walk_at "go"
        have ft12 : H12 t0 = some (.lst acc) := by walk_at "hl"
        have accl := r3.len
        refine d_rSetL ft12 (j := m) (ixN_nat (by omega)) fun H13 b13 f13 => ?_
        walk_at "nx"
        walk_at "go"
        rename_i d2 H14 n14 e14 f14
        have ex13 : Ex H H13 := Exb.base b13 nt (by walk_at "ex")
        refine ⟨d2, "pair", T0.set m (b1, b2), acc.set m tv, _, _, rfl, by walk_at "ex", fresh_back ex13 n14, f14, e14 _ _ f13, ?_, by simp, .inr ⟨rfl, (b1, b2), by rw [List.getElem?_set_self hm2], hbb⟩⟩
        have r12 : Prs K H12 acc T0 := r3.mono (by walk_at "ex")
        exact ((r12.set m hpb).exb b13 ft12).mono e14
      · intro hb H5 e5
        walk_at "go"
        exact ⟨d0, "done", T0, acc, _, _, rfl, by walk_at "ex", nd, by walk_at "hl", by walk_at "hl", r3.mono (by walk_at "ex"), rfl, .inl ⟨rfl, hG0⟩⟩
    · clear tb4 hk0 g1 g2
      rintro σ' H5 ⟨d, w, T, ws, z5, z6, rfl, e5, nd5, fd5, ft5, r5, l5, hw⟩
      have tb5 : Tb K H5 (.ref t0) T := ⟨t0, ws, rfl, sq_of ft5, r5⟩
      have hm5 : m < T.length := by omega
      have hk5 : T[m]? = some (T[m]) := List.getElem?_eq_getElem hm5
      generalize T[m] = p5 at hk5
      walk_at "go"
      rename_i v hv
      have w5 := r5.len
      refine ⟨fun σ' H' => ∃ d t v x y T w0 w1 z5 z6, σ' = [some (.ref a), some (.int (1 + many0)), some (.ref d), some t, some (.int (m : Int)), z5, z6, some v, none, none, none, none] ∧ Ex H H' ∧ H' d = some (.lst [.str w0, .str w1]) ∧ Tb K H' t T ∧ Pr K H' v x y ∧ Rel0 w0 (Gd x ∧ Gd y) ∧ Rel1 w1 T, ?_, ?_⟩
      · have hr0 : Rel0 w (Gd p5.1 ∧ Gd p5.2) := by
          rcases hw with ⟨h1, h2⟩ | ⟨h1, p, h2, h3⟩
          · exact .inl ⟨h1, h2 p5 (List.mem_of_getElem? hk5)⟩
          · rw [hk5] at h2
            cases h2
            exact .inr ⟨h1, h3⟩
        walk_at "if"
        · intro hb H6 e6
          walk_at "go"
          have j0 := Int.emod_nonneg (cellL ns (Int.toNat 23) / 3) (by decide : (3 : Int) ≠ 0)
          have j1 := Int.emod_lt_of_pos (cellL ns (Int.toNat 23) / 3) (by decide : (0 : Int) < 3)
          refine d_lcR (n := 7 - (1 + many0) + cellL ns (Int.toNat 23) / 3 % 3) (by walk_at "ea") (by omega) (fun i acc H' => ∃ T, Prs K H' acc T ∧ T.length = i)
            (fun D i acc acc' H1 H2 b h r => by obtain ⟨T, r1, r2⟩ := r; exact ⟨T, r1.exb b h, r2⟩) (fun _ => rfl) (fun H1 _ => ⟨[], trivial, rfl⟩) ?_ ?_
          · rintro i acc2 H' hi e hl ⟨U, u1, u2⟩
            refine ⟨true, et_yes, fun _ H3 e3 => ?_, fun z => nomatch z⟩
            intro Q' q'
            walk_at "nx"
            walk_at "go"
            rename_i tv H8 e8 hp8
            refine q' _ _ (by walk_at "ex") ⟨U ++ [(2, 5)], ?_, by simp; omega⟩
            exact ((u1.mono e3).mono (by walk_at "ex")).app (Prs.one (by walk_at "pr"))
          · rintro l7 H7 acc2 n7 e7 f7 ⟨U, u1, u2⟩
            have lu := u1.len
            walk_at "go"
            rename_i t8 H8 n8 e8 f8
            have fd8 : H8 d = some (.lst [.str w, .str w]) := by walk_at "hl"
            refine d_rSetL fd8 (j := 1) (by unfold ixN; simp) fun H9 b9 f9 => ?_
            have ntd : t8 ≠ d := fun z => by
              have : H7 d = some (.lst [.str w, .str w]) := by walk_at "hl"
              rw [z, this] at n8
              cases n8
            refine ⟨d, .ref t8, v, p5.1, p5.2, T ++ U, w, "table", _, _, rfl, Exb.base b9 nd5 (by walk_at "ex"), f9, ⟨t8, _, rfl, sq_of (b9 _ _ f8 ntd), ?_⟩, Exb.pr b9 fd8 (by walk_at "pr"), hr0, .inl ⟨rfl, by rw [List.length_append]; omega⟩⟩
            exact ((r5.mono (by walk_at "ex")).app (u1.mono (by walk_at "ex"))).exb b9 fd8
        · intro hb H6 e6
          walk_at "go"
          refine ⟨d, .ref t0, v, p5.1, p5.2, T, w, w, _, _, rfl, by walk_at "ex", by walk_at "hl", by walk_at "tb", by walk_at "pr", hr0, ?_⟩
          rcases hw with ⟨h1, h2⟩ | ⟨h1, p, h2, h3⟩
          · exact .inr (.inr ⟨h1, by omega, h2⟩)
          · exact .inr (.inl ⟨h1, by omega, fun z => h3 (z p (List.mem_of_getElem? h2))⟩)
      · clear hv tb5 fd5 ft5 r5 hw hk5
        rintro σ' H6 ⟨d, t, v, x, y, T, w0, w1, z5, z6, rfl, e6, fd6, tb6, hp6, hr0, hr1⟩
        walk_at "go"
        refine d_for1 (n := 13) (by walk_at "ea") (by decide) (fun i σ' H' => Ex H6 H' ∧ ∃ z8 z9 z10, σ' = [some (.ref a), some (.int (1 + many0)), some (.ref d), some t, some (.int (m : Int)), z5, z6, some v, z8, z9, z10, none])
          (fun H7 e7 => ⟨e7, _, _, _, rfl⟩) ?_ ?_
        · rintro i σ' H7 hi ⟨e7, z8, z9, z10, rfl⟩
          walk_at "nx"
          walk_at "go"
          refine d_ixL (v := .str (if 7 < (i : Int) then w1 else w0)) (xs := [.str w0, .str w1]) (by walk_at "sl") ?_ ?_
          · by_cases c : 7 < (i : Int)
            · simp only [c, decide_true, if_true]
              rfl
            · simp only [c, decide_false, if_false]
              rfl
          generalize hW : (if 7 < (i : Int) then w1 else w0) = W
          walk_at "nx"
          refine ⟨fun σ' H' => ∃ W2, σ' = [some (.ref a), some (.int (1 + many0)), some (.ref d), some t, some (.int (m : Int)), z5, z6, some v, some (.int (i : Int)), some (.str W2), z10, none] ∧ Ex H6 H' ∧ W2 = (if W = "done" ∧ ((i : Int) = 2 ∨ (i : Int) = 11) then ("move" : Str) else W), ?_, ?_⟩
          · walk_at "if"
            · intro hb H8 e8
              simp only [Bool.and_eq_true, Bool.or_eq_true, decide_eq_true_eq, str_tl] at hb
              walk_at "go"
              exact ⟨_, rfl, by walk_at "ex", by rw [if_pos hb]⟩
            · intro hb H8 e8
              simp only [str_tl] at hb
              have hb2 : ¬ (W = "done" ∧ ((i : Int) = 2 ∨ (i : Int) = 11)) := fun z => by
                have : (decide (W = "done") && (decide ((i : Int) = 2) || decide ((i : Int) = 11))) = true := by
                  simp only [Bool.and_eq_true, Bool.or_eq_true, decide_eq_true_eq]
                  exact z
                rw [this] at hb
                cases hb
              walk_at "go"
              exact ⟨_, rfl, by walk_at "ex", by rw [if_neg hb2]⟩
          · rintro σ' H8 ⟨W2, rfl, e8, hW2⟩
            walk_at "go"
            rename_i lt H9 ws9 n9 e9 f9 r9 tb9
            refine ⟨(i : Int), v, x, y, .ref lt, T, rfl, by walk_at "pr", by walk_at "tb", by omega, by omega, fun w H10 e10 tells => ?_⟩
            walk_at "nx"
            refine ⟨fun σ' H' => ∃ w2, σ' = [some (.ref a), some (.int (1 + many0)), some (.ref d), some t, some (.int (m : Int)), z5, z6, some v, some (.int (i : Int)), some (.str W2), some (.str w2), none] ∧ Ex H6 H' ∧ w2 = (if W2 = "done" ∧ (i : Int) = 7 ∧ w = "long" then ("done" : Str) else w), ?_, ?_⟩
            · walk_at "if"
              · intro hb H11 e11
                simp only [Bool.and_eq_true, Bool.or_eq_true, decide_eq_true_eq, str_tl] at hb
                walk_at "go"
                exact ⟨_, rfl, by walk_at "ex", by rw [if_pos hb]⟩
              · intro hb H11 e11
                simp only [str_tl] at hb
                have hb2 : ¬ (W2 = "done" ∧ (i : Int) = 7 ∧ w = "long") := fun z => by
                  have : (decide (W2 = "done") && (decide ((i : Int) = 7) && decide (w = "long"))) = true := by
                    simp only [Bool.and_eq_true, decide_eq_true_eq]
                    exact z
                  rw [this] at hb
                  cases hb
                walk_at "go"
                exact ⟨_, rfl, by walk_at "ex", by rw [if_neg hb2]⟩
            · rintro σ' H11 ⟨w2, rfl, e11, hw2⟩
              have heq := k14_plain hr0 hr1 tells hW.symm hW2 hw2
              walk_at "if"
              · intro hb
                simp [heq] at hb
              · intro hb H12 e12
                walk_at "go"
                exact ⟨by walk_at "ex", _, _, _, rfl⟩
        · rintro σ' H7 ⟨e7, z8, z9, z10, rfl⟩
          walk_at "go"
          exact q _ (by walk_at "ex")

end
end Tk
namespace Tk
open PySem PySem.Spec PyProof.Rows L2 Evl
theorem all_mk {P : Program} {w : World} {K : PySem.W.Frag} {h : Heap} {mg : Str → Option Value} {fa : Addr} (X : K.In h) (G : h.Ns mainGlobals mg) (hfa : mg "law" = some (.ref fa))
    {f0 : Addr} {od0 an0 : Option Addr} {sl0 : Array (Option Value)} {oc0 kV0 dc0 pm0 cd0 ct0 : Value}
    {f1 : Addr} {od1 an1 : Option Addr} {sl1 : Array (Option Value)} {oc1 kV1 dc1 pm1 cd1 ct1 : Value}
    {f2 : Addr} {od2 an2 : Option Addr} {sl2 : Array (Option Value)} {oc2 kV2 dc2 pm2 cd2 ct2 : Value}
    {f3 : Addr} {od3 an3 : Option Addr} {sl3 : Array (Option Value)} {oc3 kV3 dc3 pm3 cd3 ct3 : Value}
    {f4 : Addr} {od4 an4 : Option Addr} {sl4 : Array (Option Value)} {oc4 kV4 dc4 pm4 cd4 ct4 : Value}
    {f5 : Addr} {od5 an5 : Option Addr} {sl5 : Array (Option Value)} {oc5 kV5 dc5 pm5 cd5 ct5 : Value}
    {f6 : Addr} {od6 an6 : Option Addr} {sl6 : Array (Option Value)} {oc6 kV6 dc6 pm6 cd6 ct6 : Value}
    {f7 : Addr} {od7 an7 : Option Addr} {sl7 : Array (Option Value)} {oc7 kV7 dc7 pm7 cd7 ct7 : Value}
    {f8 : Addr} {od8 an8 : Option Addr} {sl8 : Array (Option Value)} {oc8 kV8 dc8 pm8 cd8 ct8 : Value}
    {f9 : Addr} {od9 an9 : Option Addr} {sl9 : Array (Option Value)} {oc9 kV9 dc9 pm9 cd9 ct9 : Value}
    {f10 : Addr} {od10 an10 : Option Addr} {sl10 : Array (Option Value)} {oc10 kV10 dc10 pm10 cd10 ct10 : Value}
    {f11 : Addr} {od11 an11 : Option Addr} {sl11 : Array (Option Value)} {oc11 kV11 dc11 pm11 cd11 ct11 : Value}
    {f12 : Addr} {od12 an12 : Option Addr} {sl12 : Array (Option Value)} {oc12 kV12 dc12 pm12 cd12 ct12 : Value}
    {f13 : Addr} {od13 an13 : Option Addr} {sl13 : Array (Option Value)} {oc13 kV13 dc13 pm13 cd13 ct13 : Value}
    {f14 : Addr} {od14 an14 : Option Addr} {sl14 : Array (Option Value)} {oc14 kV14 dc14 pm14 cd14 ct14 : Value}
    {f15 : Addr} {od15 an15 : Option Addr} {sl15 : Array (Option Value)} {oc15 kV15 dc15 pm15 cd15 ct15 : Value}
    {f16 : Addr} {od16 an16 : Option Addr} {sl16 : Array (Option Value)} {oc16 kV16 dc16 pm16 cd16 ct16 : Value}
    {f17 : Addr} {od17 an17 : Option Addr} {sl17 : Array (Option Value)} {oc17 kV17 dc17 pm17 cd17 ct17 : Value}
    {f18 : Addr} {od18 an18 : Option Addr} {sl18 : Array (Option Value)} {oc18 kV18 dc18 pm18 cd18 ct18 : Value}
    {f19 : Addr} {od19 an19 : Option Addr} {sl19 : Array (Option Value)} {oc19 kV19 dc19 pm19 cd19 ct19 : Value}
    {f20 : Addr} {od20 an20 : Option Addr} {sl20 : Array (Option Value)} {oc20 kV20 dc20 pm20 cd20 ct20 : Value}
    {f21 : Addr} {od21 an21 : Option Addr} {sl21 : Array (Option Value)} {oc21 kV21 dc21 pm21 cd21 ct21 : Value}
    {f22 : Addr} {od22 an22 : Option Addr} {sl22 : Array (Option Value)} {oc22 kV22 dc22 pm22 cd22 ct22 : Value}
    {f23 : Addr} {od23 an23 : Option Addr} {sl23 : Array (Option Value)} {oc23 kV23 dc23 pm23 cd23 ct23 : Value}
    {f24 : Addr} {od24 an24 : Option Addr} {sl24 : Array (Option Value)} {oc24 kV24 dc24 pm24 cd24 ct24 : Value}
    {f25 : Addr} {od25 an25 : Option Addr} {sl25 : Array (Option Value)} {oc25 kV25 dc25 pm25 cd25 ct25 : Value}
    {f26 : Addr} {od26 an26 : Option Addr} {sl26 : Array (Option Value)} {oc26 kV26 dc26 pm26 cd26 ct26 : Value}
    {f27 : Addr} {od27 an27 : Option Addr} {sl27 : Array (Option Value)} {oc27 kV27 dc27 pm27 cd27 ct27 : Value}
    {f28 : Addr} {od28 an28 : Option Addr} {sl28 : Array (Option Value)} {oc28 kV28 dc28 pm28 cd28 ct28 : Value}
    {t_GREATEST : Tok}
    {t_MOST : Tok}
    {t_MOST_MOVES : Tok}
    {C_TakeError C_NoPair C_NoTable C_NoMove C_TooLong C_NoNote : Addr}
    (a0 : PySem.W.nsIn K mainGlobals "asked_pair" = some (some (.ref f0)))
    (l0 : K.lookup f0 = some ⟨oc0, od0, .func (PySem.W.fnOf "asked_pair" "asked_pair" (defArgs s_asked_pair) (defBody s_asked_pair) (defScope s_asked_pair) .none kV0 dc0 pm0 an0 cd0 ct0), sl0⟩)
    (c0 : PySem.W.codeIn K cd0 "asked_pair" = true) (k0 : PySem.W.keepIn K (.ref f0) = true)
    (a1 : PySem.W.nsIn K mainGlobals "quotients_of" = some (some (.ref f1)))
    (l1 : K.lookup f1 = some ⟨oc1, od1, .func (PySem.W.fnOf "quotients_of" "quotients_of" (defArgs s_quotients_of) (defBody s_quotients_of) (defScope s_quotients_of) .none kV1 dc1 pm1 an1 cd1 ct1), sl1⟩)
    (c1 : PySem.W.codeIn K cd1 "quotients_of" = true) (k1 : PySem.W.keepIn K (.ref f1) = true)
    (a2 : PySem.W.nsIn K mainGlobals "moves_of" = some (some (.ref f2)))
    (l2 : K.lookup f2 = some ⟨oc2, od2, .func (PySem.W.fnOf "moves_of" "moves_of" (defArgs s_moves_of) (defBody s_moves_of) (defScope s_moves_of) .none kV2 dc2 pm2 an2 cd2 ct2), sl2⟩)
    (c2 : PySem.W.codeIn K cd2 "moves_of" = true) (k2 : PySem.W.keepIn K (.ref f2) = true)
    (a3 : PySem.W.nsIn K mainGlobals "behind" = some (some (.ref f3)))
    (l3 : K.lookup f3 = some ⟨oc3, od3, .func (PySem.W.fnOf "behind" "behind" (defArgs s_behind) (defBody s_behind) (defScope s_behind) .none kV3 dc3 pm3 an3 cd3 ct3), sl3⟩)
    (c3 : PySem.W.codeIn K cd3 "behind" = true) (k3 : PySem.W.keepIn K (.ref f3) = true)
    (a4 : PySem.W.nsIn K mainGlobals "worth_of" = some (some (.ref f4)))
    (l4 : K.lookup f4 = some ⟨oc4, od4, .func (PySem.W.fnOf "worth_of" "worth_of" (defArgs s_worth_of) (defBody s_worth_of) (defScope s_worth_of) .none kV4 dc4 pm4 an4 cd4 ct4), sl4⟩)
    (c4 : PySem.W.codeIn K cd4 "worth_of" = true) (k4 : PySem.W.keepIn K (.ref f4) = true)
    (a5 : PySem.W.nsIn K mainGlobals "added" = some (some (.ref f5)))
    (l5 : K.lookup f5 = some ⟨oc5, od5, .func (PySem.W.fnOf "added" "added" (defArgs s_added) (defBody s_added) (defScope s_added) .none kV5 dc5 pm5 an5 cd5 ct5), sl5⟩)
    (c5 : PySem.W.codeIn K cd5 "added" = true) (k5 : PySem.W.keepIn K (.ref f5) = true)
    (a6 : PySem.W.nsIn K mainGlobals "_law_cell_at" = some (some (.ref f6)))
    (l6 : K.lookup f6 = some ⟨oc6, od6, .func (PySem.W.fnOf "_law_cell_at" "_law_cell_at" (defArgs s__law_cell_at) (defBody s__law_cell_at) (defScope s__law_cell_at) .none kV6 dc6 pm6 an6 cd6 ct6), sl6⟩)
    (c6 : PySem.W.codeIn K cd6 "_law_cell_at" = true) (k6 : PySem.W.keepIn K (.ref f6) = true)
    (a7 : PySem.W.nsIn K mainGlobals "_law_word_of" = some (some (.ref f7)))
    (l7 : K.lookup f7 = some ⟨oc7, od7, .func (PySem.W.fnOf "_law_word_of" "_law_word_of" (defArgs s__law_word_of) (defBody s__law_word_of) (defScope s__law_word_of) .none kV7 dc7 pm7 an7 cd7 ct7), sl7⟩)
    (c7 : PySem.W.codeIn K cd7 "_law_word_of" = true) (k7 : PySem.W.keepIn K (.ref f7) = true)
    (a8 : PySem.W.nsIn K mainGlobals "_law_pile_by" = some (some (.ref f8)))
    (l8 : K.lookup f8 = some ⟨oc8, od8, .func (PySem.W.fnOf "_law_pile_by" "_law_pile_by" (defArgs s__law_pile_by) (defBody s__law_pile_by) (defScope s__law_pile_by) .none kV8 dc8 pm8 an8 cd8 ct8), sl8⟩)
    (c8 : PySem.W.codeIn K cd8 "_law_pile_by" = true) (k8 : PySem.W.keepIn K (.ref f8) = true)
    (a9 : PySem.W.nsIn K mainGlobals "quotients" = some (some (.ref f9)))
    (l9 : K.lookup f9 = some ⟨oc9, od9, .func (PySem.W.fnOf "quotients" "quotients" (defArgs s_quotients) (defBody s_quotients) (defScope s_quotients) .none kV9 dc9 pm9 an9 cd9 ct9), sl9⟩)
    (c9 : PySem.W.codeIn K cd9 "quotients" = true) (k9 : PySem.W.keepIn K (.ref f9) = true)
    (a10 : PySem.W.nsIn K mainGlobals "moves" = some (some (.ref f10)))
    (l10 : K.lookup f10 = some ⟨oc10, od10, .func (PySem.W.fnOf "moves" "moves" (defArgs s_moves) (defBody s_moves) (defScope s_moves) .none kV10 dc10 pm10 an10 cd10 ct10), sl10⟩)
    (c10 : PySem.W.codeIn K cd10 "moves" = true) (k10 : PySem.W.keepIn K (.ref f10) = true)
    (a11 : PySem.W.nsIn K mainGlobals "taken" = some (some (.ref f11)))
    (l11 : K.lookup f11 = some ⟨oc11, od11, .func (PySem.W.fnOf "taken" "taken" (defArgs s_taken) (defBody s_taken) (defScope s_taken) .none kV11 dc11 pm11 an11 cd11 ct11), sl11⟩)
    (c11 : PySem.W.codeIn K cd11 "taken" = true) (k11 : PySem.W.keepIn K (.ref f11) = true)
    (a12 : PySem.W.nsIn K mainGlobals "worth" = some (some (.ref f12)))
    (l12 : K.lookup f12 = some ⟨oc12, od12, .func (PySem.W.fnOf "worth" "worth" (defArgs s_worth) (defBody s_worth) (defScope s_worth) .none kV12 dc12 pm12 an12 cd12 ct12), sl12⟩)
    (c12 : PySem.W.codeIn K cd12 "worth" = true) (k12 : PySem.W.keepIn K (.ref f12) = true)
    (a13 : PySem.W.nsIn K mainGlobals "leading_of" = some (some (.ref f13)))
    (l13 : K.lookup f13 = some ⟨oc13, od13, .func (PySem.W.fnOf "leading_of" "leading_of" (defArgs s_leading_of) (defBody s_leading_of) (defScope s_leading_of) .none kV13 dc13 pm13 an13 cd13 ct13), sl13⟩)
    (c13 : PySem.W.codeIn K cd13 "leading_of" = true) (k13 : PySem.W.keepIn K (.ref f13) = true)
    (a14 : PySem.W.nsIn K mainGlobals "asked_table" = some (some (.ref f14)))
    (l14 : K.lookup f14 = some ⟨oc14, od14, .func (PySem.W.fnOf "asked_table" "asked_table" (defArgs s_asked_table) (defBody s_asked_table) (defScope s_asked_table) .none kV14 dc14 pm14 an14 cd14 ct14), sl14⟩)
    (c14 : PySem.W.codeIn K cd14 "asked_table" = true) (k14 : PySem.W.keepIn K (.ref f14) = true)
    (a15 : PySem.W.nsIn K mainGlobals "_law_pair_by" = some (some (.ref f15)))
    (l15 : K.lookup f15 = some ⟨oc15, od15, .func (PySem.W.fnOf "_law_pair_by" "_law_pair_by" (defArgs s__law_pair_by) (defBody s__law_pair_by) (defScope s__law_pair_by) .none kV15 dc15 pm15 an15 cd15 ct15), sl15⟩)
    (c15 : PySem.W.codeIn K cd15 "_law_pair_by" = true) (k15 : PySem.W.keepIn K (.ref f15) = true)
    (a16 : PySem.W.nsIn K mainGlobals "leading" = some (some (.ref f16)))
    (l16 : K.lookup f16 = some ⟨oc16, od16, .func (PySem.W.fnOf "leading" "leading" (defArgs s_leading) (defBody s_leading) (defScope s_leading) .none kV16 dc16 pm16 an16 cd16 ct16), sl16⟩)
    (c16 : PySem.W.codeIn K cd16 "leading" = true) (k16 : PySem.W.keepIn K (.ref f16) = true)
    (a17 : PySem.W.nsIn K mainGlobals "together" = some (some (.ref f17)))
    (l17 : K.lookup f17 = some ⟨oc17, od17, .func (PySem.W.fnOf "together" "together" (defArgs s_together) (defBody s_together) (defScope s_together) .none kV17 dc17 pm17 an17 cd17 ct17), sl17⟩)
    (c17 : PySem.W.codeIn K cd17 "together" = true) (k17 : PySem.W.keepIn K (.ref f17) = true)
    (a18 : PySem.W.nsIn K mainGlobals "moved" = some (some (.ref f18)))
    (l18 : K.lookup f18 = some ⟨oc18, od18, .func (PySem.W.fnOf "moved" "moved" (defArgs s_moved) (defBody s_moved) (defScope s_moved) .none kV18 dc18 pm18 an18 cd18 ct18), sl18⟩)
    (c18 : PySem.W.codeIn K cd18 "moved" = true) (k18 : PySem.W.keepIn K (.ref f18) = true)
    (a19 : PySem.W.nsIn K mainGlobals "shown" = some (some (.ref f19)))
    (l19 : K.lookup f19 = some ⟨oc19, od19, .func (PySem.W.fnOf "shown" "shown" (defArgs s_shown) (defBody s_shown) (defScope s_shown) .none kV19 dc19 pm19 an19 cd19 ct19), sl19⟩)
    (c19 : PySem.W.codeIn K cd19 "shown" = true) (k19 : PySem.W.keepIn K (.ref f19) = true)
    (a20 : PySem.W.nsIn K mainGlobals "shortest" = some (some (.ref f20)))
    (l20 : K.lookup f20 = some ⟨oc20, od20, .func (PySem.W.fnOf "shortest" "shortest" (defArgs s_shortest) (defBody s_shortest) (defScope s_shortest) .none kV20 dc20 pm20 an20 cd20 ct20), sl20⟩)
    (c20 : PySem.W.codeIn K cd20 "shortest" = true) (k20 : PySem.W.keepIn K (.ref f20) = true)
    (a21 : PySem.W.nsIn K mainGlobals "longest" = some (some (.ref f21)))
    (l21 : K.lookup f21 = some ⟨oc21, od21, .func (PySem.W.fnOf "longest" "longest" (defArgs s_longest) (defBody s_longest) (defScope s_longest) .none kV21 dc21 pm21 an21 cd21 ct21), sl21⟩)
    (c21 : PySem.W.codeIn K cd21 "longest" = true) (k21 : PySem.W.keepIn K (.ref f21) = true)
    (a22 : PySem.W.nsIn K mainGlobals "wins" = some (some (.ref f22)))
    (l22 : K.lookup f22 = some ⟨oc22, od22, .func (PySem.W.fnOf "wins" "wins" (defArgs s_wins) (defBody s_wins) (defScope s_wins) .none kV22 dc22 pm22 an22 cd22 ct22), sl22⟩)
    (c22 : PySem.W.codeIn K cd22 "wins" = true) (k22 : PySem.W.keepIn K (.ref f22) = true)
    (a23 : PySem.W.nsIn K mainGlobals "winning" = some (some (.ref f23)))
    (l23 : K.lookup f23 = some ⟨oc23, od23, .func (PySem.W.fnOf "winning" "winning" (defArgs s_winning) (defBody s_winning) (defScope s_winning) .none kV23 dc23 pm23 an23 cd23 ct23), sl23⟩)
    (c23 : PySem.W.codeIn K cd23 "winning" = true) (k23 : PySem.W.keepIn K (.ref f23) = true)
    (a24 : PySem.W.nsIn K mainGlobals "plays" = some (some (.ref f24)))
    (l24 : K.lookup f24 = some ⟨oc24, od24, .func (PySem.W.fnOf "plays" "plays" (defArgs s_plays) (defBody s_plays) (defScope s_plays) .none kV24 dc24 pm24 an24 cd24 ct24), sl24⟩)
    (c24 : PySem.W.codeIn K cd24 "plays" = true) (k24 : PySem.W.keepIn K (.ref f24) = true)
    (a25 : PySem.W.nsIn K mainGlobals "_law_of_pair" = some (some (.ref f25)))
    (l25 : K.lookup f25 = some ⟨oc25, od25, .func (PySem.W.fnOf "_law_of_pair" "_law_of_pair" (defArgs s__law_of_pair) (defBody s__law_of_pair) (defScope s__law_of_pair) .none kV25 dc25 pm25 an25 cd25 ct25), sl25⟩)
    (c25 : PySem.W.codeIn K cd25 "_law_of_pair" = true) (k25 : PySem.W.keepIn K (.ref f25) = true)
    (a26 : PySem.W.nsIn K mainGlobals "_law_of_table" = some (some (.ref f26)))
    (l26 : K.lookup f26 = some ⟨oc26, od26, .func (PySem.W.fnOf "_law_of_table" "_law_of_table" (defArgs s__law_of_table) (defBody s__law_of_table) (defScope s__law_of_table) .none kV26 dc26 pm26 an26 cd26 ct26), sl26⟩)
    (c26 : PySem.W.codeIn K cd26 "_law_of_table" = true) (k26 : PySem.W.keepIn K (.ref f26) = true)
    (a27 : PySem.W.nsIn K mainGlobals "_law_tried" = some (some (.ref f27)))
    (l27 : K.lookup f27 = some ⟨oc27, od27, .func (PySem.W.fnOf "_law_tried" "_law_tried" (defArgs s__law_tried) (defBody s__law_tried) (defScope s__law_tried) .none kV27 dc27 pm27 an27 cd27 ct27), sl27⟩)
    (c27 : PySem.W.codeIn K cd27 "_law_tried" = true) (k27 : PySem.W.keepIn K (.ref f27) = true)
    (a28 : PySem.W.nsIn K mainGlobals "law" = some (some (.ref f28)))
    (l28 : K.lookup f28 = some ⟨oc28, od28, .func (PySem.W.fnOf "law" "law" (defArgs s_law) (defBody s_law) (defScope s_law) .none kV28 dc28 pm28 an28 cd28 ct28), sl28⟩)
    (c28 : PySem.W.codeIn K cd28 "law" = true) (k28 : PySem.W.keepIn K (.ref f28) = true)
    (z_ValueError : PySem.W.nsIn K mainGlobals "ValueError" = some none)
    (z_enumerate : PySem.W.nsIn K mainGlobals "enumerate" = some none)
    (z_int : PySem.W.nsIn K mainGlobals "int" = some none)
    (z_isinstance : PySem.W.nsIn K mainGlobals "isinstance" = some none)
    (z_len : PySem.W.nsIn K mainGlobals "len" = some none)
    (z_list : PySem.W.nsIn K mainGlobals "list" = some none)
    (z_max : PySem.W.nsIn K mainGlobals "max" = some none)
    (z_min : PySem.W.nsIn K mainGlobals "min" = some none)
    (z_range : PySem.W.nsIn K mainGlobals "range" = some none)
    (z_str : PySem.W.nsIn K mainGlobals "str" = some none)
    (z_sum : PySem.W.nsIn K mainGlobals "sum" = some none)
    (g_GREATEST : PySem.W.nsIn K mainGlobals "GREATEST" = some (some (.int 1000000000000000000000000000000 t_GREATEST)))
    (g_MOST : PySem.W.nsIn K mainGlobals "MOST" = some (some (.int 6 t_MOST)))
    (g_MOST_MOVES : PySem.W.nsIn K mainGlobals "MOST_MOVES" = some (some (.int 200 t_MOST_MOVES)))
    (x_gC_TakeError : PySem.W.nsIn K mainGlobals "TakeError" = some (some (.ref C_TakeError)))
    (x_xC_TakeError : PySem.W.excIn K C_TakeError [.type "ValueError", .type "Exception", .type "BaseException", .type "object"] "ValueError.__new__" = true)
    (x_kC_TakeError : PySem.W.keepIn K (.ref C_TakeError) = true)
    (x_bC_TakeError : PySem.W.subIn K (.ref C_TakeError) (.type "BaseException") = some true)
    (x_tC_TakeError : PySem.W.typeIn K (.ref C_TakeError) = some (.type "type"))
    (x_vC_TakeError : PySem.W.subIn K (.ref C_TakeError) (.type "ValueError") = some true)
    (x_hg_TakeError : PySem.W.findIn K (.ref C_TakeError) "__getattribute__" = some (some (.builtin "BaseException.__getattribute__")))
    (x_hk_TakeError : PySem.W.findIn K (.ref C_TakeError) "__getattr__" = some none)
    (x_hd_TakeError : PySem.W.hasDictIn K C_TakeError = true)
    (x_ha_TakeError : PySem.W.findIn K (.ref C_TakeError) "__class__" = some (some (.builtin "object.__class__")))
    (x_hm_TakeError : PySem.W.mroIn K C_TakeError (.type "object") = some true)
    (x_gC_NoPair : PySem.W.nsIn K mainGlobals "NoPair" = some (some (.ref C_NoPair)))
    (x_xC_NoPair : PySem.W.excIn K C_NoPair [.type "ValueError", .type "Exception", .type "BaseException", .type "object"] "ValueError.__new__" = true)
    (x_kC_NoPair : PySem.W.keepIn K (.ref C_NoPair) = true)
    (x_bC_NoPair : PySem.W.subIn K (.ref C_NoPair) (.type "BaseException") = some true)
    (x_tC_NoPair : PySem.W.typeIn K (.ref C_NoPair) = some (.type "type"))
    (x_vC_NoPair : PySem.W.subIn K (.ref C_NoPair) (.type "ValueError") = some true)
    (x_hg_NoPair : PySem.W.findIn K (.ref C_NoPair) "__getattribute__" = some (some (.builtin "BaseException.__getattribute__")))
    (x_hk_NoPair : PySem.W.findIn K (.ref C_NoPair) "__getattr__" = some none)
    (x_hd_NoPair : PySem.W.hasDictIn K C_NoPair = true)
    (x_ha_NoPair : PySem.W.findIn K (.ref C_NoPair) "__class__" = some (some (.builtin "object.__class__")))
    (x_hm_NoPair : PySem.W.mroIn K C_NoPair (.type "object") = some true)
    (x_gC_NoTable : PySem.W.nsIn K mainGlobals "NoTable" = some (some (.ref C_NoTable)))
    (x_xC_NoTable : PySem.W.excIn K C_NoTable [.type "ValueError", .type "Exception", .type "BaseException", .type "object"] "ValueError.__new__" = true)
    (x_kC_NoTable : PySem.W.keepIn K (.ref C_NoTable) = true)
    (x_bC_NoTable : PySem.W.subIn K (.ref C_NoTable) (.type "BaseException") = some true)
    (x_tC_NoTable : PySem.W.typeIn K (.ref C_NoTable) = some (.type "type"))
    (x_vC_NoTable : PySem.W.subIn K (.ref C_NoTable) (.type "ValueError") = some true)
    (x_hg_NoTable : PySem.W.findIn K (.ref C_NoTable) "__getattribute__" = some (some (.builtin "BaseException.__getattribute__")))
    (x_hk_NoTable : PySem.W.findIn K (.ref C_NoTable) "__getattr__" = some none)
    (x_hd_NoTable : PySem.W.hasDictIn K C_NoTable = true)
    (x_ha_NoTable : PySem.W.findIn K (.ref C_NoTable) "__class__" = some (some (.builtin "object.__class__")))
    (x_hm_NoTable : PySem.W.mroIn K C_NoTable (.type "object") = some true)
    (x_gC_NoMove : PySem.W.nsIn K mainGlobals "NoMove" = some (some (.ref C_NoMove)))
    (x_xC_NoMove : PySem.W.excIn K C_NoMove [.type "ValueError", .type "Exception", .type "BaseException", .type "object"] "ValueError.__new__" = true)
    (x_kC_NoMove : PySem.W.keepIn K (.ref C_NoMove) = true)
    (x_bC_NoMove : PySem.W.subIn K (.ref C_NoMove) (.type "BaseException") = some true)
    (x_tC_NoMove : PySem.W.typeIn K (.ref C_NoMove) = some (.type "type"))
    (x_vC_NoMove : PySem.W.subIn K (.ref C_NoMove) (.type "ValueError") = some true)
    (x_hg_NoMove : PySem.W.findIn K (.ref C_NoMove) "__getattribute__" = some (some (.builtin "BaseException.__getattribute__")))
    (x_hk_NoMove : PySem.W.findIn K (.ref C_NoMove) "__getattr__" = some none)
    (x_hd_NoMove : PySem.W.hasDictIn K C_NoMove = true)
    (x_ha_NoMove : PySem.W.findIn K (.ref C_NoMove) "__class__" = some (some (.builtin "object.__class__")))
    (x_hm_NoMove : PySem.W.mroIn K C_NoMove (.type "object") = some true)
    (x_gC_TooLong : PySem.W.nsIn K mainGlobals "TooLong" = some (some (.ref C_TooLong)))
    (x_xC_TooLong : PySem.W.excIn K C_TooLong [.type "ValueError", .type "Exception", .type "BaseException", .type "object"] "ValueError.__new__" = true)
    (x_kC_TooLong : PySem.W.keepIn K (.ref C_TooLong) = true)
    (x_bC_TooLong : PySem.W.subIn K (.ref C_TooLong) (.type "BaseException") = some true)
    (x_tC_TooLong : PySem.W.typeIn K (.ref C_TooLong) = some (.type "type"))
    (x_vC_TooLong : PySem.W.subIn K (.ref C_TooLong) (.type "ValueError") = some true)
    (x_hg_TooLong : PySem.W.findIn K (.ref C_TooLong) "__getattribute__" = some (some (.builtin "BaseException.__getattribute__")))
    (x_hk_TooLong : PySem.W.findIn K (.ref C_TooLong) "__getattr__" = some none)
    (x_hd_TooLong : PySem.W.hasDictIn K C_TooLong = true)
    (x_ha_TooLong : PySem.W.findIn K (.ref C_TooLong) "__class__" = some (some (.builtin "object.__class__")))
    (x_hm_TooLong : PySem.W.mroIn K C_TooLong (.type "object") = some true)
    (x_gC_NoNote : PySem.W.nsIn K mainGlobals "NoNote" = some (some (.ref C_NoNote)))
    (x_xC_NoNote : PySem.W.excIn K C_NoNote [.type "ValueError", .type "Exception", .type "BaseException", .type "object"] "ValueError.__new__" = true)
    (x_kC_NoNote : PySem.W.keepIn K (.ref C_NoNote) = true)
    (x_bC_NoNote : PySem.W.subIn K (.ref C_NoNote) (.type "BaseException") = some true)
    (x_tC_NoNote : PySem.W.typeIn K (.ref C_NoNote) = some (.type "type"))
    (x_vC_NoNote : PySem.W.subIn K (.ref C_NoNote) (.type "ValueError") = some true)
    (x_hg_NoNote : PySem.W.findIn K (.ref C_NoNote) "__getattribute__" = some (some (.builtin "BaseException.__getattribute__")))
    (x_hk_NoNote : PySem.W.findIn K (.ref C_NoNote) "__getattr__" = some none)
    (x_hd_NoNote : PySem.W.hasDictIn K C_NoNote = true)
    (x_ha_NoNote : PySem.W.findIn K (.ref C_NoNote) "__class__" = some (some (.builtin "object.__class__")))
    (x_hm_NoNote : PySem.W.mroIn K C_NoNote (.type "object") = some true)
    (hn0 : PySem.W.specialIn K (.builtin "object.__class__") "__get__" = some (some (.builtin "getset_descriptor.__get__"))) (ht0 : PySem.W.takesIn K (.builtin "object.__class__") = some true)
    (sb_NoPair : PySem.W.subIn K (.ref C_NoPair) (.ref C_TakeError) = some true)
    (kt_NoPair_NoPair : PySem.W.subIn K (.ref C_NoPair) (.ref C_NoPair) = some true)
    (kt_NoPair_NoTable : PySem.W.subIn K (.ref C_NoPair) (.ref C_NoTable) = some false)
    (kt_NoPair_NoMove : PySem.W.subIn K (.ref C_NoPair) (.ref C_NoMove) = some false)
    (kt_NoPair_TooLong : PySem.W.subIn K (.ref C_NoPair) (.ref C_TooLong) = some false)
    (kt_NoPair_NoNote : PySem.W.subIn K (.ref C_NoPair) (.ref C_NoNote) = some false)
    (sb_NoTable : PySem.W.subIn K (.ref C_NoTable) (.ref C_TakeError) = some true)
    (kt_NoTable_NoPair : PySem.W.subIn K (.ref C_NoTable) (.ref C_NoPair) = some false)
    (kt_NoTable_NoTable : PySem.W.subIn K (.ref C_NoTable) (.ref C_NoTable) = some true)
    (kt_NoTable_NoMove : PySem.W.subIn K (.ref C_NoTable) (.ref C_NoMove) = some false)
    (kt_NoTable_TooLong : PySem.W.subIn K (.ref C_NoTable) (.ref C_TooLong) = some false)
    (kt_NoTable_NoNote : PySem.W.subIn K (.ref C_NoTable) (.ref C_NoNote) = some false)
    (sb_NoMove : PySem.W.subIn K (.ref C_NoMove) (.ref C_TakeError) = some true)
    (kt_NoMove_NoPair : PySem.W.subIn K (.ref C_NoMove) (.ref C_NoPair) = some false)
    (kt_NoMove_NoTable : PySem.W.subIn K (.ref C_NoMove) (.ref C_NoTable) = some false)
    (kt_NoMove_NoMove : PySem.W.subIn K (.ref C_NoMove) (.ref C_NoMove) = some true)
    (kt_NoMove_TooLong : PySem.W.subIn K (.ref C_NoMove) (.ref C_TooLong) = some false)
    (kt_NoMove_NoNote : PySem.W.subIn K (.ref C_NoMove) (.ref C_NoNote) = some false)
    (sb_TooLong : PySem.W.subIn K (.ref C_TooLong) (.ref C_TakeError) = some true)
    (kt_TooLong_NoPair : PySem.W.subIn K (.ref C_TooLong) (.ref C_NoPair) = some false)
    (kt_TooLong_NoTable : PySem.W.subIn K (.ref C_TooLong) (.ref C_NoTable) = some false)
    (kt_TooLong_NoMove : PySem.W.subIn K (.ref C_TooLong) (.ref C_NoMove) = some false)
    (kt_TooLong_TooLong : PySem.W.subIn K (.ref C_TooLong) (.ref C_TooLong) = some true)
    (kt_TooLong_NoNote : PySem.W.subIn K (.ref C_TooLong) (.ref C_NoNote) = some false)
    (sb_NoNote : PySem.W.subIn K (.ref C_NoNote) (.ref C_TakeError) = some true)
    (kt_NoNote_NoPair : PySem.W.subIn K (.ref C_NoNote) (.ref C_NoPair) = some false)
    (kt_NoNote_NoTable : PySem.W.subIn K (.ref C_NoNote) (.ref C_NoTable) = some false)
    (kt_NoNote_NoMove : PySem.W.subIn K (.ref C_NoNote) (.ref C_NoMove) = some false)
    (kt_NoNote_TooLong : PySem.W.subIn K (.ref C_NoNote) (.ref C_TooLong) = some false)
    (kt_NoNote_NoNote : PySem.W.subIn K (.ref C_NoNote) (.ref C_NoNote) = some true) :
    ∃ fd : FuncData, (∀ (s : Shared) (u : Value), BindsTo s fd ⟨[u], []⟩ [("script", u)]) ∧ ∀ base : Heap, K.In base → base.Ns mainGlobals mg → FnOk P w K mg base CX0 7 fa fd ["script"] (sp_law K) := by
  have e := hfa.symm.trans (PySem.W.mg_of X G a28)
  cases e
  let cs : Cs := ⟨C_TakeError, C_NoPair, C_NoTable, C_NoMove, C_TooLong, C_NoNote⟩
  have T : Txt K mg cs := ⟨⟨PySem.W.mg_of X G x_gC_TakeError, x_xC_TakeError, x_kC_TakeError, x_bC_TakeError, x_tC_TakeError, kit_subV x_vC_TakeError, ⟨x_hg_TakeError, x_hk_TakeError, x_bC_TakeError, x_hd_TakeError, x_ha_TakeError, hn0, ht0, x_hm_TakeError⟩⟩, ⟨PySem.W.mg_of X G x_gC_NoPair, x_xC_NoPair, x_kC_NoPair, x_bC_NoPair, x_tC_NoPair, kit_subV x_vC_NoPair, ⟨x_hg_NoPair, x_hk_NoPair, x_bC_NoPair, x_hd_NoPair, x_ha_NoPair, hn0, ht0, x_hm_NoPair⟩⟩, ⟨PySem.W.mg_of X G x_gC_NoTable, x_xC_NoTable, x_kC_NoTable, x_bC_NoTable, x_tC_NoTable, kit_subV x_vC_NoTable, ⟨x_hg_NoTable, x_hk_NoTable, x_bC_NoTable, x_hd_NoTable, x_ha_NoTable, hn0, ht0, x_hm_NoTable⟩⟩, ⟨PySem.W.mg_of X G x_gC_NoMove, x_xC_NoMove, x_kC_NoMove, x_bC_NoMove, x_tC_NoMove, kit_subV x_vC_NoMove, ⟨x_hg_NoMove, x_hk_NoMove, x_bC_NoMove, x_hd_NoMove, x_ha_NoMove, hn0, ht0, x_hm_NoMove⟩⟩, ⟨PySem.W.mg_of X G x_gC_TooLong, x_xC_TooLong, x_kC_TooLong, x_bC_TooLong, x_tC_TooLong, kit_subV x_vC_TooLong, ⟨x_hg_TooLong, x_hk_TooLong, x_bC_TooLong, x_hd_TooLong, x_ha_TooLong, hn0, ht0, x_hm_TooLong⟩⟩, ⟨PySem.W.mg_of X G x_gC_NoNote, x_xC_NoNote, x_kC_NoNote, x_bC_NoNote, x_tC_NoNote, kit_subV x_vC_NoNote, ⟨x_hg_NoNote, x_hk_NoNote, x_bC_NoNote, x_hd_NoNote, x_ha_NoNote, hn0, ht0, x_hm_NoNote⟩⟩, PySem.W.exm_ref x_bC_TakeError x_hd_TakeError x_tC_TakeError sb_NoPair, PySem.W.exm_ref x_bC_TakeError x_hd_TakeError x_tC_TakeError sb_NoTable, PySem.W.exm_ref x_bC_TakeError x_hd_TakeError x_tC_TakeError sb_NoMove, PySem.W.exm_ref x_bC_TakeError x_hd_TakeError x_tC_TakeError sb_TooLong, PySem.W.exm_ref x_bC_TakeError x_hd_TakeError x_tC_TakeError sb_NoNote, kit_sub x_hd_NoPair x_tC_NoPair kt_NoPair_NoPair kt_NoPair_NoPair, kit_sub x_hd_NoTable x_tC_NoTable kt_NoPair_NoTable kt_NoPair_NoPair, kit_sub x_hd_NoMove x_tC_NoMove kt_NoPair_NoMove kt_NoPair_NoPair, kit_sub x_hd_TooLong x_tC_TooLong kt_NoPair_TooLong kt_NoPair_NoPair, kit_sub x_hd_NoNote x_tC_NoNote kt_NoPair_NoNote kt_NoPair_NoPair, kit_sub x_hd_NoPair x_tC_NoPair kt_NoTable_NoPair kt_NoTable_NoTable, kit_sub x_hd_NoTable x_tC_NoTable kt_NoTable_NoTable kt_NoTable_NoTable, kit_sub x_hd_NoMove x_tC_NoMove kt_NoTable_NoMove kt_NoTable_NoTable, kit_sub x_hd_TooLong x_tC_TooLong kt_NoTable_TooLong kt_NoTable_NoTable, kit_sub x_hd_NoNote x_tC_NoNote kt_NoTable_NoNote kt_NoTable_NoTable, kit_sub x_hd_NoPair x_tC_NoPair kt_NoMove_NoPair kt_NoMove_NoMove, kit_sub x_hd_NoTable x_tC_NoTable kt_NoMove_NoTable kt_NoMove_NoMove, kit_sub x_hd_NoMove x_tC_NoMove kt_NoMove_NoMove kt_NoMove_NoMove, kit_sub x_hd_TooLong x_tC_TooLong kt_NoMove_TooLong kt_NoMove_NoMove, kit_sub x_hd_NoNote x_tC_NoNote kt_NoMove_NoNote kt_NoMove_NoMove, kit_sub x_hd_NoPair x_tC_NoPair kt_TooLong_NoPair kt_TooLong_TooLong, kit_sub x_hd_NoTable x_tC_NoTable kt_TooLong_NoTable kt_TooLong_TooLong, kit_sub x_hd_NoMove x_tC_NoMove kt_TooLong_NoMove kt_TooLong_TooLong, kit_sub x_hd_TooLong x_tC_TooLong kt_TooLong_TooLong kt_TooLong_TooLong, kit_sub x_hd_NoNote x_tC_NoNote kt_TooLong_NoNote kt_TooLong_TooLong, kit_sub x_hd_NoPair x_tC_NoPair kt_NoNote_NoPair kt_NoNote_NoNote, kit_sub x_hd_NoTable x_tC_NoTable kt_NoNote_NoTable kt_NoNote_NoNote, kit_sub x_hd_NoMove x_tC_NoMove kt_NoNote_NoMove kt_NoNote_NoNote, kit_sub x_hd_TooLong x_tC_TooLong kt_NoNote_TooLong kt_NoNote_NoNote, kit_sub x_hd_NoNote x_tC_NoNote kt_NoNote_NoNote kt_NoNote_NoNote, PySem.W.mg_none_of X G z_ValueError, PySem.W.mg_none_of X G z_enumerate, PySem.W.mg_none_of X G z_int, PySem.W.mg_none_of X G z_isinstance, PySem.W.mg_none_of X G z_len, PySem.W.mg_none_of X G z_list, PySem.W.mg_none_of X G z_max, PySem.W.mg_none_of X G z_min, PySem.W.mg_none_of X G z_range, PySem.W.mg_none_of X G z_str, PySem.W.mg_none_of X G z_sum, ⟨_, PySem.W.mg_of X G g_GREATEST, ⟨_, rfl⟩⟩, ⟨_, PySem.W.mg_of X G g_MOST, ⟨_, rfl⟩⟩, ⟨_, PySem.W.mg_of X G g_MOST_MOVES, ⟨_, rfl⟩⟩⟩
  have F0 : Df K mg "asked_pair" s_asked_pair := ⟨_, _, fun_mk (st := s_asked_pair) l0 c0 k0, PySem.W.mg_of X G a0⟩
  have F1 : Df K mg "quotients_of" s_quotients_of := ⟨_, _, fun_mk (st := s_quotients_of) l1 c1 k1, PySem.W.mg_of X G a1⟩
  have F2 : Df K mg "moves_of" s_moves_of := ⟨_, _, fun_mk (st := s_moves_of) l2 c2 k2, PySem.W.mg_of X G a2⟩
  have F3 : Df K mg "behind" s_behind := ⟨_, _, fun_mk (st := s_behind) l3 c3 k3, PySem.W.mg_of X G a3⟩
  have F4 : Df K mg "worth_of" s_worth_of := ⟨_, _, fun_mk (st := s_worth_of) l4 c4 k4, PySem.W.mg_of X G a4⟩
  have F5 : Df K mg "added" s_added := ⟨_, _, fun_mk (st := s_added) l5 c5 k5, PySem.W.mg_of X G a5⟩
  have F6 : Df K mg "_law_cell_at" s__law_cell_at := ⟨_, _, fun_mk (st := s__law_cell_at) l6 c6 k6, PySem.W.mg_of X G a6⟩
  have F7 : Df K mg "_law_word_of" s__law_word_of := ⟨_, _, fun_mk (st := s__law_word_of) l7 c7 k7, PySem.W.mg_of X G a7⟩
  have F8 : Df K mg "_law_pile_by" s__law_pile_by := ⟨_, _, fun_mk (st := s__law_pile_by) l8 c8 k8, PySem.W.mg_of X G a8⟩
  have F9 : Df K mg "quotients" s_quotients := ⟨_, _, fun_mk (st := s_quotients) l9 c9 k9, PySem.W.mg_of X G a9⟩
  have F10 : Df K mg "moves" s_moves := ⟨_, _, fun_mk (st := s_moves) l10 c10 k10, PySem.W.mg_of X G a10⟩
  have F11 : Df K mg "taken" s_taken := ⟨_, _, fun_mk (st := s_taken) l11 c11 k11, PySem.W.mg_of X G a11⟩
  have F12 : Df K mg "worth" s_worth := ⟨_, _, fun_mk (st := s_worth) l12 c12 k12, PySem.W.mg_of X G a12⟩
  have F13 : Df K mg "leading_of" s_leading_of := ⟨_, _, fun_mk (st := s_leading_of) l13 c13 k13, PySem.W.mg_of X G a13⟩
  have F14 : Df K mg "asked_table" s_asked_table := ⟨_, _, fun_mk (st := s_asked_table) l14 c14 k14, PySem.W.mg_of X G a14⟩
  have F15 : Df K mg "_law_pair_by" s__law_pair_by := ⟨_, _, fun_mk (st := s__law_pair_by) l15 c15 k15, PySem.W.mg_of X G a15⟩
  have F16 : Df K mg "leading" s_leading := ⟨_, _, fun_mk (st := s_leading) l16 c16 k16, PySem.W.mg_of X G a16⟩
  have F17 : Df K mg "together" s_together := ⟨_, _, fun_mk (st := s_together) l17 c17 k17, PySem.W.mg_of X G a17⟩
  have F18 : Df K mg "moved" s_moved := ⟨_, _, fun_mk (st := s_moved) l18 c18 k18, PySem.W.mg_of X G a18⟩
  have F19 : Df K mg "shown" s_shown := ⟨_, _, fun_mk (st := s_shown) l19 c19 k19, PySem.W.mg_of X G a19⟩
  have F20 : Df K mg "shortest" s_shortest := ⟨_, _, fun_mk (st := s_shortest) l20 c20 k20, PySem.W.mg_of X G a20⟩
  have F21 : Df K mg "longest" s_longest := ⟨_, _, fun_mk (st := s_longest) l21 c21 k21, PySem.W.mg_of X G a21⟩
  have F22 : Df K mg "wins" s_wins := ⟨_, _, fun_mk (st := s_wins) l22 c22 k22, PySem.W.mg_of X G a22⟩
  have F23 : Df K mg "winning" s_winning := ⟨_, _, fun_mk (st := s_winning) l23 c23 k23, PySem.W.mg_of X G a23⟩
  have F24 : Df K mg "plays" s_plays := ⟨_, _, fun_mk (st := s_plays) l24 c24 k24, PySem.W.mg_of X G a24⟩
  have F25 : Df K mg "_law_of_pair" s__law_of_pair := ⟨_, _, fun_mk (st := s__law_of_pair) l25 c25 k25, PySem.W.mg_of X G a25⟩
  have F26 : Df K mg "_law_of_table" s__law_of_table := ⟨_, _, fun_mk (st := s__law_of_table) l26 c26 k26, PySem.W.mg_of X G a26⟩
  have F27 : Df K mg "_law_tried" s__law_tried := ⟨_, _, fun_mk (st := s__law_tried) l27 c27 k27, PySem.W.mg_of X G a27⟩
  have FL := fun_mk (st := s_law) l28 c28 k28
  refine ⟨PySem.W.fnOf "law" "law" (defArgs s_law) (defBody s_law) (defScope s_law) .none kV28 dc28 pm28 an28 cd28 ct28, fun s u => .of_eq rfl, fun base _ _ => ?_⟩
  have c_asked_pair : ClX P w K mg base 1 "asked_pair" (sp_asked_pair K cs) := ok_asked_pair F0 T 
  have c_quotients_of : Cl P w K mg base 1 "quotients_of" (sp_quotients_of K) := ok_quotients_of F1 T 
  have c_moves_of : Cl P w K mg base 1 "moves_of" (sp_moves_of K) := ok_moves_of F2 T 
  have c_behind : Cl P w K mg base 1 "behind" (sp_behind K) := ok_behind F3 T 
  have c_worth_of : Cl P w K mg base 1 "worth_of" (sp_worth_of K) := ok_worth_of F4 T 
  have c_added : Cl P w K mg base 1 "added" (sp_added K) := ok_added F5 T 
  have c__law_cell_at : Cl P w K mg base 1 "_law_cell_at" (sp__law_cell_at K) := ok__law_cell_at F6 T 
  have c__law_word_of : ClP P w K mg base 1 "_law_word_of" (sp__law_word_of K cs) := ok__law_word_of F7 T 
  have c__law_pile_by : Cl P w K mg base 1 "_law_pile_by" (sp__law_pile_by K) := ok__law_pile_by F8 T 
  have c_quotients : ClX P w K mg base 2 "quotients" (sp_quotients K cs) := ok_quotients F9 T c_asked_pair c_quotients_of
  have c_moves : ClX P w K mg base 2 "moves" (sp_moves K cs) := ok_moves F10 T c_asked_pair c_moves_of
  have c_taken : ClX P w K mg base 2 "taken" (sp_taken K cs) := ok_taken F11 T c_asked_pair c_moves_of c_behind
  have c_worth : ClX P w K mg base 2 "worth" (sp_worth K cs) := ok_worth F12 T c_asked_pair c_worth_of
  have c_leading_of : Cl P w K mg base 2 "leading_of" (sp_leading_of K) := ok_leading_of F13 T c_moves_of c_behind c_worth_of
  have c_asked_table : ClX P w K mg base 2 "asked_table" (sp_asked_table K cs) := ok_asked_table F14 T c_asked_pair
  have c__law_pair_by : Cl P w K mg base 2 "_law_pair_by" (sp__law_pair_by K) := ok__law_pair_by F15 T c__law_cell_at c__law_pile_by
  have c_leading : ClX P w K mg base 3 "leading" (sp_leading K cs) := ok_leading F16 T c_asked_pair c_leading_of
  have c_together : ClX P w K mg base 3 "together" (sp_together K cs) := ok_together F17 T c_worth_of c_asked_table c_added
  have c_moved : ClX P w K mg base 3 "moved" (sp_moved K cs) := ok_moved F18 T c_moves_of c_behind c_asked_table
  have c_shown : ClX P w K mg base 3 "shown" (sp_shown K cs) := ok_shown F19 T c_asked_table
  have c_shortest : ClX P w K mg base 3 "shortest" (sp_shortest K cs) := ok_shortest F20 T c_quotients
  have c_longest : ClX P w K mg base 3 "longest" (sp_longest K cs) := ok_longest F21 T c_quotients
  have c_wins : ClX P w K mg base 4 "wins" (sp_wins K cs) := ok_wins F22 T c_together
  have c_winning : ClX P w K mg base 4 "winning" (sp_winning K cs) := ok_winning F23 T c_worth_of c_leading_of c_added c_together
  have c_plays : ClX P w K mg base 4 "plays" (sp_plays K cs) := ok_plays F24 T c_quotients c_longest
  have c__law_of_pair : ClX P w K mg base 5 "_law_of_pair" (sp__law_of_pair K cs) := ok__law_of_pair F25 T c_quotients c_moves c_taken c_worth c_leading c_shortest c_longest c_plays
  have c__law_of_table : ClX P w K mg base 5 "_law_of_table" (sp__law_of_table K cs) := ok__law_of_table F26 T c_together c_wins c_winning c_moved c_shown
  have c__law_tried : Cl P w K mg base 6 "_law_tried" (sp__law_tried K) := ok__law_tried F27 T c__law_word_of c__law_of_pair c__law_of_table
  exact ok_law FL T c__law_cell_at c__law_pair_by c__law_tried
end Tk
open PySem PySem.W PyProof.Rows
set_option maxRecDepth 100000 in
set_option maxHeartbeats 8000000 in
theorem PySem.Challenge.cw_takepairs_k14_refused_holds : PySem.Challenge.rw_takepairs_k14_refused.Holds := by
  w_on; o_law; k_head; (case hw => w_witness2)
  k_fill
  refine L2.walk_of (l := PySem.Challenge.rw_takepairs_k14_refused) (n := 63) (k := 7) (x := "script") (CX := fun _ => L2.CX0) (sp := fun w => Tk.sp_law _) rfl (by decide) rfl ⟨rfl, by decide, by decide⟩ (fun w h Y => PySem.W.kIn_of Y) ?F (fun _ _ a ns hl _ hS => ⟨a, ns, rfl, hS, hl, by intro H2; intros; rfl⟩) (fun _ _ _ _ _ h => h)
  case F =>
    intro w mg fa h KX G hmg
    refine' Tk.all_mk KX G hmg ?a0 ?l0 ?c0 ?k0 ?a1 ?l1 ?c1 ?k1 ?a2 ?l2 ?c2 ?k2 ?a3 ?l3 ?c3 ?k3 ?a4 ?l4 ?c4 ?k4 ?a5 ?l5 ?c5 ?k5 ?a6 ?l6 ?c6 ?k6 ?a7 ?l7 ?c7 ?k7 ?a8 ?l8 ?c8 ?k8 ?a9 ?l9 ?c9 ?k9 ?a10 ?l10 ?c10 ?k10 ?a11 ?l11 ?c11 ?k11 ?a12 ?l12 ?c12 ?k12 ?a13 ?l13 ?c13 ?k13 ?a14 ?l14 ?c14 ?k14 ?a15 ?l15 ?c15 ?k15 ?a16 ?l16 ?c16 ?k16 ?a17 ?l17 ?c17 ?k17 ?a18 ?l18 ?c18 ?k18 ?a19 ?l19 ?c19 ?k19 ?a20 ?l20 ?c20 ?k20 ?a21 ?l21 ?c21 ?k21 ?a22 ?l22 ?c22 ?k22 ?a23 ?l23 ?c23 ?k23 ?a24 ?l24 ?c24 ?k24 ?a25 ?l25 ?c25 ?k25 ?a26 ?l26 ?c26 ?k26 ?a27 ?l27 ?c27 ?k27 ?a28 ?l28 ?c28 ?k28 ?z_ValueError ?z_enumerate ?z_int ?z_isinstance ?z_len ?z_list ?z_max ?z_min ?z_range ?z_str ?z_sum ?g_GREATEST ?g_MOST ?g_MOST_MOVES ?x_gC_TakeError ?x_xC_TakeError ?x_kC_TakeError ?x_bC_TakeError ?x_tC_TakeError ?x_vC_TakeError ?x_hg_TakeError ?x_hk_TakeError ?x_hd_TakeError ?x_ha_TakeError ?x_hm_TakeError ?x_gC_NoPair ?x_xC_NoPair ?x_kC_NoPair ?x_bC_NoPair ?x_tC_NoPair ?x_vC_NoPair ?x_hg_NoPair ?x_hk_NoPair ?x_hd_NoPair ?x_ha_NoPair ?x_hm_NoPair ?x_gC_NoTable ?x_xC_NoTable ?x_kC_NoTable ?x_bC_NoTable ?x_tC_NoTable ?x_vC_NoTable ?x_hg_NoTable ?x_hk_NoTable ?x_hd_NoTable ?x_ha_NoTable ?x_hm_NoTable ?x_gC_NoMove ?x_xC_NoMove ?x_kC_NoMove ?x_bC_NoMove ?x_tC_NoMove ?x_vC_NoMove ?x_hg_NoMove ?x_hk_NoMove ?x_hd_NoMove ?x_ha_NoMove ?x_hm_NoMove ?x_gC_TooLong ?x_xC_TooLong ?x_kC_TooLong ?x_bC_TooLong ?x_tC_TooLong ?x_vC_TooLong ?x_hg_TooLong ?x_hk_TooLong ?x_hd_TooLong ?x_ha_TooLong ?x_hm_TooLong ?x_gC_NoNote ?x_xC_NoNote ?x_kC_NoNote ?x_bC_NoNote ?x_tC_NoNote ?x_vC_NoNote ?x_hg_NoNote ?x_hk_NoNote ?x_hd_NoNote ?x_ha_NoNote ?x_hm_NoNote ?hn0 ?ht0 ?sb_NoPair ?kt_NoPair_NoPair ?kt_NoPair_NoTable ?kt_NoPair_NoMove ?kt_NoPair_TooLong ?kt_NoPair_NoNote ?sb_NoTable ?kt_NoTable_NoPair ?kt_NoTable_NoTable ?kt_NoTable_NoMove ?kt_NoTable_TooLong ?kt_NoTable_NoNote ?sb_NoMove ?kt_NoMove_NoPair ?kt_NoMove_NoTable ?kt_NoMove_NoMove ?kt_NoMove_TooLong ?kt_NoMove_NoNote ?sb_TooLong ?kt_TooLong_NoPair ?kt_TooLong_NoTable ?kt_TooLong_NoMove ?kt_TooLong_TooLong ?kt_TooLong_NoNote ?sb_NoNote ?kt_NoNote_NoPair ?kt_NoNote_NoTable ?kt_NoNote_NoMove ?kt_NoNote_TooLong ?kt_NoNote_NoNote
    (case a0 => k_is)
    (case l0 => k_is)
    (case c0 => k_is)
    (case k0 => k_is)
    (case a1 => k_is)
    (case l1 => k_is)
    (case c1 => k_is)
    (case k1 => k_is)
    (case a2 => k_is)
    (case l2 => k_is)
    (case c2 => k_is)
    (case k2 => k_is)
    (case a3 => k_is)
    (case l3 => k_is)
    (case c3 => k_is)
    (case k3 => k_is)
    (case a4 => k_is)
    (case l4 => k_is)
    (case c4 => k_is)
    (case k4 => k_is)
    (case a5 => k_is)
    (case l5 => k_is)
    (case c5 => k_is)
    (case k5 => k_is)
    (case a6 => k_is)
    (case l6 => k_is)
    (case c6 => k_is)
    (case k6 => k_is)
    (case a7 => k_is)
    (case l7 => k_is)
    (case c7 => k_is)
    (case k7 => k_is)
    (case a8 => k_is)
    (case l8 => k_is)
    (case c8 => k_is)
    (case k8 => k_is)
    (case a9 => k_is)
    (case l9 => k_is)
    (case c9 => k_is)
    (case k9 => k_is)
    (case a10 => k_is)
    (case l10 => k_is)
    (case c10 => k_is)
    (case k10 => k_is)
    (case a11 => k_is)
    (case l11 => k_is)
    (case c11 => k_is)
    (case k11 => k_is)
    (case a12 => k_is)
    (case l12 => k_is)
    (case c12 => k_is)
    (case k12 => k_is)
    (case a13 => k_is)
    (case l13 => k_is)
    (case c13 => k_is)
    (case k13 => k_is)
    (case a14 => k_is)
    (case l14 => k_is)
    (case c14 => k_is)
    (case k14 => k_is)
    (case a15 => k_is)
    (case l15 => k_is)
    (case c15 => k_is)
    (case k15 => k_is)
    (case a16 => k_is)
    (case l16 => k_is)
    (case c16 => k_is)
    (case k16 => k_is)
    (case a17 => k_is)
    (case l17 => k_is)
    (case c17 => k_is)
    (case k17 => k_is)
    (case a18 => k_is)
    (case l18 => k_is)
    (case c18 => k_is)
    (case k18 => k_is)
    (case a19 => k_is)
    (case l19 => k_is)
    (case c19 => k_is)
    (case k19 => k_is)
    (case a20 => k_is)
    (case l20 => k_is)
    (case c20 => k_is)
    (case k20 => k_is)
    (case a21 => k_is)
    (case l21 => k_is)
    (case c21 => k_is)
    (case k21 => k_is)
    (case a22 => k_is)
    (case l22 => k_is)
    (case c22 => k_is)
    (case k22 => k_is)
    (case a23 => k_is)
    (case l23 => k_is)
    (case c23 => k_is)
    (case k23 => k_is)
    (case a24 => k_is)
    (case l24 => k_is)
    (case c24 => k_is)
    (case k24 => k_is)
    (case a25 => k_is)
    (case l25 => k_is)
    (case c25 => k_is)
    (case k25 => k_is)
    (case a26 => k_is)
    (case l26 => k_is)
    (case c26 => k_is)
    (case k26 => k_is)
    (case a27 => k_is)
    (case l27 => k_is)
    (case c27 => k_is)
    (case k27 => k_is)
    (case a28 => k_is)
    (case l28 => k_is)
    (case c28 => k_is)
    (case k28 => k_is)
    (case z_ValueError => k_is)
    (case z_enumerate => k_is)
    (case z_int => k_is)
    (case z_isinstance => k_is)
    (case z_len => k_is)
    (case z_list => k_is)
    (case z_max => k_is)
    (case z_min => k_is)
    (case z_range => k_is)
    (case z_str => k_is)
    (case z_sum => k_is)
    (case g_GREATEST => k_is)
    (case g_MOST => k_is)
    (case g_MOST_MOVES => k_is)
    (case x_gC_TakeError => k_is)
    (case x_xC_TakeError => k_exc)
    (case x_kC_TakeError => k_is)
    (case x_bC_TakeError => k_is)
    (case x_tC_TakeError => k_is)
    (case x_vC_TakeError => k_is)
    (case x_hg_TakeError => k_is)
    (case x_hk_TakeError => k_is)
    (case x_hd_TakeError => k_is)
    (case x_ha_TakeError => k_is)
    (case x_hm_TakeError => k_is)
    (case x_gC_NoPair => k_is)
    (case x_xC_NoPair => k_exc)
    (case x_kC_NoPair => k_is)
    (case x_bC_NoPair => k_is)
    (case x_tC_NoPair => k_is)
    (case x_vC_NoPair => k_is)
    (case x_hg_NoPair => k_is)
    (case x_hk_NoPair => k_is)
    (case x_hd_NoPair => k_is)
    (case x_ha_NoPair => k_is)
    (case x_hm_NoPair => k_is)
    (case x_gC_NoTable => k_is)
    (case x_xC_NoTable => k_exc)
    (case x_kC_NoTable => k_is)
    (case x_bC_NoTable => k_is)
    (case x_tC_NoTable => k_is)
    (case x_vC_NoTable => k_is)
    (case x_hg_NoTable => k_is)
    (case x_hk_NoTable => k_is)
    (case x_hd_NoTable => k_is)
    (case x_ha_NoTable => k_is)
    (case x_hm_NoTable => k_is)
    (case x_gC_NoMove => k_is)
    (case x_xC_NoMove => k_exc)
    (case x_kC_NoMove => k_is)
    (case x_bC_NoMove => k_is)
    (case x_tC_NoMove => k_is)
    (case x_vC_NoMove => k_is)
    (case x_hg_NoMove => k_is)
    (case x_hk_NoMove => k_is)
    (case x_hd_NoMove => k_is)
    (case x_ha_NoMove => k_is)
    (case x_hm_NoMove => k_is)
    (case x_gC_TooLong => k_is)
    (case x_xC_TooLong => k_exc)
    (case x_kC_TooLong => k_is)
    (case x_bC_TooLong => k_is)
    (case x_tC_TooLong => k_is)
    (case x_vC_TooLong => k_is)
    (case x_hg_TooLong => k_is)
    (case x_hk_TooLong => k_is)
    (case x_hd_TooLong => k_is)
    (case x_ha_TooLong => k_is)
    (case x_hm_TooLong => k_is)
    (case x_gC_NoNote => k_is)
    (case x_xC_NoNote => k_exc)
    (case x_kC_NoNote => k_is)
    (case x_bC_NoNote => k_is)
    (case x_tC_NoNote => k_is)
    (case x_vC_NoNote => k_is)
    (case x_hg_NoNote => k_is)
    (case x_hk_NoNote => k_is)
    (case x_hd_NoNote => k_is)
    (case x_ha_NoNote => k_is)
    (case x_hm_NoNote => k_is)
    (case hn0 => k_is)
    (case ht0 => k_is)
    (case sb_NoPair => first | rfl | k_is)
    (case kt_NoPair_NoPair => first | rfl | k_is)
    (case kt_NoPair_NoTable => first | rfl | k_is)
    (case kt_NoPair_NoMove => first | rfl | k_is)
    (case kt_NoPair_TooLong => first | rfl | k_is)
    (case kt_NoPair_NoNote => first | rfl | k_is)
    (case sb_NoTable => first | rfl | k_is)
    (case kt_NoTable_NoPair => first | rfl | k_is)
    (case kt_NoTable_NoTable => first | rfl | k_is)
    (case kt_NoTable_NoMove => first | rfl | k_is)
    (case kt_NoTable_TooLong => first | rfl | k_is)
    (case kt_NoTable_NoNote => first | rfl | k_is)
    (case sb_NoMove => first | rfl | k_is)
    (case kt_NoMove_NoPair => first | rfl | k_is)
    (case kt_NoMove_NoTable => first | rfl | k_is)
    (case kt_NoMove_NoMove => first | rfl | k_is)
    (case kt_NoMove_TooLong => first | rfl | k_is)
    (case kt_NoMove_NoNote => first | rfl | k_is)
    (case sb_TooLong => first | rfl | k_is)
    (case kt_TooLong_NoPair => first | rfl | k_is)
    (case kt_TooLong_NoTable => first | rfl | k_is)
    (case kt_TooLong_NoMove => first | rfl | k_is)
    (case kt_TooLong_TooLong => first | rfl | k_is)
    (case kt_TooLong_NoNote => first | rfl | k_is)
    (case sb_NoNote => first | rfl | k_is)
    (case kt_NoNote_NoPair => first | rfl | k_is)
    (case kt_NoNote_NoTable => first | rfl | k_is)
    (case kt_NoNote_NoMove => first | rfl | k_is)
    (case kt_NoNote_TooLong => first | rfl | k_is)
    (case kt_NoNote_NoNote => first | rfl | k_is)
#print axioms PySem.Challenge.cw_takepairs_k14_refused_holds
