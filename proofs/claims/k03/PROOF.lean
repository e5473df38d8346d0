import PyProof.Rows.All
import Wide.All
import OpenK.AllK
import Wide.FinOn
import HandS.ForMost
import HandS.Exc
import HandS.TryOnly
import HandS.ExcOwn
import HandS.WordsExc
import HandS.Wide
import HandS.IsInst
import HandS.Evl
import HandS.Zip
import PySem.Challenge.RW_takepairs_k03_worths_of_few
set_option Elab.async false
set_option linter.all false
set_option maxRecDepth 100000
set_option maxHeartbeats 2000000
/-! Tk: the layer of this claim: pairs, step lemmas for readings, rules for max and min of a pair -/
namespace Tk
open PySem PySem.Spec PyProof.Rows L2 Evl

/-! ### pairs -/
/-- v is a tuple of the two ints -/
def Pr (K : PySem.W.Frag) (H : Hp) (v : V) (x y : Int) : Prop := ∃ a, v = .ref a ∧ SqT K H a [.int x, .int y]
theorem Pr.mono {K : PySem.W.Frag} {H H' : Hp} {v : V} {x y : Int} (e : Ex H H') (h : Pr K H v x y) : Pr K H' v x y := by
  obtain ⟨a, rfl, h⟩ := h
  exact ⟨a, rfl, ex_t e h⟩
theorem Pr.of {K : PySem.W.Frag} {H : Hp} {a : Addr} {x y : Int} (h : H a = some (.tup [.int x, .int y])) : Pr K H (.ref a) x y := ⟨a, rfl, st_of h⟩

/-- .. made in the call -/
def PrS (H : Hp) (v : V) (x y : Int) : Prop := ∃ a, v = .ref a ∧ H a = some (.tup [.int x, .int y])
theorem PrS.pr {K : PySem.W.Frag} {H : Hp} {v : V} {x y : Int} (h : PrS H v x y) : Pr K H v x y := by
  obtain ⟨a, rfl, h⟩ := h
  exact ⟨a, rfl, st_of h⟩
theorem PrS.mono {H H' : Hp} {v : V} {x y : Int} (e : Ex H H') (h : PrS H v x y) : PrS H' v x y := by
  obtain ⟨a, rfl, h⟩ := h
  exact ⟨a, rfl, e _ _ h⟩

/-! ### max and min of a tuple of two ints -/
section
variable {prog : Program} {w : World} {A : Around} {E : Value → Shared → Prop} {s : Shared} {l : Addr}
theorem max_tup2 {a b : Int} {t u : Tok} {Q : Value → Shared → Prop} (hh : A.handled = none) (hT : s.heap.IsTuple l #[.int a t, .int b u])
    (h : ∀ h' tk, (∀ c o, s.heap.get? c = some o → h'.get? c = some o) → Q (if b > a then .int b u else .int a t) { s with heap := h', toks := tk }) :
    wpAny (model prog w) A (call (.builtin "max") [.ref l]) Q E s := by
  have hlt : l < s.heap.objs.size := by obtain ⟨_, e, _⟩ := hT; exact Heap.lt_size e
  have e0 : (#[.int a t, .int b u] : Array Value) = intItems #[(a, t), (b, u)] := by simp [intItems]
  rw [e0] at hT
  refine call_max_walk (wpAny_pyIter_tuple hT ?_)
  refine ⟨_, [_, l], [_], _, _, _, _, rfl, Walks.tuple (A := A.in1) hh _ l (Nat.ne_of_lt hlt) (intItems #[(a, t), (b, u)]),
    ⟨⟨_, Heap.get?_push_size _ rfl, rfl, rfl⟩, hT.push _⟩, fun c hc => ?_, by simp [intItems], CmpOf.ints_gt (numAt #[(a, t), (b, u)]) (fun _ _ => intItems_at), fun v h' tk hP hk => ?_⟩
  · show c < (s.heap.push _).objs.size
    rw [Heap.size_push]
    rcases List.mem_cons.mp hc with rfl | hc
    · exact Nat.lt_succ_self _
    · rcases List.mem_cons.mp hc with rfl | hc
      · exact Nat.lt_succ_of_lt hlt
      · cases hc
  · have hold : ∀ c o, s.heap.get? c = some o → h'.get? c = some o := fun c o e => by
      refine hk c o (fun hm => ?_) (Heap.get?_push_of_some _ e)
      rcases List.mem_cons.mp hm with e1 | hm
      · have := Heap.lt_size e; rw [e1] at this; exact Nat.lt_irrefl _ this
      · cases hm
    have := h h' tk hold
    have hv : v = if b > a then Value.int b u else Value.int a t := by
      have hP' : (intItems #[(a, t), (b, u)])[argBest (fun i j => decide (numAt #[(a, t), (b, u)] i > numAt #[(a, t), (b, u)] j)) 1]? = some v := by
        have hsz2 : (intItems #[(a, t), (b, u)]).size - 1 = 1 := by simp [intItems]
        rw [← hsz2]; exact hP
      by_cases hba : b > a
      · have e : argBest (fun i j => decide (numAt #[(a, t), (b, u)] i > numAt #[(a, t), (b, u)] j)) 1 = 1 := by simp [argBest, numAt, hba]
        rw [e] at hP'
        simpa [intItems, hba] using hP'.symm
      · have e : argBest (fun i j => decide (numAt #[(a, t), (b, u)] i > numAt #[(a, t), (b, u)] j)) 1 = 0 := by simp [argBest, numAt, hba]
        rw [e] at hP'
        simpa [intItems, hba] using hP'.symm
    rw [hv]; exact this
theorem min_tup2 {a b : Int} {t u : Tok} {Q : Value → Shared → Prop} (hh : A.handled = none) (hT : s.heap.IsTuple l #[.int a t, .int b u])
    (h : ∀ h' tk, (∀ c o, s.heap.get? c = some o → h'.get? c = some o) → Q (if b < a then .int b u else .int a t) { s with heap := h', toks := tk }) :
    wpAny (model prog w) A (call (.builtin "min") [.ref l]) Q E s := by
  have hlt : l < s.heap.objs.size := by obtain ⟨_, e, _⟩ := hT; exact Heap.lt_size e
  have e0 : (#[.int a t, .int b u] : Array Value) = intItems #[(a, t), (b, u)] := by simp [intItems]
  rw [e0] at hT
  refine call_min_walk (wpAny_pyIter_tuple hT ?_)
  refine ⟨_, [_, l], [_], _, _, _, _, rfl, Walks.tuple (A := A.in1) hh _ l (Nat.ne_of_lt hlt) (intItems #[(a, t), (b, u)]),
    ⟨⟨_, Heap.get?_push_size _ rfl, rfl, rfl⟩, hT.push _⟩, fun c hc => ?_, by simp [intItems], CmpOf.ints_lt (numAt #[(a, t), (b, u)]) (fun _ _ => intItems_at), fun v h' tk hP hk => ?_⟩
  · show c < (s.heap.push _).objs.size
    rw [Heap.size_push]
    rcases List.mem_cons.mp hc with rfl | hc
    · exact Nat.lt_succ_self _
    · rcases List.mem_cons.mp hc with rfl | hc
      · exact Nat.lt_succ_of_lt hlt
      · cases hc
  · have hold : ∀ c o, s.heap.get? c = some o → h'.get? c = some o := fun c o e => by
      refine hk c o (fun hm => ?_) (Heap.get?_push_of_some _ e)
      rcases List.mem_cons.mp hm with e1 | hm
      · have := Heap.lt_size e; rw [e1] at this; exact Nat.lt_irrefl _ this
      · cases hm
    have := h h' tk hold
    have hv : v = if b < a then Value.int b u else Value.int a t := by
      have hP' : (intItems #[(a, t), (b, u)])[argBest (fun i j => decide (numAt #[(a, t), (b, u)] i < numAt #[(a, t), (b, u)] j)) 1]? = some v := by
        have hsz2 : (intItems #[(a, t), (b, u)]).size - 1 = 1 := by simp [intItems]
        rw [← hsz2]; exact hP
      by_cases hba : b < a
      · have e : argBest (fun i j => decide (numAt #[(a, t), (b, u)] i < numAt #[(a, t), (b, u)] j)) 1 = 1 := by simp [argBest, numAt, hba]
        rw [e] at hP'
        simpa [intItems, hba] using hP'.symm
      · have e : argBest (fun i j => decide (numAt #[(a, t), (b, u)] i < numAt #[(a, t), (b, u)] j)) 1 = 0 := by simp [argBest, numAt, hba]
        rw [e] at hP'
        simpa [intItems, hba] using hP'.symm
    rw [hv]; exact this
end
section
variable {X : Cx}
theorem Pr.get {pins : List (Addr × Obj)} {σ : L2.St} {H : Hp} {s : Shared} {v : V} {x y : Int} (I : Inv X pins σ H s) (h : Pr X.K H v x y) : ∃ a t u, v = .ref a ∧ s.heap.IsTuple a #[.int x t, .int y u] := by
  obtain ⟨a, rfl, hq⟩ := h
  obtain ⟨its, rv, ht, hz⟩ := I.tuple hq
  cases rv with
  | cons r1 rr =>
    cases rr with
    | cons r2 rr =>
      cases rr
      obtain ⟨t, rfl⟩ := r1
      obtain ⟨u, rfl⟩ := r2
      exact ⟨a, t, u, rfl, ht⟩
def rMaxT (K : PySem.W.Frag) : List V → Hp → VK → Prop := fun vs H Q => ∃ v x y, vs = [v] ∧ Pr K H v x y ∧ Q (.int (max x y)) H
def rMinT (K : PySem.W.Frag) : List V → Hp → VK → Prop := fun vs H Q => ∃ v x y, vs = [v] ∧ Pr K H v x y ∧ Q (.int (min x y)) H
def rMax2 : List V → Hp → VK → Prop := fun xs H Q => ∃ i j, xs = [.int i, .int j] ∧ Q (.int (max i j)) H
def rMin2 : List V → Hp → VK → Prop := fun xs H Q => ∃ i j, xs = [.int i, .int j] ∧ Q (.int (min i j)) H
theorem call_maxT (hc : X.calm = true) : CallR X (.builtin "max") (rMaxT X.K) := by
  intro pins s σ H xs us Q I r h
  obtain ⟨v, x, y, rfl, hp, q⟩ := h
  obtain ⟨a, t, u, rfl, ht⟩ := hp.get I
  cases r with
  | cons r rr =>
    cases rr
    obtain rfl : _ = Value.ref a := r
    refine max_tup2 (I.ok.hd hc) ht fun h' tk hk => ?_
    by_cases c : y > x
    · rw [if_pos c]
      exact ⟨.int (max x y), H, I.kept hk, ⟨u, by congr 1; omega⟩, q⟩
    · rw [if_neg c]
      exact ⟨.int (max x y), H, I.kept hk, ⟨t, by congr 1; omega⟩, q⟩
theorem call_minT (hc : X.calm = true) : CallR X (.builtin "min") (rMinT X.K) := by
  intro pins s σ H xs us Q I r h
  obtain ⟨v, x, y, rfl, hp, q⟩ := h
  obtain ⟨a, t, u, rfl, ht⟩ := hp.get I
  cases r with
  | cons r rr =>
    cases rr
    obtain rfl : _ = Value.ref a := r
    refine min_tup2 (I.ok.hd hc) ht fun h' tk hk => ?_
    by_cases c : y < x
    · rw [if_pos c]
      exact ⟨.int (min x y), H, I.kept hk, ⟨u, by congr 1; omega⟩, q⟩
    · rw [if_neg c]
      exact ⟨.int (min x y), H, I.kept hk, ⟨t, by congr 1; omega⟩, q⟩
theorem call_max2' (hc : X.calm = true) : CallR X (.builtin "max") rMax2 := by
  intro pins s σ H xs us Q I r h
  obtain ⟨i, j, e, q⟩ := h
  refine call_max2 hc pins s σ H xs us Q I r ⟨i, j, e, ?_⟩
  have e2 : (if j > i then j else i) = max i j := by omega
  rw [e2]; exact q
theorem call_min2' (hc : X.calm = true) : CallR X (.builtin "min") rMin2 := by
  intro pins s σ H xs us Q I r h
  obtain ⟨i, j, e, q⟩ := h
  refine call_min2 hc pins s σ H xs us Q I r ⟨i, j, e, ?_⟩
  have e2 : (if j < i then j else i) = min i j := by omega
  rw [e2]; exact q
end

/-! ### one step of a reading -/
section
variable {K : PySem.W.Frag} {σ : L2.St} {H : Hp} {Q : VK} {ta tb te tc : TE} {tr t : TA} {QA : List V → Hp → Prop} {D : Ends} {ts us : TS} {tt tu : TT} {v x y z : V} {r : R2} {i j : Int}
theorem d_var {i : Nat} (h : σ[i]? = some (some v)) (q : Q v H) : tVar i σ H Q := ⟨v, h, q⟩
theorem d_c (q : Q v H) : tC v σ H Q := q
theorem d_op (q : ta σ H fun x H1 => tb σ H1 fun y H2 => r x y H2 Q) : tOp r ta tb σ H Q := q
theorem d_un {r : V → Hp → VK → Prop} (q : ta σ H fun x H1 => r x H1 Q) : tUn r ta σ H Q := q
theorem d_rI0 {g : Int → Int → V} (q : Q (g i j) H) : rI0 g (.int i) (.int j) H Q := ⟨i, j, rfl, rfl, q⟩
theorem d_rI {C : Int → Int → Prop} {g : Int → Int → V} (hc : C i j) (q : Q (g i j) H) : rI C g (.int i) (.int j) H Q := ⟨i, j, rfl, rfl, hc, q⟩
theorem d_pow30 (q : Q (.int 1000000000000000000000000000000) H) : rI CPow (fun i j => .int (i ^ j.toNat)) (.int 10) (.int 30) H Q := ⟨10, 30, rfl, rfl, ⟨by decide, by decide, by decide⟩, q⟩
theorem d_rU {g : Int → V} (q : Q (g i) H) : rU g (.int i) H Q := ⟨i, rfl, q⟩
theorem d_eq (h : scal x y = true) (q : Q (.bl (decide (x = y))) H) : rEq x y H Q := ⟨h, q⟩
theorem d_ne (h : scal x y = true) (q : Q (.bl (!decide (x = y))) H) : rNe x y H Q := ⟨h, q⟩
theorem d_eqI (q : Q (.bl (decide (i = j))) H) : rEq (.int i) (.int j) H Q := by
  have e : decide (V.int i = V.int j) = decide (i = j) := by simp
  exact ⟨rfl, by rw [e]; exact q⟩
theorem d_neI (q : Q (.bl (!decide (i = j))) H) : rNe (.int i) (.int j) H Q := by
  have e : decide (V.int i = V.int j) = decide (i = j) := by simp
  exact ⟨rfl, by rw [e]; exact q⟩
theorem d_eqS {i j : Str} (q : Q (.bl (decide (i = j))) H) : rEq (.str i) (.str j) H Q := by
  have e : decide (V.str i = V.str j) = decide (i = j) := by simp
  exact ⟨rfl, by rw [e]; exact q⟩
theorem d_neS {i j : Str} (q : Q (.bl (!decide (i = j))) H) : rNe (.str i) (.str j) H Q := by
  have e : decide (V.str i = V.str j) = decide (i = j) := by simp
  exact ⟨rfl, by rw [e]; exact q⟩
theorem d_eqB {i j : Bool} (q : Q (.bl (decide (i = j))) H) : rEq (.bl i) (.bl j) H Q := by
  have e : decide (V.bl i = V.bl j) = decide (i = j) := by simp
  exact ⟨rfl, by rw [e]; exact q⟩
theorem d_nil (q : QA [] H) : tNil σ H QA := q
theorem d_cons (q : ta σ H fun x H1 => tr σ H1 fun xs H2 => QA (x :: xs) H2) : tCons ta tr σ H QA := q
/-- a new tuple, a new list -/
def rNewT (xs : List V) (H : Hp) (Q : VK) : Prop := xs.length ≤ sizeLine ∧ ∀ p, H p = none → Q (.ref p) (upd H p (.tup xs))
def rNewL (xs : List V) (H : Hp) (Q : VK) : Prop := xs.length ≤ sizeLine ∧ ∀ p, H p = none → Q (.ref p) (upd H p (.lst xs))
theorem d_tup (q : t σ H fun xs H1 => rNewT xs H1 Q) : tTup t σ H Q := q
theorem d_lst (q : t σ H fun xs H1 => rNewL xs H1 Q) : tLst t σ H Q := q
theorem small_sz {xs : List V} (h : xs.length ≤ 1000) : xs.length ≤ sizeLine := sz_of (Nat.le_trans h (by decide))
theorem d_newP (q : ∀ v H2, Ex H H2 → PrS H2 v i j → Q v H2) : rNewT [.int i, .int j] H Q :=
  ⟨small_sz (by show 2 ≤ 1000; decide), fun p hp => q _ _ (Ex.new hp) ⟨p, rfl, upd_same⟩⟩
theorem d_newT {xs : List V} (hl : xs.length ≤ 1000) (q : ∀ p H2, H p = none → Ex H H2 → H2 p = some (.tup xs) → Q (.ref p) H2) : rNewT xs H Q := ⟨small_sz hl, fun p hp => q p _ hp (Ex.new hp) upd_same⟩
theorem d_newL {xs : List V} (hl : xs.length ≤ 1000) (q : ∀ p H2, H p = none → Ex H H2 → H2 p = some (.lst xs) → Q (.ref p) H2) : rNewL xs H Q := ⟨small_sz hl, fun p hp => q p _ hp (Ex.new hp) upd_same⟩
theorem d_call {sp : Sp} {E : XK} (q : t σ H fun vs H1 => sp vs H1 Q E) : tCall sp [] E t σ H Q := by
  show t σ H fun vs H1 => sp (vs ++ []) H1 Q E
  simp only [List.append_nil]
  exact q
theorem d_cb {r : List V → Hp → VK → Prop} (q : t σ H fun vs H1 => r vs H1 Q) : tCB r t σ H Q := q
theorem d_maxT (h : Pr K H v i j) (q : Q (.int (max i j)) H) : rMaxT K [v] H Q := ⟨v, i, j, rfl, h, q⟩
theorem d_minT (h : Pr K H v i j) (q : Q (.int (min i j)) H) : rMinT K [v] H Q := ⟨v, i, j, rfl, h, q⟩
theorem d_max2 (q : Q (.int (max i j)) H) : rMax2 [.int i, .int j] H Q := ⟨i, j, rfl, q⟩
theorem d_min2 (q : Q (.int (min i j)) H) : rMin2 [.int i, .int j] H Q := ⟨i, j, rfl, q⟩
theorem d_ixP0 (h : Pr K H v i j) (q : Q (.int i) H) : rIxT K v (.int 0) H Q := by
  obtain ⟨a, rfl, h⟩ := h
  exact ⟨a, _, 0, _, rfl, rfl, h, rfl, q⟩
theorem d_ixP1 (h : Pr K H v i j) (q : Q (.int j) H) : rIxT K v (.int 1) H Q := by
  obtain ⟨a, rfl, h⟩ := h
  exact ⟨a, _, 1, _, rfl, rfl, h, rfl, q⟩
theorem d_ixL {p : Addr} {xs : List V} (h : SqL K H p xs) (ha : atI xs i = some v) (q : Q v H) : rIxL K (.ref p) (.int i) H Q := ⟨p, xs, i, v, rfl, rfl, h, ha, q⟩
theorem d_ixT {p : Addr} {xs : List V} (h : SqT K H p xs) (ha : atI xs i = some v) (q : Q v H) : rIxT K (.ref p) (.int i) H Q := ⟨p, xs, i, v, rfl, rfl, h, ha, q⟩
theorem d_len {p : Addr} {xs : List V} (h : SqL K H p xs) (q : Q (.int (xs.length : Int)) H) : rLenS K [.ref p] H Q := ⟨p, xs, rfl, .inl h, q⟩
theorem d_sum {p : Addr} {ns : List Int} (h : SqL K H p (ns.map V.int)) (q : Q (.int ns.sum) H) : rSum K [.ref p] H Q := ⟨p, ns, rfl, h, q⟩
theorem d_ev (h : Ev te σ H v) (q : ∀ H1, Ex H H1 → Q v H1) : te σ H Q := h H (Ex.refl H) Q q
theorem d_ifE {b : Bool} (h : EvT tt σ H b) (h1 : b = true → ∀ H1, Ex H H1 → ta σ H1 Q) (h0 : b = false → ∀ H1, Ex H H1 → tb σ H1 Q) : tIf tt ta tb σ H Q := h H (Ex.refl H) _ fun H1 e1 => by
  cases b with
  | true => exact h1 rfl H1 e1
  | false => exact h0 rfl H1 e1
/-- a chain of two comparisons of ints -/
theorem ev_chain {f g : Int → Int → Bool} {a b c : Int} (h1 : Ev ta σ H (.int a)) (h2 : Ev tb σ H (.int b)) (h3 : Ev tc σ H (.int c)) : Ev (tChain (rI0 fun i j => .bl (f i j)) (rI0 fun i j => .bl (g i j)) ta tb tc) σ H (.bl (f a b && g b c)) := fun H1 e Q q =>
  h1 H1 e _ fun H2 e2 => h2 H2 (e.trans e2) _ fun H3 e3 => ⟨a, b, rfl, rfl, f a b, rfl, by
    cases hf : f a b with
    | true =>
      rw [if_pos rfl]
      exact h3 H3 ((e.trans e2).trans e3) _ fun H4 e4 => ⟨b, c, rfl, rfl, by rw [hf, Bool.true_and] at q; exact q H4 ((e2.trans e3).trans e4)⟩
    | false =>
      rw [if_neg Bool.false_ne_true]
      rw [hf, Bool.false_and] at q
      exact q H3 (e2.trans e3)⟩
/-- statements -/
theorem d_seq (q : ts { D with nx := us D } σ H) : tSeq ts us D σ H := q
theorem d_asg {i : Nat} (q : te σ H fun x H1 => D.nx (σ.set i (some x)) H1) : tAsg te (gName i) D σ H := q
theorem d_gName {i : Nat} {v : V} {Q : L2.St → Hp → Prop} (q : Q (σ.set i (some v)) H) : gName i v σ H Q := q
theorem d_asgG {g : TG} (q : te σ H fun x H1 => g x σ H1 D.nx) : tAsg te g D σ H := q
theorem d_gTupP {i j : Nat} {x y : Int} {Q : L2.St → Hp → Prop} (h : Pr K H v x y) (q : Q ((σ.set i (some (.int x))).set j (some (.int y))) H) : gTup K 2 (gCons (gName i) (gCons (gName j) gNil)) v σ H Q := by
  obtain ⟨a, rfl, h⟩ := h
  exact ⟨a, _, rfl, h, rfl, _, _, rfl, _, _, rfl, rfl, q⟩
theorem d_gTup2 {i j : Nat} {p : Addr} {x y : V} {Q : L2.St → Hp → Prop} (h : SqT K H p [x, y]) (q : Q ((σ.set i (some x)).set j (some y)) H) : gTup K 2 (gCons (gName i) (gCons (gName j) gNil)) (.ref p) σ H Q := ⟨p, _, rfl, h, rfl, _, _, rfl, _, _, rfl, rfl, q⟩
theorem d_ret (q : te σ H D.rt) : tRet te D σ H := q
theorem d_retN (q : D.rt .non H) : tRetN D σ H := q
theorem d_drop (q : te σ H fun _ H1 => D.nx σ H1) : tDrop te D σ H := q
theorem d_next (q : D.nx σ H) : tNext D σ H := q
theorem d_if {b : Bool} (h : EvT tt σ H b) (h1 : b = true → ∀ H1, Ex H H1 → ts D σ H1) (h0 : b = false → ∀ H1, Ex H H1 → us D σ H1) : tIfS tt ts us D σ H := s_if h h1 h0
def rPar (i j : Nat) (D : Ends) (σ : L2.St) (vs : List V) (H : Hp) : Prop := ∃ v w, vs = [v, w] ∧ D.nx ((σ.set i (some v)).set j (some w)) H
theorem d_par {i j : Nat} (q : t σ H (rPar i j D σ)) : tPar i j t D σ H := q
theorem d_rPar {i j : Nat} (q : D.nx ((σ.set i (some x)).set j (some y)) H) : rPar i j D σ [x, y] H := ⟨x, y, rfl, q⟩
theorem ev_intro (h : ∀ H1, Ex H H1 → ∀ Q : VK, (∀ H2, Ex H1 H2 → Q v H2) → te σ H1 Q) : Ev te σ H v := h
end

/-! ### defs by name -/
/-- the def of the text st stands behind the top under its name -/
def Df (K : PySem.W.Frag) (mg : Str → Option Value) (x : Str) (st : Stmt) : Prop := ∃ f fd, L2.Fun K x x st f fd ∧ mg x = some (.ref f)
/-- a def that may be called by its name and keeps sp; nothing is raised -/
def Cl (P : Program) (w : World) (K : PySem.W.Frag) (mg : Str → Option Value) (base : Heap) (k : Nat) (x : Str) (sp : Sp) : Prop :=
  ∃ f fd ps, FnOk P w K mg base CX0 k f fd ps sp ∧ mg x = some (.ref f) ∧ PySem.W.keepIn K (.ref f) = true ∧ Binds K fd ps []
section
variable {P : Program} {w : World} {K : PySem.W.Frag} {mg : Str → Option Value} {base : Heap}
theorem cl_of {x : Str} {st : Stmt} {N ps : List Str} {k : Nat} {sp : Sp} (F : Df K mg x st)
    (hb : ∀ (kV doc pm : Value) (an : Option Addr) (cdv ct : Value) (us : List Value), us.length = ps.length → bindArgs (PySem.W.fnOf x x (defArgs st) (defBody st) (defScope st) .none kV doc pm an cdv ct) ⟨us, []⟩ = pure (ps.zip us))
    (S : FnScope N ps (defScope st)) (len : ∀ vs H Q E, sp vs H Q E → vs.length = ps.length)
    (hbody : ∀ (f : Addr) (cdv : Value) (A : Around) (outer : List Env) (s : Shared) (H : Hp) (vs : List V) (Q : VK) (E : XK), Room k (A.deeper (envOfC x (defScope st) s.heap.objs.size f cdv)) → sp vs H Q E →
      ∃ t, PSs (cxOf CX0 P w K mg base N x (defScope st) f cdv A outer s H E).nox (defBody st) t ∧ t { nx := fun _ H' => Q .non H', rt := Q } (start N vs) H) : Cl P w K mg base (k + 1) x sp := by
  obtain ⟨f, fd, F, hm⟩ := F
  exact ⟨f, fd, ps, F.ok S len (hbody f), hm, F.kp, F.binds hb⟩
end
section
variable {X : Cx} {k j : Nat} {x : Str} {sp : Sp} {p pos : Pos} {e : Expr} {es : List Expr} {t : TA}
theorem pe_cl (c : Cl X.prog X.w X.K X.mg X.base k x sp) (hr : Room j X.A) (hk : k ≤ j) (hg : Gl X x) (ha : PA X (e :: es) t)
    (hdb : (x == ("__debug__" : Str)) = false := by decide) (he : starEach (e :: es) X.env = (false, eval e X.env) :: starEach es X.env := by rfl) (hpl : (backTo pos (starEach es X.env)).any (·.1) = false := by rfl) :
    PE X (.Call (.Name x p) (e :: es) [] pos) (tCall sp [] E0 t) := by
  obtain ⟨f, fd, ps, F, hm, kp, b⟩ := c
  exact pe_call F (hr.mono hk) hg hm kp b .nil pass0 ha hdb he hpl
/-- a constant of the module -/
theorem pe_gc {v : V} (hg : Gl X x) (h : ∃ u, X.mg x = some u ∧ RelV v u) (hd : (x == ("__debug__" : Str)) = false := by decide) : PE X (.Name x pos) (tC v) := by
  obtain ⟨u, hm, r⟩ := h
  exact pe_glob hg hm r hd
theorem call_lenL : CallR X (.builtin "len") (rLenS X.K) := call_len_seq
/-- is None -/
def rIsNn : R2 := fun x y H Q => y = .non ∧ Q (.bl (decide (x = .non))) H
def rNotNn : R2 := fun x y H Q => y = .non ∧ Q (.bl (!decide (x = .non))) H
theorem op_isNn : OpR X (compareOp .Is) rIsNn := op_isN
theorem op_notNn : OpR X (compareOp .IsNot) rNotNn := op_notN
def rIntB : List V → Hp → VK → Prop := fun vs H Q => ∃ k, vs = [.bl k] ∧ Q (.int (if k then 1 else 0)) H
theorem call_intB : CallR X (.type "int") rIntB := by
  intro pins s σ H xs us Q I r h
  exact call_int1 pins s σ H xs us Q I r (.inr h)
end
section
variable {K : PySem.W.Frag} {σ : L2.St} {H : Hp} {Q : VK}
theorem d_isNn {x : V} (q : Q (.bl (decide (x = .non))) H) : rIsNn x .non H Q := ⟨rfl, q⟩
theorem d_notNn {x : V} (q : Q (.bl (!decide (x = .non))) H) : rNotNn x .non H Q := ⟨rfl, q⟩
theorem d_intB {b : Bool} (q : Q (.int (if b then 1 else 0)) H) : rIntB [.bl b] H Q := ⟨b, rfl, q⟩
theorem d_isi {x : V} {n : String} {m : String} {b : Bool} (ty : TyX K H x (.type m)) (e : kitB m n = some b) (q : Q (.bl b) H) : rIsi K [x, .ty n] H Q := ⟨x, .ty n, _, _, b, rfl, .ty n, ty, kit_ty e, q⟩
theorem k_ii : kitB "int" "int" = some true := by decide +kernel
theorem k_ib : kitB "int" "bool" = some false := by decide +kernel
theorem k_bb : kitB "bool" "bool" = some true := by decide +kernel
theorem k_ll : kitB "list" "list" = some true := by decide +kernel
theorem k_tt : kitB "tuple" "tuple" = some true := by decide +kernel
theorem k_ss : kitB "str" "str" = some true := by decide +kernel
theorem k_ls : kitB "list" "str" = some false := by decide +kernel
theorem ty_int {i : Int} : TyX K H (.int i) (.type "int") := .base (.int i)
theorem ty_bl {i : Bool} : TyX K H (.bl i) (.type "bool") := .base (.bl i)
theorem ty_str {i : Str} : TyX K H (.str i) (.type "str") := .base (.str i)
theorem ty_non : TyX K H .non (.type "NoneType") := .base .non
theorem ty_list {p : Addr} {xs : List V} (h : SqL K H p xs) : TyX K H (.ref p) (.type "list") := by
  rcases h with (h | ⟨o, h⟩) | ⟨o, its, n, hk, hc, _⟩
  · exact .base (.lst h)
  · exact .base (.frz h)
  · exact .kList hk hc
theorem ty_tup {p : Addr} {xs : List V} (h : SqT K H p xs) : TyX K H (.ref p) (.type "tuple") := by
  rcases h with (h | ⟨o, h⟩) | ⟨o, its, n, hk, hc, _⟩
  · exact .base (.tup h)
  · exact .fTuple h
  · exact .kTuple hk hc
theorem ty_pr {v : V} {x y : Int} (h : Pr K H v x y) : TyX K H v (.type "tuple") := by
  obtain ⟨a, rfl, h⟩ := h
  exact ty_tup h
end
/-- a pile that may stand -/
def Gd (x : Int) : Prop := 1 ≤ x ∧ x ≤ 1000000000000000000000000000000
theorem divW {i j : Int} (h : 0 < j) (h2 : j ≤ 10000000000000000000000000000000000000000000000000000000000000000000000) : CDivW i j :=
  wide_div (b := 300) h (by have e : (10000000000000000000000000000000000000000000000000000000000000000000000 : Int) ≤ 2 ^ 300 := by decide
                            omega) (by decide) (by decide)
theorem mulW {i j : Int} (h : -10000000000000000000000000000000000000000000000000000000000000000000000 ≤ i ∧ i ≤ 10000000000000000000000000000000000000000000000000000000000000000000000)
    (h2 : -10000000000000000000000000000000000000000000000000000000000000000000000 ≤ j ∧ j ≤ 10000000000000000000000000000000000000000000000000000000000000000000000) : CMulW i j :=
  wide_mul (a := 300) (b := 300) (by have e : (10000000000000000000000000000000000000000000000000000000000000000000000 : Int) < 2 ^ 300 := by decide
                                     omega) (by have e : (10000000000000000000000000000000000000000000000000000000000000000000000 : Int) < 2 ^ 300 := by decide
                                                omega) (by decide) (by decide) (by decide)

/-! ### loops, lists that are the def's own -/
def Exb (l : Addr) (H H2 : Hp) : Prop := ∀ b o, H b = some o → b ≠ l → H2 b = some o
theorem Exb.base {l : Addr} {H0 H H2 : Hp} (b : Exb l H H2) (h0 : H0 l = none) (e : Ex H0 H) : Ex H0 H2 := fun a o h => b a o (e a o h) (ne_of_none h h0)
theorem Exb.upd {l : Addr} {H : Hp} {o : HO} : Exb l H (upd H l o) := fun b u h n => by rw [upd_ne n]; exact h
theorem Ex.at {H H' : Hp} {l : Addr} {o : HO} (e : Ex H H') (h : H l = some o) : H' l = some o := e l o h
theorem Exb.rdT {l : Addr} {H H2 : Hp} {xs ys : List V} {a : Addr} (b : Exb l H H2) (h : H l = some (.lst xs)) (r : Rd H a (.tup ys)) : Rd H2 a (.tup ys) := by
  rcases r with r | ⟨o, r⟩
  · exact .inl (b a _ r (ne_of r h (by intro z; cases z)))
  · exact .inr ⟨o, b a _ r (ne_of r h (by intro z; cases z))⟩
theorem Exb.tup {K : PySem.W.Frag} {l : Addr} {H H2 : Hp} {xs ys : List V} {a : Addr} (b : Exb l H H2) (h : H l = some (.lst xs)) (r : SqT K H a ys) : SqT K H2 a ys := by
  rcases r with r | r
  · exact .inl (b.rdT h r)
  · exact .inr r
theorem Exb.pr {K : PySem.W.Frag} {l : Addr} {H H2 : Hp} {xs : List V} {v : V} {x y : Int} (b : Exb l H H2) (h : H l = some (.lst xs)) (r : Pr K H v x y) : Pr K H2 v x y := by
  obtain ⟨a, rfl, r⟩ := r
  exact ⟨a, rfl, b.tup h r⟩
section
variable {K : PySem.W.Frag} {σ : L2.St} {H : Hp} {Q : VK} {te : TE} {D : Ends} {ts us : TS} {tt : TT} {v : V} {l : Addr}
def rBmL (K : PySem.W.Frag) (r : V → List V → Hp → VK → Prop) (t : TA) (σ : L2.St) (x : V) (H : Hp) (Q : VK) : Prop := tyV K "list" x H ∧ t σ H fun xs H2 => r x xs H2 Q
theorem d_bmL {r : V → List V → Hp → VK → Prop} {t : TA} (q : te σ H fun x H1 => rBmL K r t σ x H1 Q) : tBM K "list" r te t σ H Q := q
theorem d_rBmL {r : V → List V → Hp → VK → Prop} {t : TA} {p : Addr} {xs : List V} (h : SqL K H p xs) (q : t σ H fun ys H2 => r (.ref p) ys H2 Q) : rBmL K r t σ (.ref p) H Q := ⟨.inl ⟨rfl, xs, h⟩, q⟩
theorem d_append {xs : List V} (hl : H l = some (.lst xs)) (hn : xs.length < sizeLine) (q : ∀ H2, Exb l H H2 → H2 l = some (.lst (xs ++ [v])) → Q .non H2) : rAppend (.ref l) [v] H Q :=
  ⟨l, xs, v, rfl, rfl, hl, hn, q _ Exb.upd upd_same⟩
theorem at_int {ns : List Int} {i : Nat} {n : Int} (h : ns[i]? = some n) : atI (ns.map V.int) (i : Int) = some (.int n) := atI_nat (by rw [List.getElem?_map, h]; rfl)
theorem d_while (W : Nat → L2.St → Hp → Prop) (m0 : Nat) (h0 : W m0 σ H) (hs : ∀ m σ' H', W m σ' H' → ∃ b, EvT tt σ' H' b ∧
    (b = true → ∀ H1, Ex H' H1 → ts { D with nx := fun σ2 H2 => ∃ m', m' < m ∧ W m' σ2 H2, ct := fun σ2 H2 => ∃ m', m' < m ∧ W m' σ2 H2, bk := D.nx } σ' H1) ∧ (b = false → ∀ H1, Ex H' H1 → D.nx σ' H1)) : tWhile tt ts D σ H :=
  s_while W m0 h0 fun m σ' H' w => by
    obtain ⟨b, h1, h2, h3⟩ := hs m σ' H' w
    exact ⟨b, h1, fun e H1 e1 => ⟨_, fun _ _ z => z, h2 e H1 e1⟩, h3⟩
theorem d_for1 {ta : TA} {j : Nat} {n : Int} (h : EvA ta σ H [.int n]) (hn : 0 ≤ n ∧ n ≤ 100000) (Pv : Nat → L2.St → Hp → Prop) (h0 : ∀ H1, Ex H H1 → Pv 0 σ H1)
    (hs : ∀ (i : Nat) σ' H', (i : Int) < n → Pv i σ' H' → ts { D with nx := Pv (i + 1), ct := Pv (i + 1), bk := D.nx } (σ'.set j (some (.int (i : Int)))) H') (hd : ∀ σ' H', Pv n.toNat σ' H' → D.nx σ' H') : tFor (iRng1 ta) (gName j) ts D σ H :=
  s_forR1 h hn Pv h0 hs hd
end

/-! ### tables -/
section
variable {K : PySem.W.Frag} {H H' : Hp}
def Prs (K : PySem.W.Frag) (H : Hp) : List V → List (Int × Int) → Prop
  | [], [] => True
  | w :: ws, p :: ps => Pr K H w p.1 p.2 ∧ Prs K H ws ps
  | _, _ => False
theorem Prs.len : ∀ {ws : List V} {ps : List (Int × Int)}, Prs K H ws ps → ws.length = ps.length
  | [], [], _ => rfl
  | _ :: ws, _ :: ps, h => by rw [List.length_cons, List.length_cons, Prs.len h.2]
  | [], _ :: _, h => h.elim
  | _ :: _, [], h => h.elim
theorem Prs.imp (f : ∀ w x y, Pr K H w x y → Pr K H' w x y) : ∀ {ws : List V} {ps : List (Int × Int)}, Prs K H ws ps → Prs K H' ws ps
  | [], [], _ => trivial
  | _ :: ws, _ :: ps, h => ⟨f _ _ _ h.1, Prs.imp f h.2⟩
  | [], _ :: _, h => h.elim
  | _ :: _, [], h => h.elim
theorem Prs.mono {ws : List V} {ps : List (Int × Int)} (e : Ex H H') (h : Prs K H ws ps) : Prs K H' ws ps := h.imp fun _ _ _ q => q.mono e
theorem Prs.exb {l : Addr} {xs ws : List V} {ps : List (Int × Int)} (b : Exb l H H') (hl : H l = some (.lst xs)) (h : Prs K H ws ps) : Prs K H' ws ps := h.imp fun _ _ _ q => b.pr hl q
theorem Prs.get : ∀ {ws : List V} {ps : List (Int × Int)} {i : Nat} {w : V}, Prs K H ws ps → ws[i]? = some w → ∃ p, ps[i]? = some p ∧ Pr K H w p.1 p.2
  | w :: ws, p :: ps, 0, v, h, e => by
    have e : w = v := Option.some.inj e
    subst e
    exact ⟨p, rfl, h.1⟩
  | w :: ws, p :: ps, i + 1, v, h, e => Prs.get (i := i) h.2 e
  | [], [], i, v, h, e => by simp at e
  | [], _ :: _, _, _, h, _ => h.elim
  | _ :: _, [], _, _, h, _ => h.elim
theorem Prs.at {ws : List V} {ps : List (Int × Int)} {i : Nat} {p : Int × Int} (h : Prs K H ws ps) (e : ps[i]? = some p) : ∃ w, ws[i]? = some w ∧ Pr K H w p.1 p.2 := by
  have hl := (List.getElem?_eq_some_iff.mp e).1
  have e2 : ws[i]? = some (ws[i]'(by rw [h.len]; exact hl)) := List.getElem?_eq_getElem _
  obtain ⟨q, e3, h3⟩ := h.get e2
  rw [e] at e3
  cases e3
  exact ⟨_, e2, h3⟩
theorem Prs.app : ∀ {ws us : List V} {ps qs : List (Int × Int)}, Prs K H ws ps → Prs K H us qs → Prs K H (ws ++ us) (ps ++ qs)
  | [], _, [], _, _, g => g
  | _ :: ws, _, _ :: ps, _, h, g => ⟨h.1, Prs.app h.2 g⟩
  | [], _, _ :: _, _, h, _ => h.elim
  | _ :: _, _, [], _, h, _ => h.elim
theorem Prs.one {w : V} {x y : Int} (h : Pr K H w x y) : Prs K H [w] [(x, y)] := ⟨h, trivial⟩
theorem Prs.take : ∀ (n : Nat) {ws : List V} {ps : List (Int × Int)}, Prs K H ws ps → Prs K H (ws.take n) (ps.take n)
  | 0, _, _, _ => trivial
  | n + 1, [], [], _ => trivial
  | n + 1, _ :: ws, _ :: ps, h => ⟨h.1, Prs.take n h.2⟩
  | _ + 1, [], _ :: _, h => h.elim
  | _ + 1, _ :: _, [], h => h.elim
theorem Prs.drop : ∀ (n : Nat) {ws : List V} {ps : List (Int × Int)}, Prs K H ws ps → Prs K H (ws.drop n) (ps.drop n)
  | 0, _, _, h => h
  | n + 1, [], [], _ => trivial
  | n + 1, _ :: ws, _ :: ps, h => Prs.drop n h.2
  | _ + 1, [], _ :: _, h => h.elim
  | _ + 1, _ :: _, [], h => h.elim
/-- v is a list of pairs -/
def Tb (K : PySem.W.Frag) (H : Hp) (v : V) (T : List (Int × Int)) : Prop := ∃ a ws, v = .ref a ∧ SqL K H a ws ∧ Prs K H ws T
theorem Tb.mono {v : V} {T : List (Int × Int)} (e : Ex H H') (h : Tb K H v T) : Tb K H' v T := by
  obtain ⟨a, ws, rfl, h1, h2⟩ := h
  exact ⟨a, ws, rfl, ex_l e h1, h2.mono e⟩
def GdT (T : List (Int × Int)) : Prop := ∀ p ∈ T, Gd p.1 ∧ Gd p.2

/-! ### == of pairs and tables -/
def dP (p : Int × Int) : PyData := .tuple [.int p.1, .int p.2]
def dT (T : List (Int × Int)) : PyData := .list (T.map dP)
theorem Pr.dp {v : V} {x y : Int} (h : Pr K H v x y) : Dp K H v (dP (x, y)) := by
  obtain ⟨a, rfl, h⟩ := h
  exact .tup h (.cons (.int x) (.cons (.int y) .nil))
theorem Prs.dp : ∀ {ws : List V} {ps : List (Int × Int)}, Prs K H ws ps → DpAll K H ws (ps.map dP)
  | [], [], _ => .nil
  | _ :: ws, _ :: ps, h => .cons h.1.dp (Prs.dp h.2)
  | [], _ :: _, h => h.elim
  | _ :: _, [], h => h.elim
theorem Tb.dp {v : V} {T : List (Int × Int)} (h : Tb K H v T) : Dp K H v (dT T) := by
  obtain ⟨a, ws, rfl, h1, h2⟩ := h
  exact .lst h1 h2.dp
theorem dP_shaped (p : Int × Int) : SeqAt.shaped (dP p) = true := rfl
theorem dPs_lay : ∀ T : List (Int × Int), PyData.canLayAll0 (T.map dP) = true
  | [] => rfl
  | p :: T => by
    show (PyData.canLay0 (dP p) && PyData.canLayAll0 (T.map dP)) = true
    rw [dPs_lay T]
    rfl
theorem dPs_depth : ∀ T : List (Int × Int), PyData.depthAll (T.map dP) ≤ 1
  | [] => Nat.zero_le _
  | p :: T => by
    show max (PyData.depth (dP p)) (PyData.depthAll (T.map dP)) ≤ 1
    have := dPs_depth T
    have e : PyData.depth (dP p) = 1 := rfl
    omega
theorem dT_shaped (T : List (Int × Int)) : SeqAt.shaped (dT T) = true := by
  have h1 : PyData.canLay0 (dT T) = true := dPs_lay T
  have h2 : PyData.depth (dT T) ≤ 64 := by
    show PyData.depthAll (T.map dP) + 1 ≤ 64
    have := dPs_depth T
    omega
  unfold SeqAt.shaped
  rw [h1, decide_eq_true h2]
  rfl
theorem dP_eqv (p q : Int × Int) : PyData.eqv (dP p) (dP q) = decide (p = q) := by
  show ((p.1 == q.1) && ((p.2 == q.2) && true)) = _
  rw [Bool.and_true, Bool.eq_iff_iff]
  simp [Prod.ext_iff]
theorem dPs_eqv : ∀ T U : List (Int × Int), PyData.eqvAll (T.map dP) (U.map dP) = decide (T = U)
  | [], [] => rfl
  | p :: T, q :: U => by
    show (PyData.eqv (dP p) (dP q) && PyData.eqvAll (T.map dP) (U.map dP)) = _
    rw [dP_eqv, dPs_eqv T U, Bool.eq_iff_iff]
    simp
  | [], _ :: _ => by
    show false = _
    simp
  | _ :: _, [] => by
    show false = _
    simp
variable {Q : VK}
theorem d_eqP {v u : V} {x y x' y' : Int} (h : Pr K H v x y) (h' : Pr K H u x' y') (q : Q (.bl (decide ((x, y) = (x', y')))) H) : rEqD K v u H Q := ⟨_, _, h.dp, h'.dp, dP_shaped _, dP_shaped _, by rw [dP_eqv]; exact q⟩
theorem d_neP {v u : V} {x y x' y' : Int} (h : Pr K H v x y) (h' : Pr K H u x' y') (q : Q (.bl (!decide ((x, y) = (x', y')))) H) : rNeD K v u H Q := ⟨_, _, h.dp, h'.dp, dP_shaped _, dP_shaped _, by rw [dP_eqv]; exact q⟩
theorem d_eqT {v u : V} {T U : List (Int × Int)} (h : Tb K H v T) (h' : Tb K H u U) (q : Q (.bl (decide (T = U))) H) : rEqD K v u H Q := ⟨_, _, h.dp, h'.dp, dT_shaped _, dT_shaped _, by
  have e : PyData.eqv (dT T) (dT U) = decide (T = U) := dPs_eqv T U
  rw [e]; exact q⟩
theorem d_neT {v u : V} {T U : List (Int × Int)} (h : Tb K H v T) (h' : Tb K H u U) (q : Q (.bl (!decide (T = U))) H) : rNeD K v u H Q := ⟨_, _, h.dp, h'.dp, dT_shaped _, dT_shaped _, by
  have e : PyData.eqv (dT T) (dT U) = decide (T = U) := dPs_eqv T U
  rw [e]; exact q⟩
end
section
variable {X : Cx}
/-- list(xs): a new list -/
def rListN (K : PySem.W.Frag) : List V → Hp → VK → Prop := fun vs H Q => ∃ p ys, vs = [.ref p] ∧ SqL K H p ys ∧ ∀ l, H l = none → Q (.ref l) (upd H l (.lst ys))
theorem call_listS : CallR X (.type "list") (rListN X.K) := by
  intro pins s σ H xs us Q I r h
  obtain ⟨p, ys, e, h, q⟩ := h
  exact call_list_of pins s σ H xs us Q I r ⟨p, ys, e, .inl h, q⟩
end
section
variable {K : PySem.W.Frag} {σ : L2.St} {H : Hp} {Q : VK} {te tl : TE} {D : Ends} {ts us : TS} {tt : TT} {v : V} {l : Addr}
theorem d_listT {v : V} {T : List (Int × Int)} (h : Tb K H v T) (q : ∀ p H2 ws, H p = none → Ex H H2 → H2 p = some (.lst ws) → Prs K H2 ws T → Tb K H2 (.ref p) T → Q (.ref p) H2) : rListN K [v] H Q := by
  obtain ⟨a, ws, rfl, h1, h2⟩ := h
  exact ⟨a, ws, rfl, h1, fun l hl => q l _ ws hl (Ex.new hl) upd_same (h2.mono (Ex.new hl)) ⟨l, ws, rfl, sq_of upd_same, h2.mono (Ex.new hl)⟩⟩
theorem d_listL {p : Addr} {ys : List V} (h : SqL K H p ys) (q : ∀ p H2, H p = none → Ex H H2 → H2 p = some (.lst ys) → Q (.ref p) H2) : rListN K [.ref p] H Q := ⟨p, ys, rfl, h, fun l hl => q l _ hl (Ex.new hl) upd_same⟩
theorem d_lenT {v : V} {T : List (Int × Int)} (h : Tb K H v T) (q : Q (.int (T.length : Int)) H) : rLenS K [v] H Q := by
  obtain ⟨a, ws, rfl, h1, h2⟩ := h
  rw [← h2.len] at q
  exact ⟨a, ws, rfl, .inl h1, q⟩
theorem d_ixTb {v : V} {T : List (Int × Int)} {i : Nat} {p : Int × Int} (h : Tb K H v T) (hi : T[i]? = some p) (q : ∀ w, Pr K H w p.1 p.2 → Q w H) : rIxL K v (.int (i : Int)) H Q := by
  obtain ⟨a, ws, rfl, h1, h2⟩ := h
  obtain ⟨w, e, h3⟩ := h2.at hi
  exact ⟨a, ws, i, w, rfl, rfl, h1, atI_nat e, q w h3⟩
/-- for over a table -/
theorem d_forT {T : List (Int × Int)} {j : Nat} (h : Ev tl σ H v) (hT : Tb K H v T) (Pv : Nat → L2.St → Hp → Prop) (h0 : ∀ H1, Ex H H1 → Pv 0 σ H1) (hl : ∀ i σ' H', Pv i σ' H' → Ex H H')
    (hs : ∀ i w p σ' H', T[i]? = some p → Pr K H' w p.1 p.2 → Pv i σ' H' → ts { D with nx := Pv (i + 1), ct := Pv (i + 1), bk := D.nx } (σ'.set j (some w)) H') (hd : ∀ σ' H', Pv T.length σ' H' → D.nx σ' H') : tFor (iList K tl) (gName j) ts D σ H := by
  obtain ⟨a, ws, rfl, h1, h2⟩ := hT
  refine s_forL (xs := ws) h h1 Pv h0 (fun i σ' H' _ p => ex_l (hl i σ' H' p) h1) (fun i w σ' H' e p => ?_) (fun σ' H' p => hd σ' H' (by rw [← h2.len]; exact p))
  obtain ⟨q, e2, h3⟩ := h2.get e
  exact hs i w q σ' H' e2 (h3.mono (hl i σ' H' p)) p
/-- for over a tuple that is made on the way -/
theorem d_forU {xs : List V} {j : Nat} (h : EvU tl σ H xs) (Pv : Hp → Nat → L2.St → Hp → Prop) (h0 : ∀ H1, Ex H H1 → Pv H1 0 σ H1) (hl : ∀ H1 i σ' H', Pv H1 i σ' H' → Ex H1 H')
    (hs : ∀ H1 i x σ' H', Ex H H1 → xs[i]? = some x → Pv H1 i σ' H' → ts { D with nx := Pv H1 (i + 1), ct := Pv H1 (i + 1), bk := D.nx } (σ'.set j (some x)) H') (hd : ∀ H1 σ' H', Ex H H1 → Pv H1 xs.length σ' H' → D.nx σ' H') : tFor (iTup K tl) (gName j) ts D σ H :=
  h H (Ex.refl H) _ fun p H1 hp e h1 => ⟨p, rfl, ⟨xs, st_of h1⟩, for_tup (Pv H1) (h0 H1 e) (fun i σ' H' _ q => ex_t (hl H1 i σ' H' q) (st_of h1)) (fun i x σ' H' hx q => hs H1 i x σ' H' e hx q) (fun σ' H' q => hd H1 σ' H' e q)⟩
/-- an expression whose value is told by R -/
def EvR (te : TE) (σ : L2.St) (H : Hp) (R : V → Hp → Prop) : Prop := ∀ Q : VK, (∀ y H4, Ex H H4 → R y H4 → Q y H4) → te σ H Q
theorem er_ev {R : V → Hp → Prop} (h : Ev te σ H v) (r : ∀ H1, Ex H H1 → R v H1) : EvR te σ H R := fun Q q => h H (Ex.refl H) Q fun H2 e2 => q v H2 e2 (r H2 e2)
theorem et_yes : EvT tYes σ H true := fun H1 _ Q q => q H1 (Ex.refl H1)
def Lcv (R : Nat → List V → Hp → Prop) (H0 : Hp) (D : Addr) (i : Nat) (H' : Hp) : Prop := ∃ acc, H0 D = none ∧ Ex H0 H' ∧ H' D = some (.lst acc) ∧ acc.length ≤ i ∧ R i acc H'
theorem lc_turn {R : Nat → List V → Hp → Prop} {H0 H' : Hp} {D : Addr} {i : Nat} {σ2 : L2.St} (p : Lcv R H0 D i H') (hi : i < 100000)
    (hR : ∀ D i acc acc' H1 H2, Exb D H1 H2 → H1 D = some (.lst acc') → R i acc H1 → R i acc H2)
    (hs : ∀ acc, Ex H0 H' → acc.length ≤ i → R i acc H' → ∃ b, EvT tt σ2 H' b ∧ (b = true → ∀ H3, Ex H' H3 → EvR te σ2 H3 (R (i + 1) <| acc ++ [·])) ∧ (b = false → ∀ H3, Ex H' H3 → R (i + 1) acc H3)) :
    tt σ2 H' fun b H3 => if b = true then te σ2 H3 fun y H4 => ∃ acc, H4 D = some (.lst acc) ∧ acc.length < sizeLine ∧ Lcv R H0 D (i + 1) (upd H4 D (.lst (acc ++ [y]))) else Lcv R H0 D (i + 1) H3 := by
  obtain ⟨acc, p1, p2, p3, p4, p5⟩ := p
  obtain ⟨b, h1, h2, h3⟩ := hs acc p2 p4 p5
  refine h1 H' (Ex.refl H') _ fun H3 e3 => ?_
  cases b with
  | true =>
    rw [if_pos rfl]
    refine h2 rfl H3 e3 _ fun y H4 e4 r => ⟨acc, e4 _ _ (e3 _ _ p3), sz_lt (by omega), acc ++ [y], p1, Ex.mut ((p2.trans e3).trans e4) p1, upd_same, by simp; omega, ?_⟩
    exact hR D _ _ acc _ _ Exb.upd (e4 _ _ (e3 _ _ p3)) r
  | false =>
    rw [if_neg Bool.false_ne_true]
    exact ⟨acc, p1, p2.trans e3, e3 _ _ p3, by omega, h3 rfl H3 e3⟩
theorem d_lcL {a : Addr} {xs : List V} {j : Nat} {vs : List Nat} (h : Ev tl σ H (.ref a)) (hx : SqL K H a xs) (hz : xs.length ≤ 100000) (R : Nat → List V → Hp → Prop)
    (hR : ∀ D i acc acc' H1 H2, Exb D H1 H2 → H1 D = some (.lst acc') → R i acc H1 → R i acc H2) (hw : ∀ x, wipe ((wipe σ vs).set j (some x)) vs = wipe σ vs) (h0 : ∀ H1, Ex H H1 → R 0 [] H1)
    (hs : ∀ i x acc H', xs[i]? = some x → Ex H H' → acc.length ≤ i → R i acc H' → ∃ b, EvT tt ((wipe σ vs).set j (some x)) H' b ∧ (b = true → ∀ H3, Ex H' H3 → EvR te ((wipe σ vs).set j (some x)) H3 (R (i + 1) <| acc ++ [·])) ∧ (b = false → ∀ H3, Ex H' H3 → R (i + 1) acc H3))
    (q : ∀ p H2 acc, H p = none → Ex H H2 → H2 p = some (.lst acc) → R xs.length acc H2 → Q (.ref p) H2) : tLc (iList K tl) (gName j) tt te vs σ H Q := h H (Ex.refl H) _ fun H1 e1 => ⟨a, rfl, ⟨xs, ex_l e1 hx⟩, fun D hD =>
  lc_list (xs := xs) (Lcv R H1 D) ⟨[], hD, Ex.new hD, upd_same, Nat.le_refl _, h0 _ (e1.trans (Ex.new hD))⟩ (fun i H' _ p => ex_l (e1.trans p.choose_spec.2.1) hx)
    (fun i x H' hi p => ⟨hw x, lc_turn p (by have := (List.getElem?_eq_some_iff.mp hi).1; omega) hR fun acc e g r => hs i x acc H' hi (e1.trans e) g r⟩)
    fun H' p => by
      obtain ⟨acc, p1, p2, p3, p4, p5⟩ := p
      exact q D H' acc (fresh_back e1 p1) (e1.trans p2) p3 p5⟩
theorem d_lcT {T : List (Int × Int)} {j : Nat} {vs : List Nat} (h : Ev tl σ H v) (hT : Tb K H v T) (hz : T.length ≤ 100000) (R : Nat → List V → Hp → Prop)
    (hR : ∀ D i acc acc' H1 H2, Exb D H1 H2 → H1 D = some (.lst acc') → R i acc H1 → R i acc H2) (hw : ∀ x, wipe ((wipe σ vs).set j (some x)) vs = wipe σ vs) (h0 : ∀ H1, Ex H H1 → R 0 [] H1)
    (hs : ∀ i w p acc H', T[i]? = some p → Pr K H' w p.1 p.2 → Ex H H' → acc.length ≤ i → R i acc H' → ∃ b, EvT tt ((wipe σ vs).set j (some w)) H' b ∧ (b = true → ∀ H3, Ex H' H3 → EvR te ((wipe σ vs).set j (some w)) H3 (R (i + 1) <| acc ++ [·])) ∧ (b = false → ∀ H3, Ex H' H3 → R (i + 1) acc H3))
    (q : ∀ p H2 acc, H p = none → Ex H H2 → H2 p = some (.lst acc) → R T.length acc H2 → Q (.ref p) H2) : tLc (iList K tl) (gName j) tt te vs σ H Q := by
  obtain ⟨a, ws, rfl, h1, h2⟩ := hT
  refine d_lcL h h1 (by rw [h2.len]; exact hz) R hR hw h0 (fun i x acc H' hi e g r => ?_) (fun p H2 acc f e g r => q p H2 acc f e g (by rw [← h2.len]; exact r))
  obtain ⟨p, e2, h3⟩ := h2.get hi
  exact hs i x p acc H' e2 (h3.mono e) e g r
theorem d_lcR {ta : TA} {n : Int} {j : Nat} {vs : List Nat} (h : EvA ta σ H [.int n]) (hn : 0 ≤ n ∧ n ≤ 100000) (R : Nat → List V → Hp → Prop)
    (hR : ∀ D i acc acc' H1 H2, Exb D H1 H2 → H1 D = some (.lst acc') → R i acc H1 → R i acc H2) (hw : ∀ x, wipe ((wipe σ vs).set j (some x)) vs = wipe σ vs) (h0 : ∀ H1, Ex H H1 → R 0 [] H1)
    (hs : ∀ (i : Nat) acc H', (i : Int) < n → Ex H H' → acc.length ≤ i → R i acc H' → ∃ b, EvT tt ((wipe σ vs).set j (some (.int (i : Int)))) H' b ∧ (b = true → ∀ H3, Ex H' H3 → EvR te ((wipe σ vs).set j (some (.int (i : Int)))) H3 (R (i + 1) <| acc ++ [·])) ∧ (b = false → ∀ H3, Ex H' H3 → R (i + 1) acc H3))
    (q : ∀ p H2 acc, H p = none → Ex H H2 → H2 p = some (.lst acc) → R n.toNat acc H2 → Q (.ref p) H2) : tLc (iRng1 ta) (gName j) tt te vs σ H Q := h H (Ex.refl H) _ fun H1 e1 => ⟨n, rfl, by omega, by omega, fun D hD =>
  lc_range (lo := 0) (n := n.toNat) (Lcv R H1 D) ⟨[], hD, Ex.new hD, upd_same, Nat.le_refl _, h0 _ (e1.trans (Ex.new hD))⟩
    (fun i H' hi p => by
      have e0 : (0 : Int) + (i : Int) = (i : Int) := Int.zero_add _
      show wipe ((wipe σ vs).set j (some (.int ((0 : Int) + (i : Int))))) vs = wipe σ vs ∧ tt ((wipe σ vs).set j (some (.int ((0 : Int) + (i : Int))))) H' _
      rw [e0]
      exact ⟨hw _, lc_turn p (by omega) hR fun acc e g r => hs i acc H' (by omega) (e1.trans e) g r⟩)
    fun H' p => by
      obtain ⟨acc, p1, p2, p3, p4, p5⟩ := p
      exact q D H' acc (fresh_back e1 p1) (e1.trans p2) p3 p5⟩
end

section
variable {K : PySem.W.Frag} {σ : L2.St} {H : Hp} {Q : VK} {te tl : TE} {tt : TT} {v : V}
/-- len(set(xs)) of unlike ints; x in xs -/
def rLenSet (K : PySem.W.Frag) (x : V) (H : Hp) (Q : VK) : Prop := ∃ (l : Addr) (ns : List Int), x = .ref l ∧ SqL K H l (ns.map V.int) ∧ ns.Nodup ∧ ns.length ≤ 4000 ∧ Q (.int (ns.length : Nat)) H
theorem d_lenSet (q : te σ H fun x H1 => rLenSet K x H1 Q) : RZ.tLenSetI K te σ H Q := q
theorem d_rLenSet {l : Addr} {ns : List Int} (h : SqL K H l (ns.map V.int)) (hn : ns.Nodup) (hl : ns.length ≤ 4000) (q : Q (.int (ns.length : Int)) H) : rLenSet K (.ref l) H Q := ⟨l, ns, rfl, h, hn, hl, q⟩
theorem inV_int (i : Int) (ns : List Int) : inV (.int i) (ns.map V.int) = decide (i ∈ ns) := by
  unfold inV
  rw [Bool.eq_iff_iff, List.any_map, List.any_eq_true, decide_eq_true_eq]
  constructor
  · rintro ⟨n, hn, e⟩
    have e : (n == i) = true := e
    have : n = i := by simpa using e
    exact this ▸ hn
  · intro h
    exact ⟨i, h, by show (i == i) = true; simp⟩
theorem flat_ints (ns : List Int) : (ns.map V.int).all flatV = true := by
  rw [List.all_map, List.all_eq_true]
  intro n _
  rfl
theorem d_inI {p : Addr} {i : Int} {ns : List Int} (h : SqL K H p (ns.map V.int)) (q : Q (.bl (decide (i ∈ ns))) H) : rIn K false (.int i) (.ref p) H Q := ⟨p, _, rfl, .inl h, rfl, flat_ints ns, by rw [inV_int]; exact q⟩
theorem d_notInI {p : Addr} {i : Int} {ns : List Int} (h : SqL K H p (ns.map V.int)) (q : Q (.bl (!decide (i ∈ ns))) H) : rIn K true (.int i) (.ref p) H Q := ⟨p, _, rfl, .inl h, rfl, flat_ints ns, by rw [inV_int]; exact q⟩
theorem d_lcR2 {ta : TA} {lo n : Int} {j : Nat} {vs : List Nat} (h : EvA ta σ H [.int lo, .int n]) (hn : 0 ≤ lo ∧ lo ≤ 100000 ∧ -100000 ≤ n ∧ n ≤ 100000) (R : Nat → List V → Hp → Prop)
    (hR : ∀ D i acc acc' H1 H2, Exb D H1 H2 → H1 D = some (.lst acc') → R i acc H1 → R i acc H2) (hw : ∀ x, wipe ((wipe σ vs).set j (some x)) vs = wipe σ vs) (h0 : ∀ H1, Ex H H1 → R 0 [] H1)
    (hs : ∀ (i : Nat) acc H', lo + (i : Int) < n → Ex H H' → acc.length ≤ i → R i acc H' → ∃ b, EvT tt ((wipe σ vs).set j (some (.int (lo + (i : Int))))) H' b ∧ (b = true → ∀ H3, Ex H' H3 → EvR te ((wipe σ vs).set j (some (.int (lo + (i : Int))))) H3 (R (i + 1) <| acc ++ [·])) ∧ (b = false → ∀ H3, Ex H' H3 → R (i + 1) acc H3))
    (q : ∀ p H2 acc, H p = none → Ex H H2 → H2 p = some (.lst acc) → R (n - lo).toNat acc H2 → Q (.ref p) H2) : tLc (iRng2 ta) (gName j) tt te vs σ H Q := h H (Ex.refl H) _ fun H1 e1 => ⟨lo, n, rfl, by omega, fun D hD =>
  lc_range (lo := lo) (n := (n - lo).toNat) (Lcv R H1 D) ⟨[], hD, Ex.new hD, upd_same, Nat.le_refl _, h0 _ (e1.trans (Ex.new hD))⟩
    (fun i H' hi p => ⟨hw _, lc_turn p (by omega) hR fun acc e g r => hs i acc H' (by omega) (e1.trans e) g r⟩)
    fun H' p => by
      obtain ⟨acc, p1, p2, p3, p4, p5⟩ := p
      exact q D H' acc (fresh_back e1 p1) (e1.trans p2) p3 p5⟩
end

/-! ### a dict with pairs as keys; what a call may change besides -/
section
variable {K : PySem.W.Frag} {σ : L2.St} {H : Hp} {Q : VK} {te tl td ty tv : TE} {tt : TT} {v : V} {D : Ends}
theorem Exb.refl {l : Addr} (H : Hp) : Exb l H H := fun _ _ h _ => h
theorem Exb.trans {l : Addr} {H H1 H2 : Hp} (a : Exb l H H1) (b : Exb l H1 H2) : Exb l H H2 := fun c o h n => b c o (a c o h n) n
theorem Exb.of {l : Addr} {H H1 : Hp} (e : Ex H H1) : Exb l H H1 := fun b o h _ => e b o h
theorem Exb.rdTd {l : Addr} {H H2 : Hp} {kvs : List (List Key × V)} {ys : List V} {a : Addr} (b : Exb l H H2) (h : H l = some (.dT kvs)) (r : Rd H a (.tup ys)) : Rd H2 a (.tup ys) := by
  rcases r with r | ⟨o, r⟩
  · exact .inl (b a _ r (ne_of r h (by intro z; cases z)))
  · exact .inr ⟨o, b a _ r (ne_of r h (by intro z; cases z))⟩
theorem Exb.prd {l : Addr} {H H2 : Hp} {kvs : List (List Key × V)} {v : V} {x y : Int} (b : Exb l H H2) (h : H l = some (.dT kvs)) (r : Pr K H v x y) : Pr K H2 v x y := by
  obtain ⟨a, rfl, r⟩ := r
  rcases r with r | r
  · exact ⟨a, rfl, .inl (b.rdTd h r)⟩
  · exact ⟨a, rfl, .inr r⟩
theorem Exb.prsd {l : Addr} {H H2 : Hp} {kvs : List (List Key × V)} {v : V} {x y : Int} (b : Exb l H H2) (h : H l = some (.dT kvs)) (r : PrS H v x y) : PrS H2 v x y := by
  obtain ⟨a, rfl, r⟩ := r
  exact ⟨a, rfl, b a _ r (ne_of r h (by intro z; cases z))⟩
theorem Exb.prs {l : Addr} {H H2 : Hp} {xs : List V} {v : V} {x y : Int} (b : Exb l H H2) (h : H l = some (.lst xs)) (r : PrS H v x y) : PrS H2 v x y := by
  obtain ⟨a, rfl, r⟩ := r
  exact ⟨a, rfl, b a _ r (ne_of r h (by intro z; cases z))⟩
def kP (x y : Int) : List Key := [.inl x, .inl y]
theorem kP_map (x y : Int) : (kP x y).map kV = [.int x, .int y] := rfl
def rDNot (x y : V) (H : Hp) (Q : VK) : Prop := ∃ a o, x = .ref a ∧ DGet H a y o ∧ Q (.bl (!o.isSome)) H
theorem d_dnot (q : ty σ H fun y H1 => td σ H1 fun x H2 => rDNot x y H2 Q) : tDNotIn ty td σ H Q := q
theorem d_rDNot {a : Addr} {kvs : List (List Key × V)} {y : V} {i j : Int} (h : H a = some (.dT kvs)) (hp : PrS H y i j) (q : Q (.bl (!(valV kvs (kP i j)).isSome)) H) : rDNot (.ref a) y H Q := by
  obtain ⟨b, rfl, hb⟩ := hp
  exact ⟨a, _, rfl, DGet.t h (by rw [kP_map]; exact hb), q⟩
def rDGet (x y : V) (H : Hp) (Q : VK) : Prop := ∃ a v, x = .ref a ∧ DGet H a y (some v) ∧ Q v H
theorem d_dget (q : td σ H fun x H1 => ty σ H1 fun y H2 => rDGet x y H2 Q) : tDGet td ty σ H Q := q
theorem d_rDGet {a : Addr} {kvs : List (List Key × V)} {y v : V} {i j : Int} (h : H a = some (.dT kvs)) (hp : PrS H y i j) (hv : valV kvs (kP i j) = some v) (q : Q v H) : rDGet (.ref a) y H Q := by
  obtain ⟨b, rfl, hb⟩ := hp
  exact ⟨a, v, rfl, hv ▸ DGet.t h (by rw [kP_map]; exact hb), q⟩
def rDPut (D : Ends) (σ : L2.St) (x y v : V) (H : Hp) : Prop := ∃ a H4, x = .ref a ∧ DPut H a y v H4 ∧ D.nx σ H4
theorem d_dput (q : tv σ H fun v H1 => td σ H1 fun x H2 => ty σ H2 fun y H3 => rDPut D σ x y v H3) : sDPut td ty tv D σ H := q
theorem d_rDPut {a : Addr} {kvs : List (List Key × V)} {y v : V} {i j : Int} (h : H a = some (.dT kvs)) (hp : PrS H y i j) (hl : kvs.length < sizeLine) (q : ∀ H4, Exb a H H4 → H4 a = some (.dT (putK kvs (kP i j) v)) → D.nx σ H4) : rDPut D σ (.ref a) y v H := by
  obtain ⟨b, rfl, hb⟩ := hp
  exact ⟨a, _, rfl, DPut.t h (by rw [kP_map]; exact hb) hl, q _ Exb.upd upd_same⟩
theorem d_dnew (q : ∀ p H2, H p = none → Ex H H2 → H2 p = some (.dT []) → Q (.ref p) H2) : tDNewT σ H Q := fun p hp => q p _ hp (Ex.new hp) upd_same
theorem valV_new {kvs : List (List Key × V)} {k : List Key} {v : V} (h : valV kvs k = none) : putK kvs k v = kvs ++ [(k, v)] := by
  unfold putK
  have e := valV_any k kvs
  rw [h] at e
  rw [e, if_neg (by simp)]
theorem valV_app {kvs : List (List Key × V)} {k : List Key} {v : V} (h : valV kvs k = none) : valV (kvs ++ [(k, v)]) k = some v := by
  unfold valV at *
  rw [List.find?_append]
  have e : kvs.find? (fun kv => decide (kv.1 = k)) = none := by
    cases h2 : kvs.find? (fun kv => decide (kv.1 = k)) with
    | none => rfl
    | some p => rw [h2] at h; cases h
  rw [e]
  simp
theorem valV_mem {kvs : List (List Key × V)} {k : List Key} {v : V} (h : valV kvs k = some v) : (k, v) ∈ kvs := by
  unfold valV at h
  obtain ⟨p, hp, rfl⟩ := Option.map_eq_some_iff.mp h
  have h1 := List.mem_of_find?_eq_some hp
  have h2 : p.1 = k := of_decide_eq_true (List.find?_some (p := fun kv : List Key × V => decide (kv.1 = k)) hp)
  subst h2
  exact h1
theorem valV_not {kvs : List (List Key × V)} {k : List Key} (h : valV kvs k = none) : k ∉ kvs.map (·.1) := fun z => by
  obtain ⟨p, hp, e⟩ := List.mem_map.mp z
  have e2 := valV_any k kvs
  rw [h] at e2
  have : kvs.any (fun kv => decide (kv.1 = k)) = true := List.any_eq_true.mpr ⟨p, hp, decide_eq_true e⟩
  rw [this] at e2
  cases e2
/-- a comprehension over a list, whose turns may change the dict at kd -/
def Lcm (R : Nat → List V → Hp → Prop) (kd : Addr) (H0 : Hp) (D : Addr) (i : Nat) (H' : Hp) : Prop := ∃ acc, H0 D = none ∧ D ≠ kd ∧ Exb kd H0 H' ∧ H' D = some (.lst acc) ∧ acc.length ≤ i ∧ R i acc H'
/-- what is left of a comprehension, the list that it walks told -/
def rLc (K : PySem.W.Frag) (g : TG) (tt : TT) (te : TE) (vs : List Nat) (σ : L2.St) (x : V) (H1 : Hp) (Q : VK) : Prop := ∃ a, x = .ref a ∧ (∃ xs, SqL K H1 a xs) ∧ ∀ D, H1 D = none → ∃ W : Nat → Nat → Hp → Prop, (∃ m, W 0 m (upd H1 D (.lst []))) ∧ ∀ i m H, W i m H →
  ((Itl K a).stop i H ∧ Q (.ref D) H) ∨ ((Itl K a).go i H ∧ ∃ Nx : Hp → Prop, (∀ H', Nx H' → ∃ m', m' < m ∧ W (i + 1) m' H') ∧ ∀ x H', (Itl K a).yld i H x H' → g x (wipe σ vs) H' fun σ2 H2 => wipe σ2 vs = wipe σ vs ∧ tt σ2 H2 fun b H3 =>
    if b = true then te σ2 H3 fun y H4 => ∃ acc, H4 D = some (.lst acc) ∧ acc.length < sizeLine ∧ Nx (upd H4 D (.lst (acc ++ [y]))) else Nx H3)
theorem d_lc {g : TG} {vs : List Nat} (q : tl σ H fun x H1 => rLc K g tt te vs σ x H1 Q) : tLc (iList K tl) g tt te vs σ H Q := q
theorem d_rLcM {p kd : Addr} {xs : List V} {j : Nat} {vs : List Nat} {kvs : List (List Key × V)} (hz : xs.length ≤ 100000) (R : Nat → List V → Hp → Prop) (h1 : H p = some (.lst xs)) (hkd : H kd = some (.dT kvs))
    (hR : ∀ D i acc acc' H1 H2, Exb D H1 H2 → H1 D = some (.lst acc') → R i acc H1 → R i acc H2) (hw : ∀ x, wipe ((wipe σ vs).set j (some x)) vs = wipe σ vs) (h0 : ∀ H1, Ex H H1 → R 0 [] H1)
    (hs : ∀ i x acc H', xs[i]? = some x → Exb kd H H' → acc.length ≤ i → R i acc H' → ∀ Q' : VK, (∀ y H4, Exb kd H' H4 → R (i + 1) (acc ++ [y]) H4 → Q' y H4) → te ((wipe σ vs).set j (some x)) H' Q')
    (q : ∀ p H2 acc, H p = none → Exb kd H H2 → H2 p = some (.lst acc) → R xs.length acc H2 → Q (.ref p) H2) : rLc K (gName j) tYes te vs σ (.ref p) H Q := ⟨p, rfl, ⟨xs, sq_of h1⟩, fun D hD =>
  have ne : D ≠ kd := fun z => by rw [z, hkd] at hD; cases hD
  have nb : p ≠ kd := ne_of h1 hkd (by intro z; cases z)
  lc_list (xs := xs) (Lcm R kd H D) ⟨[], hD, ne, Exb.of (Ex.new hD), upd_same, Nat.le_refl _, h0 _ (Ex.new hD)⟩ (fun i H' _ q' => by
      obtain ⟨acc, p1, p2, p3, _⟩ := q'
      exact sq_of (p3 p _ h1 nb))
    (fun i x H' hi p' => ⟨hw x, by
      obtain ⟨acc, p1, p2, p3, p4, p5, p6⟩ := p'
      refine (show ∀ (Q : Bool → Hp → Prop), Q true H' → tYes (List.set (wipe σ vs) j (some x)) H' Q from fun _ q => q) _ ?_
      rw [if_pos rfl]
      refine hs i x acc H' hi p3 p5 p6 _ fun y H4 e4 r => ?_
      have hD4 := e4 _ _ p4 p2
      have e14 := p3.trans e4
      exact ⟨acc, hD4, sz_lt (by have := (List.getElem?_eq_some_iff.mp hi).1; omega), acc ++ [y], p1, p2, fun c o hc n => by
          rw [upd_ne (ne_of_none hc p1)]
          exact e14 c o hc n, upd_same, by simp; omega, hR D _ _ acc _ _ Exb.upd hD4 r⟩⟩)
    fun H' p' => by
      obtain ⟨acc, p1, p2, p3, p4, p5, p6⟩ := p'
      exact q D H' acc p1 p3 p4 p6⟩
end
end Tk

namespace Tk
open PySem PySem.Spec PyProof.Rows L2 Evl

/-! ### the quotients -/
def euN (g s : Nat) : List Int := if h : s = 0 then [] else ((g / s : Nat) : Int) :: euN s (g % s)
termination_by s
decreasing_by exact Nat.mod_lt _ (Nat.pos_of_ne_zero h)
def eu (g s : Int) : List Int := euN g.toNat s.toNat
theorem euN_zero (g : Nat) : euN g 0 = [] := by rw [euN]; rfl
theorem euN_step {g s : Nat} (h : 0 < s) : euN g s = ((g / s : Nat) : Int) :: euN s (g % s) := by
  rw [euN, dif_neg (by omega)]
theorem eu_zero {g s : Int} (h : s ≤ 0) : eu g s = [] := by
  unfold eu
  rw [show s.toNat = 0 by omega]
  exact euN_zero _
theorem eu_step {g s : Int} (hg : 0 ≤ g) (hs : 0 < s) : eu g s = g / s :: eu s (g % s) := by
  obtain ⟨a, rfl⟩ := Int.eq_ofNat_of_zero_le hg
  obtain ⟨b, rfl⟩ := Int.eq_ofNat_of_zero_le (Int.le_of_lt hs)
  have hb : 0 < b := by omega
  show euN a b = _ :: euN b (((a : Int) % (b : Int)).toNat)
  rw [euN_step hb]
  rfl
theorem half_mod {s r : Nat} (h0 : 0 < r) (h : r < s) : s % r < (s + 1) / 2 := by
  by_cases c : 2 * r ≤ s
  · have := Nat.mod_lt s h0
    omega
  · have e : s % r = s - r := by
      rw [Nat.mod_eq_sub_mod (by omega), Nat.mod_eq_of_lt (by omega)]
    omega
theorem euN_len : ∀ (k g s : Nat), s < 2 ^ k → (euN g s).length ≤ 2 * k
  | 0, g, s, h => by
    have e : s = 0 := by simpa using h
    rw [e, euN_zero]
    exact Nat.le_refl _
  | k + 1, g, s, h => by
    by_cases c : s = 0
    · rw [c, euN_zero]; simp
    · rw [euN_step (by omega)]
      by_cases d : g % s = 0
      · rw [d, euN_zero]; simp; omega
      · rw [euN_step (by omega)]
        have h1 : g % s < s := Nat.mod_lt _ (by omega)
        have h2 := half_mod (by omega : 0 < g % s) h1
        have h3 : s % (g % s) < 2 ^ k := by
          rw [Nat.pow_succ] at h
          omega
        have := euN_len k (g % s) (s % (g % s)) h3
        simp only [List.length_cons]
        omega
theorem eu_len {g s : Int} (h : s ≤ 1000000000000000000000000000000) : (eu g s).length ≤ 200 := by
  refine euN_len 100 _ _ ?_
  have e : (2 : Nat) ^ 100 = 1267650600228229401496703205376 := by decide
  rw [e]
  omega
/-- the quotients of the pair x, y -/
def qs (x y : Int) : List Int := eu (max x y) (min x y)
theorem qs_comm (x y : Int) : qs x y = qs y x := by
  unfold qs
  rw [Int.max_comm, Int.min_comm]
theorem qs_len {x y : Int} (h : x ≤ 1000000000000000000000000000000) : (qs x y).length ≤ 200 := eu_len (by omega)
theorem take_succ' {α : Type} {l : List α} {i : Nat} {x : α} (h : l[i]? = some x) : l.take (i + 1) = l.take i ++ [x] := by
  rw [List.take_succ, h]
  rfl

local macro_rules | `(tactic| walk_at "ps") => `(tactic| first
  | assumption
  | (apply PrS.mono; (· assumption); walk_at "ps")
  | fail "ps")
local macro_rules | `(tactic| walk_at "pr") => `(tactic| first
  | assumption
  | (apply PrS.pr; assumption)
  | exact Pr.of (by assumption)
  | (apply Pr.mono; (· assumption); walk_at "pr")
  | (apply Exb.pr; (· assumption); (· walk_at "hl"); walk_at "pr")
  | fail "pr")
local macro_rules | `(tactic| walk_at "ex") => `(tactic| first
  | exact Ex.refl _
  | assumption
  | exact Ex.new (by assumption)
  | (refine Ex.trans ?_ (by assumption); walk_at "ex")
  | (apply Exb.base; (· assumption); (· walk_at "fr"); walk_at "ex")
  | fail "ex")
local macro_rules | `(tactic| walk_at "fr") => `(tactic| first
  | assumption
  | (apply fresh_back; rotate_left; (· assumption); walk_at "ex")
  | fail "fr")
local macro_rules | `(tactic| walk_at "hl") => `(tactic| first
  | assumption
  | (apply Ex.at; (· assumption); walk_at "hl")
  | fail "hl")
local macro_rules | `(tactic| walk_at "len") => `(tactic| first
  | (exact sz_lt (by omega))
  | (exact sz_lt (by simp; omega))
  | (exact sz_lt (by simp))
  | assumption
  | fail "len")
local macro_rules | `(tactic| walk_at "at") => `(tactic| first
  | assumption
  | exact rfl
  | exact at_int (by assumption)
  | fail "at")
local macro_rules | `(tactic| walk_at "sl") => `(tactic| first
  | assumption
  | exact sq_of (by assumption)
  | (apply ex_l; (· assumption); walk_at "sl")
  | fail "sl")
local macro_rules | `(tactic| walk_at "st") => `(tactic| first
  | assumption
  | exact st_of (by assumption)
  | (apply ex_t; (· assumption); walk_at "st")
  | fail "st")
local macro_rules | `(tactic| walk_at "tb") => `(tactic| first
  | assumption
  | exact ⟨_, _, rfl, sq_of (by assumption), by assumption⟩
  | (apply Tb.mono; (· assumption); walk_at "tb")
  | fail "tb")
local macro_rules | `(tactic| walk_at "nx") => `(tactic| ((try with_reducible refine d_gName ?_); (try dsimp only [List.set, wipe])))
local macro_rules | `(tactic| walk_at "side") => `(tactic| first
  | assumption
  | exact divW (by omega) (by omega)
  | (show (0 : Int) < _; omega)
  | exact mulW ⟨by omega, by omega⟩ ⟨by omega, by omega⟩
  | exact ⟨by decide, by decide, by decide⟩
  | decide
  | omega
  | fail "side")
local macro_rules | `(tactic| walk_at "bd") => `(tactic| first
  | assumption
  | exact ⟨by omega, by omega⟩
  | fail "bd")
local macro_rules | `(tactic| walk_at "gd") => `(tactic| first
  | assumption
  | exact ⟨by omega, by omega⟩
  | fail "gd")
local macro_rules | `(tactic| walk_at "ty") => `(tactic| first
  | exact ty_int
  | exact ty_bl
  | exact ty_str
  | exact ty_non
  | (apply ty_list; walk_at "sl")
  | (apply ty_pr; walk_at "pr")
  | (apply ty_tup; walk_at "st")
  | fail "ty")
local macro_rules | `(tactic| walk_at "spcall") => `(tactic| fail)
local macro_rules | `(tactic| walk_at "go1") => `(tactic| (first
  | ((with_reducible apply d_var); (· exact rfl))
  | (with_reducible refine d_c ?_)
  | (with_reducible refine d_op ?_)
  | (with_reducible refine d_un ?_)
  | (with_reducible refine d_pow30 ?_)
  | (with_reducible refine d_rI0 ?_)
  | ((with_reducible refine d_rI ?_ ?_); (· walk_at "side"))
  | (with_reducible refine d_rU ?_)
  | (with_reducible refine d_eqI ?_)
  | (with_reducible refine d_neI ?_)
  | (with_reducible refine d_eqS ?_)
  | (with_reducible refine d_neS ?_)
  | (with_reducible refine d_eqB ?_)
  | (with_reducible refine d_nil ?_)
  | (with_reducible refine d_cons ?_)
  | (with_reducible refine d_tup ?_)
  | (with_reducible refine d_lst ?_)
  | ((with_reducible refine d_newP ?_); intro _ _ _ _)
  | ((with_reducible refine d_newT ?_ ?_); (· (simp; done)); intro _ _ _ _ _)
  | ((with_reducible refine d_newL ?_ ?_); (· (simp; done)); intro _ _ _ _ _)
  | (with_reducible refine d_call ?_)
  | (with_reducible refine d_cb ?_)
  | ((with_reducible apply d_maxT); (· walk_at "pr"))
  | ((with_reducible apply d_minT); (· walk_at "pr"))
  | (with_reducible refine d_max2 ?_)
  | (with_reducible refine d_min2 ?_)
  | ((with_reducible apply d_ixP0); (· walk_at "pr"))
  | ((with_reducible apply d_ixP1); (· walk_at "pr"))
  | ((with_reducible apply d_ixL); (· walk_at "sl"); (· walk_at "at"))
  | ((with_reducible apply d_ixT); (· walk_at "st"); (· walk_at "at"))
  | ((with_reducible apply d_eqP); (· walk_at "pr"); (· walk_at "pr"))
  | ((with_reducible apply d_neP); (· walk_at "pr"); (· walk_at "pr"))
  | ((with_reducible apply d_eqT); (· walk_at "tb"); (· walk_at "tb"))
  | ((with_reducible apply d_neT); (· walk_at "tb"); (· walk_at "tb"))
  | ((with_reducible apply d_listT); (· walk_at "tb"); intro _ _ _ _ _ _ _ _)
  | ((with_reducible apply d_listL); (· walk_at "sl"); intro _ _ _ _ _)
  | ((with_reducible apply d_lenT); (· walk_at "tb"))
  | ((with_reducible apply d_ixTb); (· walk_at "tb"); (· assumption); intro _ _)
  | ((with_reducible apply d_len); (· walk_at "sl"))
  | ((with_reducible apply d_sum); (· walk_at "sl"))
  | (with_reducible refine d_dnot ?_)
  | (with_reducible refine d_dget ?_)
  | (with_reducible refine d_dput ?_)
  | ((with_reducible refine d_dnew ?_); intro _ _ _ _ _)
  | ((with_reducible apply d_rDNot); (· walk_at "hl"); (· walk_at "ps"))
  | (with_reducible refine d_lenSet ?_)
  | ((with_reducible apply d_rLenSet); (· walk_at "sl"); (· assumption); (· assumption))
  | ((with_reducible apply d_inI); (· walk_at "sl"))
  | ((with_reducible apply d_notInI); (· walk_at "sl"))
  | (with_reducible refine d_isNn ?_)
  | (with_reducible refine d_notNn ?_)
  | (with_reducible refine d_intB ?_)
  | ((with_reducible apply d_isi); (· walk_at "ty"); (· first | exact k_ii | exact k_ib | exact k_bb | exact k_ll | exact k_tt | exact k_ss | exact k_ls))
  | walk_at "spcall"
  | (with_reducible refine d_bmL ?_)
  | ((with_reducible apply d_rBmL); (· walk_at "sl"))
  | ((with_reducible apply d_append); (· walk_at "hl"); (· walk_at "len"); intro _ _ _)
  | (with_reducible refine d_seq ?_)
  | (with_reducible refine d_asg ?_)
  | (with_reducible refine d_asgG ?_)
  | ((with_reducible apply d_gTupP); (· walk_at "pr"))
  | ((with_reducible apply d_gTup2); (· walk_at "st"))
  | (with_reducible refine d_ret ?_)
  | (with_reducible refine d_retN ?_)
  | (with_reducible refine d_drop ?_)
  | (with_reducible refine d_next ?_)
  | (with_reducible refine d_par ?_)
  | (with_reducible refine d_rPar ?_)
  | fail "go1"); walk_at "nx")
local macro_rules | `(tactic| walk_at "go") => `(tactic| repeat walk_at "go1")
/- an expression's value -/
local macro_rules | `(tactic| walk_at "ev") => `(tactic| first
  | ((with_reducible apply ev_andV); (· walk_at "ev"); (· intro hb; (try simp only [Bool.and_eq_true, Bool.or_eq_true, decide_eq_true_eq, Bool.not_eq_true', decide_eq_false_iff_not, Bool.or_eq_false_iff, Bool.not_eq_false', Bool.not_eq_false, Bool.not_eq_true] at hb) ; walk_at "ev"))
  | ((with_reducible apply ev_orV); (· walk_at "ev"); (· intro hb; (try simp only [Bool.and_eq_true, Bool.or_eq_true, decide_eq_true_eq, Bool.not_eq_true', decide_eq_false_iff_not, Bool.or_eq_false_iff, Bool.not_eq_false', Bool.not_eq_false, Bool.not_eq_true] at hb) ; walk_at "ev"))
  | ((with_reducible apply ev_notV); walk_at "ev")
  | ((with_reducible apply ev_chain); (· walk_at "ev"); (· walk_at "ev"); (· walk_at "ev"))
  | ((with_reducible apply ev_intro); intro _ _ _ q; walk_at "nx"; walk_at "go"; exact q _ (by walk_at "ex"))
  | fail "ev")
/- a test's -/
local macro_rules | `(tactic| walk_at "et") => `(tactic| first
  | ((with_reducible apply et_and); (· walk_at "et"); (· intro hb; (try simp only [Bool.and_eq_true, Bool.or_eq_true, decide_eq_true_eq, Bool.not_eq_true', decide_eq_false_iff_not, Bool.or_eq_false_iff, Bool.not_eq_false', Bool.not_eq_false, Bool.not_eq_true] at hb) ; walk_at "et"))
  | ((with_reducible apply et_or); (· walk_at "et"); (· intro hb; (try simp only [Bool.and_eq_true, Bool.or_eq_true, decide_eq_true_eq, Bool.not_eq_true', decide_eq_false_iff_not, Bool.or_eq_false_iff, Bool.not_eq_false', Bool.not_eq_false, Bool.not_eq_true] at hb) ; walk_at "et"))
  | ((with_reducible apply et_not); walk_at "et")
  | ((with_reducible apply et_test); walk_at "ev")
  | ((with_reducible apply et_B); walk_at "ev")
  | fail "et")
local macro_rules | `(tactic| walk_at "if") => `(tactic| ((with_reducible apply d_if); (· walk_at "et")))
local macro_rules | `(tactic| walk_at "ea") => `(tactic| first
  | exact ea_nil
  | ((with_reducible apply ea_cons); (· walk_at "ev"); walk_at "ea")
  | fail "ea")
local macro_rules | `(tactic| walk_at "eu") => `(tactic| (apply eu_tup; (· walk_at "ea"); (· simp)))

def topS (i : Nat) : Stmt := PySem.Challenge.pw_takepairs_k03_worths_of_few.main.body.getD i (.Pass ⟨0, 0, 0, 0⟩)
abbrev s_asked_pair : Stmt := topS 5
abbrev s_worth_of : Stmt := topS 7
abbrev s__law_cell_at : Stmt := topS 10
abbrev s__law_whole : Stmt := topS 11
abbrev s__law_options : Stmt := topS 13
abbrev s_worth : Stmt := topS 8
abbrev s__law_small_by : Stmt := topS 12
abbrev s__law_mex : Stmt := topS 14
abbrev s_law : Stmt := topS 15
structure Txt (K : PySem.W.Frag) (mg : Str → Option Value) : Prop where
  b_bool : mg "bool" = none
  b_int : mg "int" = none
  b_isinstance : mg "isinstance" = none
  b_len : mg "len" = none
  b_max : mg "max" = none
  b_min : mg "min" = none
  g_GREATEST : ∃ u, mg "GREATEST" = some u ∧ RelV (.int 1000000000000000000000000000000) u
theorem sc_asked_pair : FnScope ["pair", "pile"] ["pair"] (defScope s_asked_pair) := ⟨rfl, rfl, rfl, by decide +kernel, rfl, by decide +kernel, by decide +kernel⟩
theorem sc_worth_of : FnScope ["pair", "great", "small"] ["pair"] (defScope s_worth_of) := ⟨rfl, rfl, rfl, by decide +kernel, rfl, by decide +kernel, by decide +kernel⟩
theorem sc__law_cell_at : FnScope ["script", "k"] ["script", "k"] (defScope s__law_cell_at) := ⟨rfl, rfl, rfl, by decide +kernel, rfl, by decide +kernel, by decide +kernel⟩
theorem sc__law_whole : FnScope ["found"] ["found"] (defScope s__law_whole) := ⟨rfl, rfl, rfl, by decide +kernel, rfl, by decide +kernel, by decide +kernel⟩
theorem sc__law_options : FnScope ["pair", "great", "small", "found", "left"] ["pair"] (defScope s__law_options) := ⟨rfl, rfl, rfl, by decide +kernel, rfl, by decide +kernel, by decide +kernel⟩
theorem sc_worth : FnScope ["pair"] ["pair"] (defScope s_worth) := ⟨rfl, rfl, rfl, by decide +kernel, rfl, by decide +kernel, by decide +kernel⟩
theorem sc__law_small_by : FnScope ["script", "at", "most", "one", "other"] ["script", "at", "most"] (defScope s__law_small_by) := ⟨rfl, rfl, rfl, by decide +kernel, rfl, by decide +kernel, by decide +kernel⟩
theorem sc__law_mex : FnScope ["pair", "known", "key", "seen", "least", "other"] ["pair", "known"] (defScope s__law_mex) := ⟨rfl, rfl, rfl, by decide +kernel, rfl, by decide +kernel, by decide +kernel⟩
theorem sc_law : FnScope ["script", "pair", "due", "found"] ["script"] (defScope s_law) := ⟨rfl, rfl, rfl, by decide +kernel, rfl, by decide +kernel, by decide +kernel⟩
section
variable {P : Program} {w : World} {K : PySem.W.Frag} {mg : Str → Option Value} {base : Heap}
/-! ### asked_pair -/
def sp_asked_pair (K : PySem.W.Frag) : Sp := fun vs H Q _ => ∃ v x y, vs = [v] ∧ Pr K H v x y ∧ Gd x ∧ Gd y ∧ RetV .non H Q
theorem ok_asked_pair (F : Df K mg "asked_pair" s_asked_pair) (T : Txt K mg)  : Cl P w K mg base 1 "asked_pair" (sp_asked_pair K) := by
  refine cl_of (N := ["pair", "pile"]) (ps := ["pair"]) F (fun _ _ _ _ _ _ us hl => match us, hl with | [_], _ => rfl) sc_asked_pair (fun vs H Q E h => by obtain ⟨_, _, _, rfl, _⟩ := h; rfl) (fun f cdv A outer s H vs Q E hr h => ⟨_, (pss_one (ps_for PassesOwn.never rfl (pi_tup (pv 0)) (pg_name (i := 1) sc_asked_pair.nd rfl (.inl rfl)) (pss_one (ps_if (PW.pt (pw_or (pt_cmpR op_lt (pv 1) pe_int (nomark _)) (pw_or1 (pt_cmpR op_gt (pv 1) (pe_gc (by rfl) T.g_GREATEST) (nomark _))))) (pss_one ps_never) pss_nil)))), ?_⟩)
  obtain ⟨v, x, y, rfl, hp, hx, hy, q⟩ := h
  obtain ⟨a, rfl, hq⟩ := id hp
  rw [show start ["pair", "pile"] [.ref a] = [some (.ref a), none] from rfl]
  refine ⟨_, rfl, a, rfl, ⟨_, hq⟩, for_tup (K := K) (a := a) (xs := [.int x, .int y]) (fun i σ H' => Ex H H' ∧ ∃ z, σ = [some (.ref a), z])
    ⟨Ex.refl _, none, rfl⟩ (fun i σ H' _ h => ex_t h.1 hq) ?_ ?_⟩
  · rintro i z σ H' hi ⟨e, z', rfl⟩
    have hz : ∃ n, z = .int n ∧ Gd n := by
      match i, hi with
      | 0, hi => exact ⟨x, (Option.some.inj hi).symm, hx⟩
      | 1, hi => exact ⟨y, (Option.some.inj hi).symm, hy⟩
    obtain ⟨n, rfl, hn1, hn2⟩ := hz
    walk_at "nx"
    walk_at "if"
    · intro hb
      simp at hb
      omega
    · intro hb H1 e1
      exact ⟨e.trans e1, some (.int n), rfl⟩
  · rintro σ H' ⟨e, z, rfl⟩
    exact q _ e
theorem u_asked_pair {H : Hp} {Q : VK} {E : XK} {v : V} {x y : Int} (hp : Pr K H v x y) (hx : Gd x) (hy : Gd y) (q : ∀ H2, Ex H H2 → Q .non H2) : sp_asked_pair K [v] H Q E := ⟨v, x, y, rfl, hp, hx, hy, q⟩
local macro_rules | `(tactic| walk_at "spcall") => `(tactic| ((with_reducible apply u_asked_pair); (· walk_at "pr"); (· walk_at "gd"); (· walk_at "gd"); intro _ _))

/-! ### worth_of -/
/-! ### worths -/
def wt (x y : Int) : Int := (max x y * max x y - min x y * min x y) / (max x y * min x y)
theorem wt_comm (x y : Int) : wt x y = wt y x := by
  unfold wt
  rw [Int.max_comm, Int.min_comm]
theorem prod_pos {x y : Int} (hx : 1 ≤ x) (hy : 1 ≤ y) : 0 < max x y * min x y := Int.mul_pos (by omega) (by omega)
theorem prod_le {a b : Int} (ha : 0 ≤ a) (ha2 : a ≤ 1000000000000000000000000000000) (hb : 0 ≤ b) (hb2 : b ≤ 1000000000000000000000000000000) : 0 ≤ a * b ∧ a * b ≤ 1000000000000000000000000000000000000000000000000000000000000 := by
  refine ⟨Int.mul_nonneg ha hb, ?_⟩
  have := Int.mul_le_mul ha2 hb2 hb (by decide)
  have e : (1000000000000000000000000000000 : Int) * 1000000000000000000000000000000 = 1000000000000000000000000000000000000000000000000000000000000 := by decide
  omega
theorem sq_le {a b : Int} (h0 : 0 ≤ a) (h : a ≤ b) : a * a ≤ b * b := Int.mul_le_mul h h h0 (by omega)
theorem wt_nonneg {x y : Int} (hx : 1 ≤ x) (hy : 1 ≤ y) : 0 ≤ wt x y := by
  have h1 := sq_le (show 0 ≤ min x y by omega) (show min x y ≤ max x y by omega)
  exact Int.ediv_nonneg (by omega) (Int.le_of_lt (prod_pos hx hy))
theorem wt_low {x y : Int} (hx : 1 ≤ x) (hy : 1 ≤ y) : wt x y * (max x y * min x y) ≤ max x y * max x y - min x y * min x y := Int.ediv_mul_le _ (Int.ne_of_gt (prod_pos hx hy))
theorem wt_high {x y : Int} (hx : 1 ≤ x) (hy : 1 ≤ y) : max x y * max x y - min x y * min x y < (wt x y + 1) * (max x y * min x y) := Int.lt_ediv_add_one_mul_self _ (prod_pos hx hy)
theorem wt_le {x y : Int} (hx : Gd x) (hy : Gd y) : wt x y ≤ 1000000000000000000000000000000 := by
  have m1 : 1 ≤ min x y := by have := hx.1; have := hy.1; omega
  have m2 : max x y ≤ 1000000000000000000000000000000 := by have := hx.2; have := hy.2; omega
  have m3 : 1 ≤ max x y := by have := hx.1; omega
  have h1 := prod_pos hx.1 hy.1
  refine Int.le_trans (Int.ediv_le_of_le_mul h1 (b := max x y) ?_) m2
  have h2 : max x y * max x y ≤ max x y * max x y * min x y := by
    have := Int.mul_le_mul_of_nonneg_left m1 (Int.mul_nonneg (show 0 ≤ max x y by omega) (show 0 ≤ max x y by omega))
    rw [Int.mul_one] at this
    exact this
  have h3 : 0 ≤ min x y * min x y := Int.mul_nonneg (by omega) (by omega)
  rw [← Int.mul_assoc]
  omega
theorem prod_mm (x y : Int) : max x y * min x y = x * y := by
  by_cases h : x ≤ y
  · rw [show max x y = y by omega, show min x y = x by omega, Int.mul_comm]
  · rw [show max x y = x by omega, show min x y = y by omega]
def sp_worth_of (K : PySem.W.Frag) : Sp := fun vs H Q _ => ∃ v x y, vs = [v] ∧ Pr K H v x y ∧ Gd x ∧ Gd y ∧ RetV (.int (wt x y)) H Q
theorem ok_worth_of (F : Df K mg "worth_of" s_worth_of) (T : Txt K mg)  : Cl P w K mg base 1 "worth_of" (sp_worth_of K) := by
  refine cl_of (N := ["pair", "great", "small"]) (ps := ["pair"]) F (fun _ _ _ _ _ _ us hl => match us, hl with | [_], _ => rfl) sc_worth_of (fun vs H Q E h => by obtain ⟨_, _, _, rfl, _⟩ := h; rfl) (fun f cdv A outer s H vs Q E hr h => ⟨_, (pss_cons (ps_set (i := 1) sc_worth_of.nd rfl (.inl rfl) (pe_callB (call_maxT rfl) (by rfl) T.b_max (by decide +kernel) (pa_cons (pv 0) pa_nil)))
    (pss_cons (ps_set (i := 2) sc_worth_of.nd rfl (.inl rfl) (pe_callB (call_minT rfl) (by rfl) T.b_min (by decide +kernel) (pa_cons (pv 0) pa_nil)))
    (pss_one (ps_ret (pe_op op_fdivW (pe_op op_sub (pe_op op_mulW (pv 1) (pv 1)) (pe_op op_mulW (pv 2) (pv 2))) (pe_op op_mulW (pv 1) (pv 2))))))), ?_⟩)
  obtain ⟨v, x, y, rfl, hp, ⟨hx1, hx2⟩, ⟨hy1, hy2⟩, q⟩ := h
  rw [show start ["pair", "great", "small"] [v] = [some (v), none, none] from rfl]
  have h0 := prod_pos hx1 hy1
  have h1 := prod_le (a := max x y) (b := min x y) (by omega) (by omega) (by omega) (by omega)
  walk_at "go"
  exact q _ (by walk_at "ex")
theorem u_worth_of {H : Hp} {Q : VK} {E : XK} {v : V} {x y : Int} (hp : Pr K H v x y) (hx : Gd x) (hy : Gd y) (q : ∀ H2, Ex H H2 → Q (.int (wt x y)) H2) : sp_worth_of K [v] H Q E := ⟨v, x, y, rfl, hp, hx, hy, q⟩
local macro_rules | `(tactic| walk_at "spcall") => `(tactic| ((with_reducible apply u_worth_of); (· walk_at "pr"); (· walk_at "gd"); (· walk_at "gd"); intro _ _))

/-! ### _law_cell_at -/
def cellL (ns : List Int) (k : Nat) : Int := ns.getD k 0
def sp__law_cell_at (K : PySem.W.Frag) : Sp := fun vs H Q _ => ∃ (a : Addr) (ns : List Int) (k : Nat), vs = [.ref a, .int (k : Int)] ∧ SqL K H a (ns.map V.int) ∧ RetV (.int (cellL ns k)) H Q
theorem ok__law_cell_at (F : Df K mg "_law_cell_at" s__law_cell_at) (T : Txt K mg)  : Cl P w K mg base 1 "_law_cell_at" (sp__law_cell_at K) := by
  refine cl_of (N := ["script", "k"]) (ps := ["script", "k"]) F (fun _ _ _ _ _ _ us hl => match us, hl with | [_, _], _ => rfl) sc__law_cell_at (fun vs H Q E h => by obtain ⟨_, _, _, rfl, _⟩ := h; rfl) (fun f cdv A outer s H vs Q E hr h => ⟨_, (pss_cons (ps_if (pt_cmpR op_lt (pv 1) (pe_callB call_lenL (by rfl) T.b_len (by decide +kernel) (pa_cons (pv 0) pa_nil)) (nomark _)) (pss_one (ps_ret (pe_ix ix_list (pv 0) (pv 1) (fun _ _ => rfl)))) pss_nil)
    (pss_one (ps_ret pe_int))), ?_⟩)
  obtain ⟨a, ns, k, rfl, hs, q⟩ := h
  rw [show start ["script", "k"] [.ref a, .int (k : Int)] = [some (.ref a), some (.int (k : Int))] from rfl]
  walk_at "go"
  walk_at "if"
  · intro hb H1 e1
    simp at hb
    walk_at "go"
    have hk : ns[k]? = some ns[k] := List.getElem?_eq_getElem hb
    refine d_ixL (xs := ns.map V.int) (v := .int (cellL ns k)) (by walk_at "sl") ?_ ?_
    · refine atI_nat ?_
      rw [List.getElem?_map, hk]
      unfold cellL
      rw [List.getD_eq_getElem?_getD, hk]
      rfl
    · exact q _ (by walk_at "ex")
  · intro hb H1 e1
    simp at hb
    walk_at "go"
    have e : cellL ns k = 0 := by
      unfold cellL
      rw [List.getD_eq_getElem?_getD, List.getElem?_eq_none (by omega)]
      rfl
    rw [e] at q
    exact q _ (by walk_at "ex")
theorem u_cell {H : Hp} {Q : VK} {E : XK} {a : Addr} {ns : List Int} {k : Int} (hs : SqL K H a (ns.map V.int)) (hk : 0 ≤ k) (q : ∀ H2, Ex H H2 → Q (.int (cellL ns k.toNat)) H2) : sp__law_cell_at K [.ref a, .int k] H Q E :=
  ⟨a, ns, k.toNat, by rw [Int.toNat_of_nonneg hk], hs, q⟩
local macro_rules | `(tactic| walk_at "spcall") => `(tactic| ((with_reducible apply u_cell); (· walk_at "sl"); (· omega); intro _ _))

/-! ### _law_whole -/
def sp__law_whole (K : PySem.W.Frag) : Sp := fun vs H Q _ => ∃ i, vs = [.int i] ∧ RetV (.bl true) H Q
theorem ok__law_whole (F : Df K mg "_law_whole" s__law_whole) (T : Txt K mg)  : Cl P w K mg base 1 "_law_whole" (sp__law_whole K) := by
  refine cl_of (N := ["found"]) (ps := ["found"]) F (fun _ _ _ _ _ _ us hl => match us, hl with | [_], _ => rfl) sc__law_whole (fun vs H Q E h => by obtain ⟨_, rfl, _⟩ := h; rfl) (fun f cdv A outer s H vs Q E hr h => ⟨_, (pss_one (ps_ret (pe_and (pe_callB call_isi (by rfl) T.b_isinstance (by decide +kernel) (pa_cons (pv 0) (pa_cons (pe_bltn (v := .ty "int") (by rfl) T.b_int (by decide +kernel) rfl) pa_nil))) (pe_one (pe_not (pe_callB call_isi (by rfl) T.b_isinstance (by decide +kernel) (pa_cons (pv 0) (pa_cons (pe_bltn (v := .ty "bool") (by rfl) T.b_bool (by decide +kernel) rfl) pa_nil)))))))), ?_⟩)
  obtain ⟨i, rfl, q⟩ := h
  rw [show start ["found"] [.int i] = [some (.int i)] from rfl]
  walk_at "go"
  refine d_ev (v := .bl true) ?_ fun H1 e1 => q H1 e1
  apply ev_is
  · walk_at "ev"
  · rfl
theorem u_whole {H : Hp} {Q : VK} {E : XK} {i : Int} (q : ∀ H2, Ex H H2 → Q (.bl true) H2) : sp__law_whole K [.int i] H Q E := ⟨i, rfl, q⟩
local macro_rules | `(tactic| walk_at "spcall") => `(tactic| ((with_reducible refine u_whole ?_); intro _ _))

/-! ### _law_options -/
def mvs (x y : Int) : Int := (max x y - 1) / min x y

/-- behind a move -/
def bh (x y t : Int) : Int × Int := if y < x then (x - t * y, y) else (x, y - t * x)
theorem mvs_mul {x y t : Int} (hx : 1 ≤ x) (hy : 1 ≤ y) (h : t ≤ mvs x y) : t * min x y ≤ max x y - 1 := by
  have h1 := Int.mul_le_mul_of_nonneg_right h (show 0 ≤ min x y by omega)
  have h2 : mvs x y * min x y ≤ max x y - 1 := Int.ediv_mul_le _ (by omega)
  omega
theorem mvs_le {x y : Int} (hx : Gd x) (hy : Gd y) : 0 ≤ mvs x y ∧ mvs x y ≤ 1000000000000000000000000000000 := by
  have h0 := hx.1
  have h1 := hy.1
  have h2 := hx.2
  have h3 := hy.2
  refine ⟨Int.ediv_nonneg (by omega) (by omega), ?_⟩
  have : mvs x y ≤ max x y - 1 := Int.ediv_le_self _ (by omega)
  omega
theorem bh_gd {x y t : Int} (hx : Gd x) (hy : Gd y) (h1 : 1 ≤ t) (h2 : t ≤ mvs x y) : Gd (bh x y t).1 ∧ Gd (bh x y t).2 := by
  have h3 := mvs_mul hx.1 hy.1 h2
  have h4 : 0 ≤ t * min x y := Int.mul_nonneg (by omega) (by have := hx.1; have := hy.1; omega)
  obtain ⟨a1, a2⟩ := hx
  obtain ⟨b1, b2⟩ := hy
  unfold bh
  by_cases c : y < x
  · rw [if_pos c]
    rw [show max x y = x by omega, show min x y = y by omega] at h3
    rw [show min x y = y by omega] at h4
    exact ⟨⟨by show 1 ≤ x - t * y; omega, by show x - t * y ≤ _; omega⟩, ⟨b1, b2⟩⟩
  · rw [if_neg c]
    rw [show max x y = y by omega, show min x y = x by omega] at h3
    rw [show min x y = x by omega] at h4
    exact ⟨⟨a1, a2⟩, ⟨by show 1 ≤ y - t * x; omega, by show y - t * x ≤ _; omega⟩⟩

def PrsS (H : Hp) : List V → List (Int × Int) → Prop
  | [], [] => True
  | w :: ws, p :: ps => PrS H w p.1 p.2 ∧ PrsS H ws ps
  | _, _ => False
theorem PrsS.imp {H H' : Hp} (f : ∀ w x y, PrS H w x y → PrS H' w x y) : ∀ {ws : List V} {ps : List (Int × Int)}, PrsS H ws ps → PrsS H' ws ps
  | [], [], _ => trivial
  | _ :: ws, _ :: ps, h => ⟨f _ _ _ h.1, PrsS.imp f h.2⟩
  | [], _ :: _, h => h.elim
  | _ :: _, [], h => h.elim
theorem PrsS.prs {H : Hp} : ∀ {ws : List V} {ps : List (Int × Int)}, PrsS H ws ps → Prs K H ws ps
  | [], [], _ => trivial
  | _ :: ws, _ :: ps, h => ⟨h.1.pr, PrsS.prs h.2⟩
  | [], _ :: _, h => h.elim
  | _ :: _, [], h => h.elim
theorem PrsS.len {H : Hp} : ∀ {ws : List V} {ps : List (Int × Int)}, PrsS H ws ps → ws.length = ps.length
  | [], [], _ => rfl
  | _ :: ws, _ :: ps, h => by rw [List.length_cons, List.length_cons, PrsS.len h.2]
  | [], _ :: _, h => h.elim
  | _ :: _, [], h => h.elim
theorem PrsS.app {H : Hp} : ∀ {ws us : List V} {ps qs : List (Int × Int)}, PrsS H ws ps → PrsS H us qs → PrsS H (ws ++ us) (ps ++ qs)
  | [], _, [], _, _, g => g
  | _ :: ws, _, _ :: ps, _, h, g => ⟨h.1, PrsS.app h.2 g⟩
  | [], _, _ :: _, _, h, _ => h.elim
  | _ :: _, _, [], _, h, _ => h.elim
theorem PrsS.get {H : Hp} : ∀ {ws : List V} {ps : List (Int × Int)} {i : Nat} {w : V}, PrsS H ws ps → ws[i]? = some w → ∃ p, ps[i]? = some p ∧ PrS H w p.1 p.2
  | w :: ws, p :: ps, 0, v, h, e => by
    have e : w = v := Option.some.inj e
    subst e
    exact ⟨p, rfl, h.1⟩
  | w :: ws, p :: ps, i + 1, v, h, e => PrsS.get (i := i) h.2 e
  | [], [], i, v, h, e => by simp at e
  | [], _ :: _, _, _, h, _ => h.elim
  | _ :: _, [], _, _, h, _ => h.elim
/-- the pairs behind the first n moves -/
def opts (x y : Int) (n : Nat) : List (Int × Int) := (List.range n).map fun i : Nat => bh x y ((i : Int) + 1)
theorem opts_succ (x y : Int) (n : Nat) : opts x y (n + 1) = opts x y n ++ [bh x y ((n : Int) + 1)] := by
  unfold opts
  rw [List.range_succ, List.map_append]
  rfl
def sp__law_options (K : PySem.W.Frag) : Sp := fun vs H Q _ => ∃ v x y, vs = [v] ∧ Pr K H v x y ∧ Gd x ∧ Gd y ∧ x ≤ 1000 ∧ y ≤ 1000 ∧
  ∀ p H2 ws, H p = none → Ex H H2 → H2 p = some (.lst ws) → PrsS H2 ws (opts x y (mvs x y).toNat) → Q (.ref p) H2
theorem ok__law_options (F : Df K mg "_law_options" s__law_options) (T : Txt K mg)  : Cl P w K mg base 1 "_law_options" (sp__law_options K) := by
  refine cl_of (N := ["pair", "great", "small", "found", "left"]) (ps := ["pair"]) F (fun _ _ _ _ _ _ us hl => match us, hl with | [_], _ => rfl) sc__law_options (fun vs H Q E h => by obtain ⟨_, _, _, rfl, _⟩ := h; rfl) (fun f cdv A outer s H vs Q E hr h => ⟨_, (pss_cons (ps_set (i := 1) sc__law_options.nd rfl (.inl rfl) (pe_callB (call_maxT rfl) (by rfl) T.b_max (by decide +kernel) (pa_cons (pv 0) pa_nil)))
    (pss_cons (ps_set (i := 2) sc__law_options.nd rfl (.inl rfl) (pe_callB (call_minT rfl) (by rfl) T.b_min (by decide +kernel) (pa_cons (pv 0) pa_nil)))
    (pss_cons (ps_set (i := 3) sc__law_options.nd rfl (.inl rfl) (pe_lst pa_nil))
    (pss_cons (ps_set (i := 4) sc__law_options.nd rfl (.inl rfl) (pe_op op_sub (pv 1) (pv 2)))
    (pss_cons (ps_while PassesOwn.never (pt_cmpR op_gt (pv 4) pe_int (nomark _)) (pss_cons (ps_expr (pe_bm PySem.F.plainAttrs_list PySem.F.slot_list_append PySem.F.type_list_append mt_append (pv 3) (pa_cons (pe_ifExp (pt_cmpR op_gt (pe_ix ix_tup (pv 0) pe_int (fun _ _ => rfl)) (pe_ix ix_tup (pv 0) pe_int (fun _ _ => rfl)) (nomark _)) (pe_tup (pa_cons (pv 4) (pa_cons (pv 2) pa_nil))) (pe_tup (pa_cons (pv 2) (pa_cons (pv 4) pa_nil)))) pa_nil)))
    (pss_one (ps_set (i := 4) sc__law_options.nd rfl (.inl rfl) (pe_op op_sub (pv 4) (pv 2))))))
    (pss_one (ps_ret (pv 3)))))))), ?_⟩)
  obtain ⟨v, x, y, rfl, hp, ⟨hx1, hx2⟩, ⟨hy1, hy2⟩, hx9, hy9, q⟩ := h
  rw [show start ["pair", "great", "small", "found", "left"] [v] = [some (v), none, none, none, none] from rfl]
  walk_at "go"
  rename_i l H1 hl e1 h1
  have hm0 : 0 ≤ mvs x y := Int.ediv_nonneg (by omega) (by omega)
  have hm9 : mvs x y ≤ 1000 := by
    have : mvs x y ≤ max x y - 1 := Int.ediv_le_self _ (by omega)
    omega
  -- so many are left, where there is one more move
  -- so many are left, where there is one more move
  have more : ∀ i : Nat, 0 < max x y - ((i : Int) + 1) * min x y ↔ (i : Int) + 1 ≤ mvs x y := fun i => by
    unfold mvs
    rw [Int.le_ediv_iff_mul_le (by omega)]
    omega
  refine d_while (fun m σ' H' => ∃ (i : Nat) (ws : List V), σ' = [some v, some (.int (max x y)), some (.int (min x y)), some (.ref l), some (.int (max x y - ((i : Int) + 1) * min x y))] ∧ i ≤ (mvs x y).toNat ∧ m = (mvs x y).toNat - i ∧ Ex H H' ∧ H' l = some (.lst ws) ∧ PrsS H' ws (opts x y i)) _
    ⟨0, [], by simp, Nat.zero_le _, rfl, e1, h1, trivial⟩ ?_
  rintro m σ' H' ⟨i, ws, rfl, hi, rfl, e2, h2, h3⟩
  refine ⟨decide (0 < max x y - ((i : Int) + 1) * min x y), by walk_at "et", fun hb H3 e3 => ?_, fun hb H3 e3 => ?_⟩
  · have hb := (more i).mp (of_decide_eq_true hb)
    have hws : ws.length ≤ 1000 := by
      rw [h3.len]
      unfold opts
      simp
      omega
    have nxt : max x y - ((i : Int) + 1) * min x y - min x y = max x y - (((i + 1 : Nat) : Int) + 1) * min x y := by
      rw [show (((i + 1 : Nat) : Int) + 1) = ((i : Int) + 1) + 1 by omega, Int.add_mul ((i : Int) + 1) 1, Int.one_mul]
      omega
    walk_at "go"
    apply d_ifE
    · walk_at "et"
    · intro hc H4 e4
      have hc := of_decide_eq_true hc
      walk_at "go"
      rename_i w H5 e5 hw H6 b6 h6
      rw [nxt]
      refine ⟨(mvs x y).toNat - (i + 1), by omega, i + 1, ws ++ [w], rfl, by omega, rfl, by walk_at "ex", h6, ?_⟩
      rw [opts_succ]
      have g3 : PrsS H5 ws (opts x y i) := h3.imp fun _ _ _ z => ((z.mono e3).mono e4).mono e5
      refine (g3.app (us := [w]) (qs := [bh x y ((i : Int) + 1)]) ⟨?_, trivial⟩).imp fun _ _ _ z => b6.prs (by walk_at "hl") z
      unfold bh
      rw [if_pos hc]
      rw [show max x y = x by omega, show min x y = y by omega] at hw
      exact hw
    · intro hc H4 e4
      have hc := of_decide_eq_false hc
      walk_at "go"
      rename_i w H5 e5 hw H6 b6 h6
      rw [nxt]
      refine ⟨(mvs x y).toNat - (i + 1), by omega, i + 1, ws ++ [w], rfl, by omega, rfl, by walk_at "ex", h6, ?_⟩
      rw [opts_succ]
      have g3 : PrsS H5 ws (opts x y i) := h3.imp fun _ _ _ z => ((z.mono e3).mono e4).mono e5
      refine (g3.app (us := [w]) (qs := [bh x y ((i : Int) + 1)]) ⟨?_, trivial⟩).imp fun _ _ _ z => b6.prs (by walk_at "hl") z
      unfold bh
      rw [if_neg hc]
      rw [show max x y = y by omega, show min x y = x by omega] at hw
      exact hw
  · have hb : ¬ ((i : Int) + 1 ≤ mvs x y) := fun z => of_decide_eq_false hb ((more i).mpr z)
    have ei : i = (mvs x y).toNat := by omega
    rw [ei] at h3
    walk_at "go"
    exact q l _ ws hl (by walk_at "ex") (e3 _ _ h2) (h3.imp fun _ _ _ z => z.mono e3)
theorem u_options {H : Hp} {Q : VK} {E : XK} {v : V} {x y : Int} (hp : Pr K H v x y) (hx : Gd x) (hy : Gd y) (hx9 : x ≤ 1000) (hy9 : y ≤ 1000) (q : ∀ p H2 ws, H p = none → Ex H H2 → H2 p = some (.lst ws) → PrsS H2 ws (opts x y (mvs x y).toNat) → Q (.ref p) H2) :
    sp__law_options K [v] H Q E := ⟨v, x, y, rfl, hp, hx, hy, hx9, hy9, q⟩
local macro_rules | `(tactic| walk_at "spcall") => `(tactic| ((with_reducible apply u_options); (· walk_at "pr"); (· walk_at "gd"); (· walk_at "gd"); (· omega); (· omega); intro _ _ _ _ _ _ _))

/-! ### worth -/
def sp_worth (K : PySem.W.Frag) : Sp := fun vs H Q _ => ∃ v x y, vs = [v] ∧ Pr K H v x y ∧ Gd x ∧ Gd y ∧ RetV (.int (wt x y)) H Q
theorem ok_worth (F : Df K mg "worth" s_worth) (T : Txt K mg) (c_asked_pair : Cl P w K mg base 1 "asked_pair" (sp_asked_pair K)) (c_worth_of : Cl P w K mg base 1 "worth_of" (sp_worth_of K)) : Cl P w K mg base 2 "worth" (sp_worth K) := by
  refine cl_of (N := ["pair"]) (ps := ["pair"]) F (fun _ _ _ _ _ _ us hl => match us, hl with | [_], _ => rfl) sc_worth (fun vs H Q E h => by obtain ⟨_, _, _, rfl, _⟩ := h; rfl) (fun f cdv A outer s H vs Q E hr h => ⟨_, (pss_cons (ps_expr (pe_cl c_asked_pair hr (by decide) (by rfl) (pa_cons (pv 0) pa_nil)))
    (pss_one (ps_ret (pe_cl c_worth_of hr (by decide) (by rfl) (pa_cons (pv 0) pa_nil))))), ?_⟩)
  obtain ⟨v, x, y, rfl, hp, hx, hy, q⟩ := h
  rw [show start ["pair"] [v] = [some (v)] from rfl]
  walk_at "go"
  exact q _ (by walk_at "ex")
theorem u_worth {H : Hp} {Q : VK} {E : XK} {v : V} {x y : Int} (hp : Pr K H v x y) (hx : Gd x) (hy : Gd y) (q : ∀ H2, Ex H H2 → Q (.int (wt x y)) H2) : sp_worth K [v] H Q E := ⟨v, x, y, rfl, hp, hx, hy, q⟩
local macro_rules | `(tactic| walk_at "spcall") => `(tactic| ((with_reducible apply u_worth); (· walk_at "pr"); (· walk_at "gd"); (· walk_at "gd"); intro _ _))

/-! ### _law_small_by -/
def sp__law_small_by (K : PySem.W.Frag) : Sp := fun vs H Q _ => ∃ (a : Addr) (ns : List Int) (n m : Int), vs = [.ref a, .int n, .int m] ∧ SqL K H a (ns.map V.int) ∧ 0 ≤ n ∧ 1 ≤ m ∧ m ≤ 100 ∧
  ∀ v H' x y, Ex H H' → PrS H' v x y → 1 ≤ x → x ≤ m → 1 ≤ y → y ≤ m → Q v H'
theorem ok__law_small_by (F : Df K mg "_law_small_by" s__law_small_by) (T : Txt K mg) (c__law_cell_at : Cl P w K mg base 1 "_law_cell_at" (sp__law_cell_at K)) : Cl P w K mg base 2 "_law_small_by" (sp__law_small_by K) := by
  refine cl_of (N := ["script", "at", "most", "one", "other"]) (ps := ["script", "at", "most"]) F (fun _ _ _ _ _ _ us hl => match us, hl with | [_, _, _], _ => rfl) sc__law_small_by (fun vs H Q E h => by obtain ⟨_, _, _, _, rfl, _⟩ := h; rfl) (fun f cdv A outer s H vs Q E hr h => ⟨_, (pss_cons (ps_set (i := 3) sc__law_small_by.nd rfl (.inl rfl) (pe_op op_add pe_int (pe_op op_mod (pe_cl c__law_cell_at hr (by decide) (by rfl) (pa_cons (pv 0) (pa_cons (pv 1) pa_nil))) (pv 2))))
    (pss_cons (ps_set (i := 4) sc__law_small_by.nd rfl (.inl rfl) (pe_op op_add pe_int (pe_op op_mod (pe_cl c__law_cell_at hr (by decide) (by rfl) (pa_cons (pv 0) (pa_cons (pe_op op_add (pv 1) pe_int) pa_nil))) (pv 2))))
    (pss_one (ps_ret (pe_tup (pa_cons (pv 3) (pa_cons (pv 4) pa_nil))))))), ?_⟩)
  obtain ⟨a, ns, n, m, rfl, hs, hn, hm, hm2, q⟩ := h
  rw [show start ["script", "at", "most", "one", "other"] [.ref a, .int n, .int m] = [some (.ref a), some (.int n), some (.int m), none, none] from rfl]
  walk_at "go"
  have r0 := Int.emod_nonneg (cellL ns n.toNat) (show m ≠ 0 by omega)
  have r1 := Int.emod_lt_of_pos (cellL ns n.toNat) (show 0 < m by omega)
  have r2 := Int.emod_nonneg (cellL ns (n + 1).toNat) (show m ≠ 0 by omega)
  have r3 := Int.emod_lt_of_pos (cellL ns (n + 1).toNat) (show 0 < m by omega)
  exact q _ _ _ _ (by walk_at "ex") (by walk_at "ps") (by omega) (by omega) (by omega) (by omega)
theorem u_small_by {H : Hp} {Q : VK} {E : XK} {a : Addr} {ns : List Int} {n m : Int} (hs : SqL K H a (ns.map V.int)) (hn : 0 ≤ n) (hm : 1 ≤ m) (hm2 : m ≤ 100) (q : ∀ v H' x y, Ex H H' → PrS H' v x y → 1 ≤ x → x ≤ m → 1 ≤ y → y ≤ m → Q v H') :
    sp__law_small_by K [.ref a, .int n, .int m] H Q E := ⟨a, ns, n, m, rfl, hs, hn, hm, hm2, q⟩
local macro_rules | `(tactic| walk_at "spcall") => `(tactic| ((with_reducible apply u_small_by); (· walk_at "sl"); (· omega); (· omega); (· omega); intro _ _ _ _ _ _ _ _ _ _))

/-! ### _law_mex -/
/-! ### worths by quotient and rest -/
theorem noeq_nat : ∀ (n : Nat) (s r k : Int), r.toNat < n → 0 < r → r < s → 0 ≤ k → r * (k * s + r) ≠ s * s
  | 0, _, _, _, h, _, _, _ => absurd h (Nat.not_lt_zero _)
  | n + 1, s, r, k, h, h0, h1, hk => fun e => by
    -- t = s - k r; r * r = s * t
    have e1 : r * r = s * (s - k * r) := by
      rw [Int.mul_sub, ← e, Int.mul_add]
      have : r * (k * s) = s * (k * r) := by rw [← Int.mul_assoc, Int.mul_comm r k, Int.mul_comm (k * r) s]
      omega
    generalize ht : s - k * r = t at e1
    have t0 : 0 < t := by
      have h2 : 0 < s * t := by rw [← e1]; exact Int.mul_pos h0 h0
      exact Int.pos_of_mul_pos_right h2 (by omega) |> fun z => z
    have t1 : t < r := by
      have h2 : r * r < s * r := Int.mul_lt_mul_of_pos_right h1 h0
      rw [e1] at h2
      exact Int.lt_of_mul_lt_mul_left h2 (by omega)
    refine noeq_nat n r t k (by omega) t0 t1 hk ?_
    have es : s = k * r + t := by omega
    rw [es] at e1
    rw [e1, Int.mul_comm]
theorem noeq {s r k : Int} (h0 : 0 < r) (h1 : r < s) (hk : 0 ≤ k) : r * (k * s + r) ≠ s * s := noeq_nat (r.toNat + 1) s r k (Nat.lt_succ_self _) h0 h1 hk
/-- the worth of the pair k * s + r, s -/
def lv (s r k : Int) : Int := if r = 0 then k - 1 else if k = 0 then wt s r else if wt s r < k then k else k - 1
theorem wt_lv {s r k : Int} (hs : 0 < s) (hr : 0 ≤ r) (hr2 : r < s) (hk : 0 ≤ k) (hk2 : r = 0 → 1 ≤ k) : wt (k * s + r) s = lv s r k := by
  by_cases k0 : k = 0
  · have r0 : r ≠ 0 := fun z => by have := hk2 z; omega
    subst k0
    unfold lv
    rw [if_neg r0, if_pos rfl, Int.zero_mul, Int.zero_add, wt_comm]
  · have g1 : s ≤ k * s := by
      have := Int.mul_le_mul_of_nonneg_right (show 1 ≤ k by omega) (Int.le_of_lt hs)
      omega
    generalize hg : k * s + r = g
    have gs : s ≤ g := by omega
    have hgs : 0 < g * s := Int.mul_pos (by omega) hs
    have e1 : g * g - s * s = (g * r - s * s) + g * s * k := by
      have : g * g = g * (k * s + r) := by rw [hg]
      rw [this, Int.mul_add]
      have : g * (k * s) = g * s * k := by rw [Int.mul_comm k s, Int.mul_assoc]
      omega
    have e2 : wt g s = k + (g * r - s * s) / (g * s) := by
      unfold wt
      rw [show max g s = g by omega, show min g s = s by omega, e1, Int.add_mul_ediv_left _ _ (by omega)]
      omega
    have grs : g * r < g * s := Int.mul_lt_mul_of_pos_left hr2 (by omega)
    have ssg : s * s ≤ g * s := Int.mul_le_mul_of_nonneg_right gs (by omega)
    have ss0 : 0 < s * s := Int.mul_pos hs hs
    have gr0 : 0 ≤ g * r := Int.mul_nonneg (by omega) hr
    have hi : s * s ≤ g * r → wt g s = k := fun c => by
      rw [e2, Int.ediv_eq_zero_of_lt (by omega) (by omega)]
      omega
    have lo : ¬ s * s ≤ g * r → wt g s = k - 1 := fun c => by
      have e3 : (g * r - s * s) / (g * s) = -1 := by
        have e4 : g * r - s * s = (g * r - s * s + g * s) + g * s * (-1) := by omega
        rw [e4, Int.add_mul_ediv_left _ _ (by omega), Int.ediv_eq_zero_of_lt (by omega) (by omega)]
        rfl
      rw [e2, e3]
      omega
    unfold lv
    by_cases r0 : r = 0
    · rw [if_pos r0]
      refine lo ?_
      rw [r0, Int.mul_zero]
      omega
    · rw [if_neg r0, if_neg k0]
      have hr0 : 0 < r := by omega
      have hsr : 0 < s * r := Int.mul_pos hs hr0
      have w1 : wt s r = (s * s - r * r) / (s * r) := by
        unfold wt
        rw [show max s r = s by omega, show min s r = r by omega]
      have key : wt s r < k ↔ s * s < g * r := by
        rw [w1, Int.ediv_lt_iff_lt_mul hsr]
        have : k * (s * r) = g * r - r * r := by
          rw [← hg, Int.add_mul, ← Int.mul_assoc]
          omega
        omega
      have ne : g * r ≠ s * s := by
        have := noeq hr0 hr2 hk
        rw [hg, Int.mul_comm] at this
        exact this
      by_cases c : wt s r < k
      · rw [if_pos c]
        exact hi (by have := key.mp c; omega)
      · rw [if_neg c]
        exact lo (fun z => c (key.mpr (by omega)))
theorem lv_low {s r : Int} (hs : 0 < s) (hr : 0 ≤ r) (hr2 : r < s) : r = 0 ∨ 0 ≤ wt s r := by
  by_cases c : r = 0
  · exact .inl c
  · exact .inr (wt_nonneg (by omega) (by omega))
theorem lv_inj {s r k k' : Int} (hw : r = 0 ∨ 0 ≤ wt s r) (hk : 0 ≤ k) (hk' : 0 ≤ k') (h1 : r = 0 → 1 ≤ k) (h2 : r = 0 → 1 ≤ k') (e : lv s r k = lv s r k') : k = k' := by
  unfold lv at e
  by_cases c : r = 0
  · rw [if_pos c, if_pos c] at e; omega
  · rw [if_neg c, if_neg c] at e
    have hw2 : 0 ≤ wt s r := hw.resolve_left c
    generalize wt s r = w at *
    split at e <;> split at e <;> (try split at e) <;> (try split at e) <;> omega
theorem lv_nonneg {s r k : Int} (hw : r = 0 ∨ 0 ≤ wt s r) (hk : 0 ≤ k) (h1 : r = 0 → 1 ≤ k) : 0 ≤ lv s r k := by
  unfold lv
  by_cases c : r = 0
  · rw [if_pos c]; have := h1 c; omega
  · rw [if_neg c]
    have hw2 : 0 ≤ wt s r := hw.resolve_left c
    split
    · exact hw2
    · split <;> omega
theorem lv_surj {s r q n : Int} (hw : r = 0 ∨ 0 ≤ wt s r) (hq : 1 ≤ q) (hn : 0 ≤ n) (h : n < lv s r q) : ∃ k, 0 ≤ k ∧ k < q ∧ (r = 0 → 1 ≤ k) ∧ lv s r k = n := by
  unfold lv at h
  by_cases c : r = 0
  · rw [if_pos c] at h
    refine ⟨n + 1, by omega, by omega, fun _ => by omega, ?_⟩
    unfold lv
    rw [if_pos c]
    omega
  · rw [if_neg c, if_neg (by omega)] at h
    have hw2 : 0 ≤ wt s r := hw.resolve_left c
    have form : ∀ k, lv s r k = if k = 0 then wt s r else if wt s r < k then k else k - 1 := fun k => by unfold lv; rw [if_neg c]
    generalize hwt : wt s r = w at *
    by_cases d : n < w
    · refine ⟨n + 1, by omega, ?_, fun z => absurd z c, ?_⟩
      · split at h <;> omega
      · rw [form, if_neg (by omega), if_neg (by omega)]
        omega
    · by_cases e : n = w
      · refine ⟨0, by omega, by omega, fun z => absurd z c, ?_⟩
        rw [form, if_pos rfl, e]
      · refine ⟨n, hn, ?_, fun z => absurd z c, ?_⟩
        · split at h <;> omega
        · rw [form, if_neg (by omega), if_pos (by omega)]
theorem lv_greater {s r q k : Int} (hw : r = 0 ∨ 0 ≤ wt s r) (hk : 0 ≤ k) (hkq : k < q) (h : lv s r q < lv s r k) : k = 0 := by
  unfold lv at h
  by_cases c : r = 0
  · rw [if_pos c, if_pos c] at h; omega
  · rw [if_neg c, if_neg c] at h
    generalize wt s r = w at *
    split at h <;> split at h <;> (try split at h) <;> (try split at h) <;> omega
theorem lv_at {s r k : Int} : k = lv s r k ∨ k = lv s r k + 1 ∨ k = 0 := by
  unfold lv
  split
  · omega
  · split
    · omega
    · split <;> omega
/-! ### moves and their worths -/
/-- the worth behind a move -/
def wtb (x y t : Int) : Int := wt (bh x y t).1 (bh x y t).2
structure Qr (x y s r q : Int) : Prop where
  hs : 0 < s
  hr : 0 ≤ r
  hr2 : r < s
  hq : 1 ≤ q
  hq0 : max x y / min x y = q
  own : wt x y = lv s r q
  mv : mvs x y = q - (if r = 0 then 1 else 0)
  bt : ∀ t, 1 ≤ t → t ≤ mvs x y → wtb x y t = lv s r (q - t)
theorem qr_of {x y : Int} (hx : 1 ≤ x) (hy : 1 ≤ y) : Qr x y (min x y) (max x y % min x y) (max x y / min x y) := by
  have hs : 0 < min x y := by omega
  have h1 := Int.emod_add_mul_ediv (max x y) (min x y)
  have h2 := Int.emod_nonneg (max x y) (by omega : min x y ≠ 0)
  have h3 := Int.emod_lt_of_pos (max x y) hs
  have hq : 1 ≤ max x y / min x y := by
    rw [Int.le_ediv_iff_mul_le hs]
    omega
  have hmv : mvs x y = max x y / min x y - (if max x y % min x y = 0 then 1 else 0) := by
    unfold mvs
    generalize hM : max x y = M at *
    generalize hm : min x y = m at *
    generalize M / m = q at *
    by_cases c : M % m = 0
    · rw [if_pos c]
      rw [c] at h1
      have e : M - 1 = (m - 1) + m * (q - 1) := by rw [Int.mul_sub]; omega
      rw [e, Int.add_mul_ediv_left _ _ (by omega), Int.ediv_eq_zero_of_lt (by omega) (by omega)]
      omega
    · rw [if_neg c]
      have e : M - 1 = (M % m - 1) + m * q := by omega
      rw [e, Int.add_mul_ediv_left _ _ (by omega), Int.ediv_eq_zero_of_lt (by omega) (by omega)]
      omega
  have hk2 : ∀ t, t ≤ mvs x y → max x y % min x y = 0 → 1 ≤ max x y / min x y - t := fun t ht c => by
    rw [hmv, if_pos c] at ht
    omega
  have hk : ∀ t, t ≤ mvs x y → 0 ≤ max x y / min x y - t := fun t ht => by
    rw [hmv] at ht
    split at ht <;> omega
  refine ⟨hs, h2, h3, hq, rfl, ?_, hmv, fun t h5 h6 => ?_⟩
  · have e := wt_lv hs h2 h3 (show 0 ≤ max x y / min x y by omega) fun _ => hq
    rw [← e]
    have e2 : max x y / min x y * min x y + max x y % min x y = max x y := by
      rw [Int.mul_comm]
      omega
    rw [e2]
    by_cases c : x ≤ y
    · rw [show max x y = y by omega, show min x y = x by omega, wt_comm]
    · rw [show max x y = x by omega, show min x y = y by omega]
  · have e := wt_lv hs h2 h3 (hk t h6) (hk2 t h6)
    rw [← e]
    have e2 : (max x y / min x y - t) * min x y + max x y % min x y = max x y - t * min x y := by
      rw [Int.sub_mul, Int.mul_comm (max x y / min x y)]
      omega
    rw [e2]
    unfold wtb bh
    by_cases c : y < x
    · rw [if_pos c, show max x y = x by omega, show min x y = y by omega]
    · rw [if_neg c, show max x y = y by omega, show min x y = x by omega, wt_comm]
theorem Qr.k0 {x y s r q t : Int} (h : Qr x y s r q) (h1 : 1 ≤ t) (h2 : t ≤ mvs x y) : 0 ≤ q - t ∧ (r = 0 → 1 ≤ q - t) := by
  rw [h.mv] at h2
  refine ⟨by split at h2 <;> omega, fun c => ?_⟩
  rw [if_pos c] at h2
  omega
theorem Qr.low {x y s r q : Int} (h : Qr x y s r q) : r = 0 ∨ 0 ≤ wt s r := lv_low h.hs h.hr h.hr2
/-- no two moves lead to one worth -/
theorem wtb_inj {x y t u : Int} (hx : 1 ≤ x) (hy : 1 ≤ y) (h1 : 1 ≤ t) (h2 : t ≤ mvs x y) (h3 : 1 ≤ u) (h4 : u ≤ mvs x y) (e : wtb x y t = wtb x y u) : t = u := by
  have h := qr_of hx hy
  generalize min x y = s at h
  generalize max x y % s = r at h
  generalize max x y / s = q at h
  rw [h.bt t h1 h2, h.bt u h3 h4] at e
  have := lv_inj h.low (h.k0 h1 h2).1 (h.k0 h3 h4).1 (h.k0 h1 h2).2 (h.k0 h3 h4).2 e
  omega
/-- none leads to the pair's own -/
theorem wtb_ne {x y t : Int} (hx : 1 ≤ x) (hy : 1 ≤ y) (h1 : 1 ≤ t) (h2 : t ≤ mvs x y) : wtb x y t ≠ wt x y := fun e => by
  have h := qr_of hx hy
  generalize min x y = s at h
  generalize max x y % s = r at h
  generalize max x y / s = q at h
  rw [h.bt t h1 h2, h.own] at e
  have := lv_inj h.low (h.k0 h1 h2).1 (by have := h.hq; omega) (h.k0 h1 h2).2 (fun _ => h.hq) e
  omega
/-- each lesser worth is led to -/
theorem wtb_surj {x y n : Int} (hx : 1 ≤ x) (hy : 1 ≤ y) (h0 : 0 ≤ n) (h1 : n < wt x y) : ∃ t, 1 ≤ t ∧ t ≤ mvs x y ∧ wtb x y t = n := by
  have h := qr_of hx hy
  generalize min x y = s at h
  generalize max x y % s = r at h
  generalize max x y / s = q at h
  rw [h.own] at h1
  obtain ⟨k, k0, k1, k2, k3⟩ := lv_surj h.low h.hq h0 h1
  have hm := h.mv
  have ht : q - k ≤ mvs x y := by
    rw [hm]
    split
    · rename_i c
      have := k2 c
      omega
    · omega
  refine ⟨q - k, by omega, ht, ?_⟩
  rw [h.bt _ (by omega) ht, show q - (q - k) = k by omega]
  exact k3
/-- at most one leads to a greater one -/
theorem wtb_greater {x y t u : Int} (hx : 1 ≤ x) (hy : 1 ≤ y) (h1 : 1 ≤ t) (h2 : t ≤ mvs x y) (h3 : 1 ≤ u) (h4 : u ≤ mvs x y) (g1 : wt x y < wtb x y t) (g2 : wt x y < wtb x y u) : t = u := by
  have h := qr_of hx hy
  generalize min x y = s at h
  generalize max x y % s = r at h
  generalize max x y / s = q at h
  rw [h.bt t h1 h2, h.own] at g1
  rw [h.bt u h3 h4, h.own] at g2
  have := lv_greater h.low (h.k0 h1 h2).1 (by omega) g1
  have := lv_greater h.low (h.k0 h3 h4).1 (by omega) g2
  omega
theorem wtb_nonneg {x y t : Int} (hx : 1 ≤ x) (hy : 1 ≤ y) (h1 : 1 ≤ t) (h2 : t ≤ mvs x y) : 0 ≤ wtb x y t := by
  have h := qr_of hx hy
  generalize min x y = s at h
  generalize max x y % s = r at h
  generalize max x y / s = q at h
  rw [h.bt t h1 h2]
  exact lv_nonneg h.low (h.k0 h1 h2).1 (h.k0 h1 h2).2
/-- where the move is found -/
theorem wtb_at {x y t : Int} (hx : 1 ≤ x) (hy : 1 ≤ y) (h1 : 1 ≤ t) (h2 : t ≤ mvs x y) : t = max x y / min x y - wtb x y t ∨ t = max x y / min x y - (wtb x y t + 1) ∨ t = max x y / min x y - 0 := by
  have h := qr_of hx hy
  have hq0 := h.hq0
  generalize min x y = s at *
  generalize max x y % s = r at *
  generalize max x y / s = q at *
  rw [h.bt t h1 h2]
  have := @lv_at s r (q - t)
  omega

/-- what the dict knows -/
def Kn (f : Int → Int → Int) (kvs : List (List Key × V)) : Prop := (∀ p ∈ kvs, ∃ g s, p.1 = kP g s ∧ p.2 = .int (f g s) ∧ 1 ≤ s ∧ s ≤ 30 ∧ 1 ≤ g ∧ g ≤ 30) ∧ (kvs.map (·.1)).Nodup
def allK : List (List Key) := (List.range 31).flatMap fun g : Nat => (List.range 31).map fun s : Nat => kP (g : Int) (s : Int)
theorem allK_len : allK.length = 961 := by decide +kernel
theorem Kn.len {f : Int → Int → Int} {kvs : List (List Key × V)} (h : Kn f kvs) : kvs.length ≤ 961 := by
  have h1 : (kvs.map (·.1)) ⊆ allK := fun k hk => by
    obtain ⟨p, hp, rfl⟩ := List.mem_map.mp hk
    obtain ⟨g, s, e, _, h1, h2, h3, h4⟩ := h.1 p hp
    rw [e]
    refine List.mem_flatMap.mpr ⟨g.toNat, List.mem_range.mpr (by omega), List.mem_map.mpr ⟨s.toNat, List.mem_range.mpr (by omega), ?_⟩⟩
    rw [Int.toNat_of_nonneg (by omega), Int.toNat_of_nonneg (by omega)]
  have := h.2.length_le_of_subset h1
  rw [List.length_map, allK_len] at this
  exact this
theorem Kn.nil {f : Int → Int → Int} : Kn f [] := ⟨fun _ z => (nomatch z), List.nodup_nil⟩
theorem Kn.put {f : Int → Int → Int} {kvs : List (List Key × V)} {g s : Int} (h : Kn f kvs) (h1 : 1 ≤ s) (h2 : s ≤ 30) (h3 : 1 ≤ g) (h4 : g ≤ 30) : Kn f (putK kvs (kP g s) (.int (f g s))) := by
  unfold putK
  by_cases c : (kvs.any fun kv => decide (kv.1 = kP g s)) = true
  · rw [if_pos c]
    refine ⟨fun p hp => ?_, ?_⟩
    · obtain ⟨q, hq, rfl⟩ := List.mem_map.mp hp
      by_cases e : q.1 = kP g s
      · rw [if_pos e]
        exact ⟨g, s, e, rfl, h1, h2, h3, h4⟩
      · rw [if_neg e]
        exact h.1 q hq
    · have e : ((kvs.map fun kv => if kv.1 = kP g s then (kv.1, V.int (f g s)) else kv).map (·.1)) = kvs.map (·.1) := by
        rw [List.map_map]
        refine List.map_congr_left fun q _ => ?_
        show (if q.1 = kP g s then (q.1, V.int (f g s)) else q).1 = q.1
        split <;> rfl
      rw [e]
      exact h.2
  · rw [if_neg c]
    have hn : valV kvs (kP g s) = none := by
      rw [valV_any] at c
      cases q : valV kvs (kP g s) with
      | none => rfl
      | some x => rw [q] at c; exact (c rfl).elim
    refine ⟨fun p hp => ?_, ?_⟩
    · rcases List.mem_append.mp hp with hp | hp
      · exact h.1 p hp
      · rw [List.mem_singleton.mp hp]
        exact ⟨g, s, rfl, rfl, h1, h2, h3, h4⟩
    · rw [List.map_append, List.nodup_append]
      refine ⟨h.2, by simp, fun a ha b hb e => ?_⟩
      have hb : b = kP g s := by simpa using hb
      rw [e, hb] at ha
      exact valV_not hn ha
theorem kP_inj {g s g' s' : Int} (h : kP g s = kP g' s') : g = g' ∧ s = s' := by
  unfold kP at h
  simp at h
  exact h
theorem Kn.get {f : Int → Int → Int} {kvs : List (List Key × V)} {g s : Int} {v : V} (h : Kn f kvs) (hv : valV kvs (kP g s) = some v) : v = .int (f g s) := by
  obtain ⟨g', s', e, e2, _⟩ := h.1 _ (valV_mem hv)
  obtain ⟨rfl, rfl⟩ := kP_inj e
  exact e2
theorem mvs_sorted (x y : Int) : mvs (max x y) (min x y) = mvs x y := by
  unfold mvs
  rw [show max (max x y) (min x y) = max x y by omega, show min (max x y) (min x y) = min x y by omega]
theorem wt_sorted (x y : Int) : wt (max x y) (min x y) = wt x y := by
  unfold wt
  rw [show max (max x y) (min x y) = max x y by omega, show min (max x y) (min x y) = min x y by omega]
/-- the worths behind all moves -/
def wlo (x y : Int) : List Int := (opts x y (mvs x y).toNat).map fun p => wt p.1 p.2
theorem mem_wlo {x y n : Int} (hx : 1 ≤ x) (hy : 1 ≤ y) : n ∈ wlo x y ↔ ∃ t, 1 ≤ t ∧ t ≤ mvs x y ∧ wtb x y t = n := by
  unfold wlo opts
  rw [List.map_map]
  constructor
  · intro h
    obtain ⟨i, hi, e⟩ := List.mem_map.mp h
    have hi := List.mem_range.mp hi
    exact ⟨(i : Int) + 1, by omega, by omega, e⟩
  · rintro ⟨t, t1, t2, t3⟩
    refine List.mem_map.mpr ⟨t.toNat - 1, List.mem_range.mpr (by omega), ?_⟩
    show wt (bh x y (((t.toNat - 1 : Nat) : Int) + 1)).1 (bh x y (((t.toNat - 1 : Nat) : Int) + 1)).2 = n
    rw [show ((t.toNat - 1 : Nat) : Int) + 1 = t by omega]
    exact t3
theorem opts_len (x y : Int) (n : Nat) : (opts x y n).length = n := by
  unfold opts
  simp
theorem opts_get {x y : Int} {n i : Nat} {p : Int × Int} (h : (opts x y n)[i]? = some p) : i < n ∧ p = bh x y ((i : Int) + 1) := by
  unfold opts at h
  rw [List.getElem?_map] at h
  obtain ⟨j, hj, rfl⟩ := Option.map_eq_some_iff.mp h
  have h1 := (List.getElem?_eq_some_iff.mp hj).1
  rw [List.length_range] at h1
  rw [List.getElem?_range h1] at hj
  cases hj
  exact ⟨h1, rfl⟩
theorem bh_sum {x y t : Int} (hx : 1 ≤ x) (hy : 1 ≤ y) (h1 : 1 ≤ t) : (bh x y t).1 + (bh x y t).2 + 1 ≤ x + y := by
  unfold bh
  by_cases c : y < x
  · rw [if_pos c]
    have := Int.mul_le_mul_of_nonneg_right h1 (show 0 ≤ y by omega)
    show x - t * y + y + 1 ≤ _
    omega
  · rw [if_neg c]
    have := Int.mul_le_mul_of_nonneg_right h1 (show 0 ≤ x by omega)
    show x + (y - t * x) + 1 ≤ _
    omega
theorem bh_small {x y t : Int} (hx : 1 ≤ x) (hy : 1 ≤ y) (h1 : 1 ≤ t) (hx9 : x ≤ 30) (hy9 : y ≤ 30) : (bh x y t).1 ≤ 30 ∧ (bh x y t).2 ≤ 30 := by
  unfold bh
  by_cases c : y < x
  · rw [if_pos c]
    have := Int.mul_le_mul_of_nonneg_right h1 (show 0 ≤ y by omega)
    exact ⟨by show x - t * y ≤ 30; omega, hy9⟩
  · rw [if_neg c]
    have := Int.mul_le_mul_of_nonneg_right h1 (show 0 ≤ x by omega)
    exact ⟨hx9, by show y - t * x ≤ 30; omega⟩
def sp_mexN (K : PySem.W.Frag) (n : Nat) : Sp := fun vs H Q _ => ∃ (v : V) (x y : Int) (kd : Addr) (kvs : List (List Key × V)), vs = [v, .ref kd] ∧ Pr K H v x y ∧ 1 ≤ x ∧ 1 ≤ y ∧ x ≤ 30 ∧ y ≤ 30 ∧ x + y ≤ n ∧ H kd = some (.dT kvs) ∧ Kn wt kvs ∧
  ∀ H' kvs', Exb kd H H' → H' kd = some (.dT kvs') → Kn wt kvs' → Q (.int (wt x y)) H'
abbrev sp__law_mex (K : PySem.W.Frag) : Sp := sp_mexN K 78
theorem rec__law_mex (F : Df K mg "_law_mex" s__law_mex) (T : Txt K mg) (c__law_options : Cl P w K mg base 1 "_law_options" (sp__law_options K)) : ∀ n : Nat, Cl P w K mg base (n + 2) "_law_mex" (sp_mexN K n)
  | 0 => by
    refine cl_of (k := 1) (N := ["pair", "known", "key", "seen", "least", "other"]) (ps := ["pair", "known"]) F (fun _ _ _ _ _ _ us hl => match us, hl with | [_, _], _ => rfl) sc__law_mex (fun vs H Q E h => by obtain ⟨_, _, _, _, _, rfl, _⟩ := h; rfl) (fun f cdv A outer s H vs Q E hr h => ⟨tNever, pss_never, ?_⟩)
    obtain ⟨v, x, y, kd, kvs, rfl, hp, hx1, hy1, hx9, hy9, hn, hkd, hK, q⟩ := h
    have : False := by
      have e : ((0 : Nat) : Int) = 0 := rfl
      omega
    exact this.elim
  | n + 1 => by
    have c__law_mex := rec__law_mex F T c__law_options n
    refine cl_of (k := n + 2) (N := ["pair", "known", "key", "seen", "least", "other"]) (ps := ["pair", "known"]) F (fun _ _ _ _ _ _ us hl => match us, hl with | [_, _], _ => rfl) sc__law_mex (fun vs H Q E h => by obtain ⟨_, _, _, _, _, rfl, _⟩ := h; rfl) (fun f cdv A outer s H vs Q E hr h => ⟨_, (pss_cons (ps_set (i := 2) sc__law_mex.nd rfl (.inl rfl) (pe_tup (pa_cons (pe_callB (call_maxT rfl) (by rfl) T.b_max (by decide +kernel) (pa_cons (pv 0) pa_nil)) (pa_cons (pe_callB (call_minT rfl) (by rfl) T.b_min (by decide +kernel) (pa_cons (pv 0) pa_nil)) pa_nil))))
    (pss_cons (ps_if (pt_cmp (pc_dnotin (hu_of hr) (pv 2) (pv 1))) (pss_cons (ps_setLc (i := 3) (own := [("other", 5)]) (g := gName 5) rfl sc__law_mex.nd rfl rfl (sw_true rfl rfl rfl (by decide +kernel)) (pi_list (pe_cl c__law_options hr (by omega) (by rfl) (pa_cons (pv 2) pa_nil))) (blkOk_by (own := [("other", 5)]) (N := ["pair", "known", "key", "seen", "least", "other"]) (sc := defScope s__law_mex) (by decide +kernel)) (fun _ _ _ _ _ => (pg_name (i := 5) sc__law_mex.nd rfl (.inl rfl))) (fun _ _ _ _ _ => pts_nil) (fun _ _ _ _ _ => (pe_cl c__law_mex hr (by omega) (by rfl) (pa_cons (pv 5) (pa_cons (pv 1) pa_nil)))))
    (pss_cons (ps_set (i := 4) sc__law_mex.nd rfl (.inl rfl) pe_int)
    (pss_cons (ps_while PassesOwn.never (pt_cmpR op_in_seq (pv 4) (pv 3) rfl) (pss_one (ps_set (i := 4) sc__law_mex.nd rfl (.inl rfl) (pe_op op_add (pv 4) pe_int))))
    (pss_one (ps_dput (hu_of hr) (pv 1) (pv 2) (pv 4) rfl))))) pss_nil)
    (pss_one (ps_ret (pe_dget (hu_of hr) (pv 1) (pv 2) (fun _ _ => rfl)))))), ?_⟩)
    obtain ⟨v, x, y, kd, kvs, rfl, hp, hx1, hy1, hx9, hy9, hn, hkd, hK, q⟩ := h
    rw [show start ["pair", "known", "key", "seen", "least", "other"] [v, .ref kd] = [some v, some (.ref kd), none, none, none, none] from rfl]
    walk_at "go"
    rename_i key H1 e1 hkey
    have hkd1 : H1 kd = some (.dT kvs) := e1 _ _ hkd
    walk_at "if"
    · intro hb H2 e2
      have hno : valV kvs (kP (max x y) (min x y)) = none := by
        cases hv : valV kvs (kP (max x y) (min x y)) with
        | none => rfl
        | some z => rw [hv] at hb; cases hb
      have hkd2 : H2 kd = some (.dT kvs) := e2 _ _ hkd1
      have gX : Gd (max x y) := ⟨by omega, by omega⟩
      have gY : Gd (min x y) := ⟨by omega, by omega⟩
      walk_at "go"
      refine d_lc ?_
      walk_at "go"
      rename_i p H3 ws hp3 e3 h3 hws
      have hkd3 : H3 kd = some (.dT kvs) := e3 _ _ hkd2
      have hwl : ws.length ≤ 100000 := by
        rw [hws.len, opts_len]
        have := (mvs_le gX gY).1
        have : mvs (max x y) (min x y) ≤ max (max x y) (min x y) - 1 := Int.ediv_le_self _ (by omega)
        omega
      have hkey3 : PrS H3 key (max x y) (min x y) := (hkey.mono e2).mono e3
      refine d_rLcM (kvs := kvs) (kd := kd) hwl (fun i acc H' => ∃ kvs', H' kd = some (.dT kvs') ∧ Kn wt kvs' ∧ acc = ((wlo (max x y) (min x y)).take i).map V.int) h3 hkd3
        (fun D i acc acc' H5 H6 b hD r => by
          obtain ⟨kvs', r1, r2, r3⟩ := r
          exact ⟨kvs', b _ _ r1 (ne_of r1 hD (by intro z; cases z)), r2, r3⟩)
        (fun _ => rfl) (fun H5 e5 => ⟨kvs, e5 _ _ hkd3, hK, rfl⟩) ?_ ?_
      · rintro i xv acc H5 hi b5 hl5 ⟨kvs', k1, k2, k3⟩ Q' q'
        obtain ⟨pp, hpp, hps⟩ := hws.get hi
        obtain ⟨i1, rfl⟩ := opts_get hpp
        have m0 := (mvs_le gX gY).1
        have t2 : (i : Int) + 1 ≤ mvs (max x y) (min x y) := by omega
        obtain ⟨g1, g2⟩ := bh_gd gX gY (show 1 ≤ (i : Int) + 1 by omega) t2
        obtain ⟨l1, l2⟩ := bh_small gX.1 gY.1 (show 1 ≤ (i : Int) + 1 by omega) (by omega) (by omega)
        have sm := bh_sum gX.1 gY.1 (show 1 ≤ (i : Int) + 1 by omega)
        have hps5 := b5.prsd hkd3 hps
        walk_at "nx"
        walk_at "go"
        refine ⟨xv, _, _, kd, kvs', rfl, hps5.pr, g1.1, g2.1, l1, l2, ?_, k1, k2, fun H6 kvs6 b6 k6 n6 => ?_⟩
        · have e : ((n + 1 : Nat) : Int) = (n : Int) + 1 := rfl
          omega
        · refine q' _ _ b6 ⟨kvs6, k6, n6, ?_⟩
          have hwi : (wlo (max x y) (min x y))[i]? = some (wt (bh (max x y) (min x y) ((i : Int) + 1)).1 (bh (max x y) (min x y) ((i : Int) + 1)).2) := by
            unfold wlo
            rw [List.getElem?_map, hpp]
            rfl
          rw [k3, take_succ' hwi, List.map_append]
          rfl
      · rintro pd H5 acc hpd b5 h5 ⟨kvs', k1, k2, k3⟩
        have hfull : ws.length = (wlo (max x y) (min x y)).length := by
          rw [hws.len]
          unfold wlo
          rw [List.length_map]
        rw [hfull, List.take_length] at k3
        subst k3
        have hkey5 := b5.prsd hkd3 hkey3
        have w0 := wt_nonneg gX.1 gY.1
        walk_at "nx"
        walk_at "go"
        refine d_while (fun m σ' H' => ∃ l : Int, σ' = [some v, some (.ref kd), some key, some (.ref pd), some (.int l), none] ∧ 0 ≤ l ∧ l ≤ wt (max x y) (min x y) ∧ m = (wt (max x y) (min x y) - l).toNat ∧ Ex H5 H') _ ⟨0, rfl, by decide, w0, rfl, Ex.refl _⟩ ?_
        rintro m σ' H6 ⟨l, rfl, l0, l1, rfl, e6⟩
        refine ⟨decide (l ∈ wlo (max x y) (min x y)), by walk_at "et", fun hb2 H7 e7 => ?_, fun hb2 H7 e7 => ?_⟩
        · have hb2 := of_decide_eq_true hb2
          have hne : l ≠ wt (max x y) (min x y) := fun z => by
            obtain ⟨t, t1, t2, t3⟩ := (mem_wlo gX.1 gY.1).mp hb2
            exact wtb_ne gX.1 gY.1 t1 t2 (by rw [t3, z])
          walk_at "go"
          exact ⟨(wt (max x y) (min x y) - (l + 1)).toNat, by omega, l + 1, rfl, by omega, by omega, rfl, by walk_at "ex"⟩
        · have hb2 := of_decide_eq_false hb2
          have hl : l = wt (max x y) (min x y) := by
            by_cases c : l < wt (max x y) (min x y)
            · exact absurd ((mem_wlo gX.1 gY.1).mpr (wtb_surj gX.1 gY.1 l0 c)) hb2
            · omega
          subst hl
          have hkd7 : H7 kd = some (.dT kvs') := e7 _ _ (e6 _ _ k1)
          walk_at "go"
          refine d_rDPut (kvs := kvs') hkd7 (by walk_at "ps") (sz_lt (by have := k2.len; omega)) fun H8 b8 h8 => ?_
          have hkey7 : PrS H7 key (max x y) (min x y) := by walk_at "ps"
          have hkey8 := b8.prsd hkd7 hkey7
          walk_at "nx"
          walk_at "go"
          refine d_rDGet (v := .int (wt (max x y) (min x y))) h8 hkey8 (by rw [valV_put, if_pos rfl]) ?_
          have e123 : Ex H H3 := by walk_at "ex"
          have e57 : Ex H5 H7 := by walk_at "ex"
          rw [wt_sorted]
          exact q H8 _ ((((Exb.of e123).trans b5).trans (Exb.of e57)).trans b8) (by rw [h8, wt_sorted]) (by rw [← wt_sorted]; exact k2.put gY.1 (by omega) gX.1 (by omega))
    · intro hb H2 e2
      cases hv : valV kvs (kP (max x y) (min x y)) with
      | none => rw [hv] at hb; cases hb
      | some z =>
        have hz := hK.get hv
        subst hz
        walk_at "go"
        refine d_rDGet (kvs := kvs) (by walk_at "hl") (by walk_at "ps") hv ?_
        rw [wt_sorted]
        exact q _ kvs (Exb.of (by walk_at "ex")) (by walk_at "hl") hK
theorem ok__law_mex (F : Df K mg "_law_mex" s__law_mex) (T : Txt K mg) (c__law_options : Cl P w K mg base 1 "_law_options" (sp__law_options K)) : Cl P w K mg base 80 "_law_mex" (sp__law_mex K) := rec__law_mex F T c__law_options 78

/-! ### law -/
def sp_law (K : PySem.W.Frag) : Sp := fun vs H Q _ => ∃ (a : Addr) (ns : List Int), vs = [.ref a] ∧ SqL K H a (ns.map V.int) ∧ ns.length ≤ 63 ∧ ∀ H', Q (.bl true) H'
theorem ok_law {fa : Addr} {fd : FuncData} (F : L2.Fun K "law" "law" s_law fa fd) (T : Txt K mg) (c_worth : Cl P w K mg base 2 "worth" (sp_worth K)) (c__law_whole : Cl P w K mg base 1 "_law_whole" (sp__law_whole K)) (c__law_small_by : Cl P w K mg base 2 "_law_small_by" (sp__law_small_by K)) (c__law_mex : Cl P w K mg base 80 "_law_mex" (sp__law_mex K)) : FnOk P w K mg base CX0 81 fa fd ["script"] (sp_law K) := by
  refine F.ok sc_law (fun vs H Q E h => by obtain ⟨_, _, rfl, _⟩ := h; rfl) (fun cdv A outer s H vs Q E hr h => ⟨_, (pss_cons (ps_set (i := 1) sc_law.nd rfl (.inl rfl) (pe_cl c__law_small_by hr (by decide) (by rfl) (pa_cons (pv 0) (pa_cons pe_int (pa_cons pe_int pa_nil)))))
    (pss_cons (ps_set (i := 2) sc_law.nd rfl (.inl rfl) (pe_cl c__law_mex hr (by decide) (by rfl) (pa_cons (pv 1) (pa_cons pe_dnewT pa_nil))))
    (pss_cons (ps_set (i := 3) sc_law.nd rfl (.inl rfl) (pe_cl c_worth hr (by decide) (by rfl) (pa_cons (pv 1) pa_nil)))
    (pss_one (ps_ret (pe_and (pe_cl c__law_whole hr (by decide) (by rfl) (pa_cons (pv 3) pa_nil)) (pe_and (pe_cmpR op_eq (pv 3) (pv 2) (nomark _)) (pe_one (pe_cmpR op_eq (pe_cl c_worth hr (by decide) (by rfl) (pa_cons (pe_tup (pa_cons (pe_ix ix_tup (pv 1) pe_int (fun _ _ => rfl)) (pa_cons (pe_ix ix_tup (pv 1) pe_int (fun _ _ => rfl)) pa_nil))) pa_nil)) (pv 2) (nomark _)))))))))), ?_⟩)
  obtain ⟨a, ns, rfl, hs, hn, q⟩ := h
  rw [show start ["script", "pair", "due", "found"] [.ref a] = [some (.ref a), none, none, none] from rfl]
  walk_at "go"
  rename_i v H1 x y e1 hp x1 x2 y1 y2 p H2 hp2 e2 h2
  have hx : Gd x := ⟨by omega, by omega⟩
  have hy : Gd y := ⟨by omega, by omega⟩
  have hpr : Pr K H2 v x y := by walk_at "pr"
  refine ⟨v, x, y, p, [], rfl, hpr, x1, y1, x2, y2, by omega, h2, Kn.nil, fun H3 kvs b3 h3 k3 => ?_⟩
  have hpr3 : Pr K H3 v x y := b3.prd h2 hpr
  walk_at "nx"
  walk_at "go"
  refine d_ev (v := .bl true) ?_ fun H8 e8 => q _
  apply ev_is
  · walk_at "ev"
  · rw [wt_comm y x]
    simp

end
end Tk
namespace Tk
open PySem PySem.Spec PyProof.Rows L2 Evl
theorem all_mk {P : Program} {w : World} {K : PySem.W.Frag} {h : Heap} {mg : Str → Option Value} {fa : Addr} (X : K.In h) (G : h.Ns mainGlobals mg) (hfa : mg "law" = some (.ref fa))
    {f0 : Addr} {od0 an0 : Option Addr} {sl0 : Array (Option Value)} {oc0 kV0 dc0 pm0 cd0 ct0 : Value}
    {f1 : Addr} {od1 an1 : Option Addr} {sl1 : Array (Option Value)} {oc1 kV1 dc1 pm1 cd1 ct1 : Value}
    {f2 : Addr} {od2 an2 : Option Addr} {sl2 : Array (Option Value)} {oc2 kV2 dc2 pm2 cd2 ct2 : Value}
    {f3 : Addr} {od3 an3 : Option Addr} {sl3 : Array (Option Value)} {oc3 kV3 dc3 pm3 cd3 ct3 : Value}
    {f4 : Addr} {od4 an4 : Option Addr} {sl4 : Array (Option Value)} {oc4 kV4 dc4 pm4 cd4 ct4 : Value}
    {f5 : Addr} {od5 an5 : Option Addr} {sl5 : Array (Option Value)} {oc5 kV5 dc5 pm5 cd5 ct5 : Value}
    {f6 : Addr} {od6 an6 : Option Addr} {sl6 : Array (Option Value)} {oc6 kV6 dc6 pm6 cd6 ct6 : Value}
    {f7 : Addr} {od7 an7 : Option Addr} {sl7 : Array (Option Value)} {oc7 kV7 dc7 pm7 cd7 ct7 : Value}
    {f8 : Addr} {od8 an8 : Option Addr} {sl8 : Array (Option Value)} {oc8 kV8 dc8 pm8 cd8 ct8 : Value}
    {t_GREATEST : Tok}
    (a0 : PySem.W.nsIn K mainGlobals "asked_pair" = some (some (.ref f0)))
    (l0 : K.lookup f0 = some ⟨oc0, od0, .func (PySem.W.fnOf "asked_pair" "asked_pair" (defArgs s_asked_pair) (defBody s_asked_pair) (defScope s_asked_pair) .none kV0 dc0 pm0 an0 cd0 ct0), sl0⟩)
    (c0 : PySem.W.codeIn K cd0 "asked_pair" = true) (k0 : PySem.W.keepIn K (.ref f0) = true)
    (a1 : PySem.W.nsIn K mainGlobals "worth_of" = some (some (.ref f1)))
    (l1 : K.lookup f1 = some ⟨oc1, od1, .func (PySem.W.fnOf "worth_of" "worth_of" (defArgs s_worth_of) (defBody s_worth_of) (defScope s_worth_of) .none kV1 dc1 pm1 an1 cd1 ct1), sl1⟩)
    (c1 : PySem.W.codeIn K cd1 "worth_of" = true) (k1 : PySem.W.keepIn K (.ref f1) = true)
    (a2 : PySem.W.nsIn K mainGlobals "_law_cell_at" = some (some (.ref f2)))
    (l2 : K.lookup f2 = some ⟨oc2, od2, .func (PySem.W.fnOf "_law_cell_at" "_law_cell_at" (defArgs s__law_cell_at) (defBody s__law_cell_at) (defScope s__law_cell_at) .none kV2 dc2 pm2 an2 cd2 ct2), sl2⟩)
    (c2 : PySem.W.codeIn K cd2 "_law_cell_at" = true) (k2 : PySem.W.keepIn K (.ref f2) = true)
    (a3 : PySem.W.nsIn K mainGlobals "_law_whole" = some (some (.ref f3)))
    (l3 : K.lookup f3 = some ⟨oc3, od3, .func (PySem.W.fnOf "_law_whole" "_law_whole" (defArgs s__law_whole) (defBody s__law_whole) (defScope s__law_whole) .none kV3 dc3 pm3 an3 cd3 ct3), sl3⟩)
    (c3 : PySem.W.codeIn K cd3 "_law_whole" = true) (k3 : PySem.W.keepIn K (.ref f3) = true)
    (a4 : PySem.W.nsIn K mainGlobals "_law_options" = some (some (.ref f4)))
    (l4 : K.lookup f4 = some ⟨oc4, od4, .func (PySem.W.fnOf "_law_options" "_law_options" (defArgs s__law_options) (defBody s__law_options) (defScope s__law_options) .none kV4 dc4 pm4 an4 cd4 ct4), sl4⟩)
    (c4 : PySem.W.codeIn K cd4 "_law_options" = true) (k4 : PySem.W.keepIn K (.ref f4) = true)
    (a5 : PySem.W.nsIn K mainGlobals "worth" = some (some (.ref f5)))
    (l5 : K.lookup f5 = some ⟨oc5, od5, .func (PySem.W.fnOf "worth" "worth" (defArgs s_worth) (defBody s_worth) (defScope s_worth) .none kV5 dc5 pm5 an5 cd5 ct5), sl5⟩)
    (c5 : PySem.W.codeIn K cd5 "worth" = true) (k5 : PySem.W.keepIn K (.ref f5) = true)
    (a6 : PySem.W.nsIn K mainGlobals "_law_small_by" = some (some (.ref f6)))
    (l6 : K.lookup f6 = some ⟨oc6, od6, .func (PySem.W.fnOf "_law_small_by" "_law_small_by" (defArgs s__law_small_by) (defBody s__law_small_by) (defScope s__law_small_by) .none kV6 dc6 pm6 an6 cd6 ct6), sl6⟩)
    (c6 : PySem.W.codeIn K cd6 "_law_small_by" = true) (k6 : PySem.W.keepIn K (.ref f6) = true)
    (a7 : PySem.W.nsIn K mainGlobals "_law_mex" = some (some (.ref f7)))
    (l7 : K.lookup f7 = some ⟨oc7, od7, .func (PySem.W.fnOf "_law_mex" "_law_mex" (defArgs s__law_mex) (defBody s__law_mex) (defScope s__law_mex) .none kV7 dc7 pm7 an7 cd7 ct7), sl7⟩)
    (c7 : PySem.W.codeIn K cd7 "_law_mex" = true) (k7 : PySem.W.keepIn K (.ref f7) = true)
    (a8 : PySem.W.nsIn K mainGlobals "law" = some (some (.ref f8)))
    (l8 : K.lookup f8 = some ⟨oc8, od8, .func (PySem.W.fnOf "law" "law" (defArgs s_law) (defBody s_law) (defScope s_law) .none kV8 dc8 pm8 an8 cd8 ct8), sl8⟩)
    (c8 : PySem.W.codeIn K cd8 "law" = true) (k8 : PySem.W.keepIn K (.ref f8) = true)
    (z_bool : PySem.W.nsIn K mainGlobals "bool" = some none)
    (z_int : PySem.W.nsIn K mainGlobals "int" = some none)
    (z_isinstance : PySem.W.nsIn K mainGlobals "isinstance" = some none)
    (z_len : PySem.W.nsIn K mainGlobals "len" = some none)
    (z_max : PySem.W.nsIn K mainGlobals "max" = some none)
    (z_min : PySem.W.nsIn K mainGlobals "min" = some none)
    (g_GREATEST : PySem.W.nsIn K mainGlobals "GREATEST" = some (some (.int 1000000000000000000000000000000 t_GREATEST))) :
    ∃ fd : FuncData, (∀ (s : Shared) (u : Value), BindsTo s fd ⟨[u], []⟩ [("script", u)]) ∧ ∀ base : Heap, K.In base → base.Ns mainGlobals mg → FnOk P w K mg base CX0 81 fa fd ["script"] (sp_law K) := by
  have e := hfa.symm.trans (PySem.W.mg_of X G a8)
  cases e
  have T : Txt K mg := ⟨PySem.W.mg_none_of X G z_bool, PySem.W.mg_none_of X G z_int, PySem.W.mg_none_of X G z_isinstance, PySem.W.mg_none_of X G z_len, PySem.W.mg_none_of X G z_max, PySem.W.mg_none_of X G z_min, ⟨_, PySem.W.mg_of X G g_GREATEST, ⟨_, rfl⟩⟩⟩
  have F0 : Df K mg "asked_pair" s_asked_pair := ⟨_, _, fun_mk (st := s_asked_pair) l0 c0 k0, PySem.W.mg_of X G a0⟩
  have F1 : Df K mg "worth_of" s_worth_of := ⟨_, _, fun_mk (st := s_worth_of) l1 c1 k1, PySem.W.mg_of X G a1⟩
  have F2 : Df K mg "_law_cell_at" s__law_cell_at := ⟨_, _, fun_mk (st := s__law_cell_at) l2 c2 k2, PySem.W.mg_of X G a2⟩
  have F3 : Df K mg "_law_whole" s__law_whole := ⟨_, _, fun_mk (st := s__law_whole) l3 c3 k3, PySem.W.mg_of X G a3⟩
  have F4 : Df K mg "_law_options" s__law_options := ⟨_, _, fun_mk (st := s__law_options) l4 c4 k4, PySem.W.mg_of X G a4⟩
  have F5 : Df K mg "worth" s_worth := ⟨_, _, fun_mk (st := s_worth) l5 c5 k5, PySem.W.mg_of X G a5⟩
  have F6 : Df K mg "_law_small_by" s__law_small_by := ⟨_, _, fun_mk (st := s__law_small_by) l6 c6 k6, PySem.W.mg_of X G a6⟩
  have F7 : Df K mg "_law_mex" s__law_mex := ⟨_, _, fun_mk (st := s__law_mex) l7 c7 k7, PySem.W.mg_of X G a7⟩
  have FL := fun_mk (st := s_law) l8 c8 k8
  refine ⟨PySem.W.fnOf "law" "law" (defArgs s_law) (defBody s_law) (defScope s_law) .none kV8 dc8 pm8 an8 cd8 ct8, fun s u => .of_eq rfl, fun base _ _ => ?_⟩
  have c_asked_pair : Cl P w K mg base 1 "asked_pair" (sp_asked_pair K) := ok_asked_pair F0 T 
  have c_worth_of : Cl P w K mg base 1 "worth_of" (sp_worth_of K) := ok_worth_of F1 T 
  have c__law_cell_at : Cl P w K mg base 1 "_law_cell_at" (sp__law_cell_at K) := ok__law_cell_at F2 T 
  have c__law_whole : Cl P w K mg base 1 "_law_whole" (sp__law_whole K) := ok__law_whole F3 T 
  have c__law_options : Cl P w K mg base 1 "_law_options" (sp__law_options K) := ok__law_options F4 T 
  have c_worth : Cl P w K mg base 2 "worth" (sp_worth K) := ok_worth F5 T c_asked_pair c_worth_of
  have c__law_small_by : Cl P w K mg base 2 "_law_small_by" (sp__law_small_by K) := ok__law_small_by F6 T c__law_cell_at
  have c__law_mex : Cl P w K mg base 80 "_law_mex" (sp__law_mex K) := ok__law_mex F7 T c__law_options
  exact ok_law FL T c_worth c__law_whole c__law_small_by c__law_mex
end Tk
open PySem PySem.W PyProof.Rows
set_option maxRecDepth 100000 in
set_option maxHeartbeats 8000000 in
theorem PySem.Challenge.cw_takepairs_k03_worths_of_few_holds : PySem.Challenge.rw_takepairs_k03_worths_of_few.Holds := by
  w_on; o_law; k_head; (case hw => w_witness2)
  k_fill
  refine L2.walk_of (l := PySem.Challenge.rw_takepairs_k03_worths_of_few) (n := 63) (k := 81) (x := "script") (CX := fun _ => L2.CX0) (sp := fun w => Tk.sp_law _) rfl (by decide) rfl ⟨rfl, by decide, by decide⟩ (fun w h Y => PySem.W.kIn_of Y) ?F (fun _ _ a ns hl _ hS => ⟨a, ns, rfl, hS, hl, by intros; rfl⟩) (fun _ _ _ _ _ h => h)
  case F =>
    intro w mg fa h KX G hmg
    refine' Tk.all_mk KX G hmg ?a0 ?l0 ?c0 ?k0 ?a1 ?l1 ?c1 ?k1 ?a2 ?l2 ?c2 ?k2 ?a3 ?l3 ?c3 ?k3 ?a4 ?l4 ?c4 ?k4 ?a5 ?l5 ?c5 ?k5 ?a6 ?l6 ?c6 ?k6 ?a7 ?l7 ?c7 ?k7 ?a8 ?l8 ?c8 ?k8 ?z_bool ?z_int ?z_isinstance ?z_len ?z_max ?z_min ?g_GREATEST
    (case a0 => k_is)
    (case l0 => k_is)
    (case c0 => k_is)
    (case k0 => k_is)
    (case a1 => k_is)
    (case l1 => k_is)
    (case c1 => k_is)
    (case k1 => k_is)
    (case a2 => k_is)
    (case l2 => k_is)
    (case c2 => k_is)
    (case k2 => k_is)
    (case a3 => k_is)
    (case l3 => k_is)
    (case c3 => k_is)
    (case k3 => k_is)
    (case a4 => k_is)
    (case l4 => k_is)
    (case c4 => k_is)
    (case k4 => k_is)
    (case a5 => k_is)
    (case l5 => k_is)
    (case c5 => k_is)
    (case k5 => k_is)
    (case a6 => k_is)
    (case l6 => k_is)
    (case c6 => k_is)
    (case k6 => k_is)
    (case a7 => k_is)
    (case l7 => k_is)
    (case c7 => k_is)
    (case k7 => k_is)
    (case a8 => k_is)
    (case l8 => k_is)
    (case c8 => k_is)
    (case k8 => k_is)
    (case z_bool => k_is)
    (case z_int => k_is)
    (case z_isinstance => k_is)
    (case z_len => k_is)
    (case z_max => k_is)
    (case z_min => k_is)
    (case g_GREATEST => k_is)
#print axioms PySem.Challenge.cw_takepairs_k03_worths_of_few_holds
