import PyProof.Rows.All
import Wide.All
import OpenK.AllK
import Wide.FinOn
import HandS.ForMost
import HandS.Exc
import HandS.TryOnly
import HandS.ExcOwn
import HandS.WordsExc
import HandS.Wide
import HandS.IsInst
import HandS.Evl
import HandS.Zip
import HandS.Walk
import HandS.Deep
import HandS.ExcIs
import HandS.HotCalls
import HandS.Codes
import HandS.Steps
import KE.GoesRaise
import KE.GoesComp
import KE.KAsSuite
import PyProof.StrOps2
import PySem.Challenge.RW_takepairs_k16_read
set_option Elab.async false
set_option linter.all false
set_option maxRecDepth 100000
set_option maxHeartbeats 2000000
/-! Tk: the layer of this claim: pairs, step lemmas for readings, rules for max and min of a pair -/
namespace Tk
open PySem PySem.Spec PyProof.Rows L2 Evl

/-! ### pairs -/
/-- v is a tuple of the two ints -/
def Pr (K : PySem.W.Frag) (H : Hp) (v : V) (x y : Int) : Prop := ∃ a, v = .ref a ∧ SqT K H a [.int x, .int y]
theorem Pr.mono {K : PySem.W.Frag} {H H' : Hp} {v : V} {x y : Int} (e : Ex H H') (h : Pr K H v x y) : Pr K H' v x y := by
  obtain ⟨a, rfl, h⟩ := h
  exact ⟨a, rfl, ex_t e h⟩
theorem Pr.of {K : PySem.W.Frag} {H : Hp} {a : Addr} {x y : Int} (h : H a = some (.tup [.int x, .int y])) : Pr K H (.ref a) x y := ⟨a, rfl, st_of h⟩

/-- .. made in the call -/
def PrS (H : Hp) (v : V) (x y : Int) : Prop := ∃ a, v = .ref a ∧ H a = some (.tup [.int x, .int y])
theorem PrS.pr {K : PySem.W.Frag} {H : Hp} {v : V} {x y : Int} (h : PrS H v x y) : Pr K H v x y := by
  obtain ⟨a, rfl, h⟩ := h
  exact ⟨a, rfl, st_of h⟩
theorem PrS.mono {H H' : Hp} {v : V} {x y : Int} (e : Ex H H') (h : PrS H v x y) : PrS H' v x y := by
  obtain ⟨a, rfl, h⟩ := h
  exact ⟨a, rfl, e _ _ h⟩

/-! ### max and min of a tuple of two ints -/
section
variable {prog : Program} {w : World} {A : Around} {E : Value → Shared → Prop} {s : Shared} {l : Addr}
theorem max_tup2 {a b : Int} {t u : Tok} {Q : Value → Shared → Prop} (hh : A.handled = none) (hT : s.heap.IsTuple l #[.int a t, .int b u])
    (h : ∀ h' tk, (∀ c o, s.heap.get? c = some o → h'.get? c = some o) → Q (if b > a then .int b u else .int a t) { s with heap := h', toks := tk }) :
    wpAny (model prog w) A (call (.builtin "max") [.ref l]) Q E s := by
  have hlt : l < s.heap.objs.size := by obtain ⟨_, e, _⟩ := hT; exact Heap.lt_size e
  have e0 : (#[.int a t, .int b u] : Array Value) = intItems #[(a, t), (b, u)] := by simp [intItems]
  rw [e0] at hT
  refine call_max_walk (wpAny_pyIter_tuple hT ?_)
  refine ⟨_, [_, l], [_], _, _, _, _, rfl, Walks.tuple (A := A.in1) hh _ l (Nat.ne_of_lt hlt) (intItems #[(a, t), (b, u)]),
    ⟨⟨_, Heap.get?_push_size _ rfl, rfl, rfl⟩, hT.push _⟩, fun c hc => ?_, by simp [intItems], CmpOf.ints_gt (numAt #[(a, t), (b, u)]) (fun _ _ => intItems_at), fun v h' tk hP hk => ?_⟩
  · show c < (s.heap.push _).objs.size
    rw [Heap.size_push]
    rcases List.mem_cons.mp hc with rfl | hc
    · exact Nat.lt_succ_self _
    · rcases List.mem_cons.mp hc with rfl | hc
      · exact Nat.lt_succ_of_lt hlt
      · cases hc
  · have hold : ∀ c o, s.heap.get? c = some o → h'.get? c = some o := fun c o e => by
      refine hk c o (fun hm => ?_) (Heap.get?_push_of_some _ e)
      rcases List.mem_cons.mp hm with e1 | hm
      · have := Heap.lt_size e; rw [e1] at this; exact Nat.lt_irrefl _ this
      · cases hm
    have := h h' tk hold
    have hv : v = if b > a then Value.int b u else Value.int a t := by
      have hP' : (intItems #[(a, t), (b, u)])[argBest (fun i j => decide (numAt #[(a, t), (b, u)] i > numAt #[(a, t), (b, u)] j)) 1]? = some v := by
        have hsz2 : (intItems #[(a, t), (b, u)]).size - 1 = 1 := by simp [intItems]
        rw [← hsz2]; exact hP
      by_cases hba : b > a
      · have e : argBest (fun i j => decide (numAt #[(a, t), (b, u)] i > numAt #[(a, t), (b, u)] j)) 1 = 1 := by simp [argBest, numAt, hba]
        rw [e] at hP'
        simpa [intItems, hba] using hP'.symm
      · have e : argBest (fun i j => decide (numAt #[(a, t), (b, u)] i > numAt #[(a, t), (b, u)] j)) 1 = 0 := by simp [argBest, numAt, hba]
        rw [e] at hP'
        simpa [intItems, hba] using hP'.symm
    rw [hv]; exact this
theorem min_tup2 {a b : Int} {t u : Tok} {Q : Value → Shared → Prop} (hh : A.handled = none) (hT : s.heap.IsTuple l #[.int a t, .int b u])
    (h : ∀ h' tk, (∀ c o, s.heap.get? c = some o → h'.get? c = some o) → Q (if b < a then .int b u else .int a t) { s with heap := h', toks := tk }) :
    wpAny (model prog w) A (call (.builtin "min") [.ref l]) Q E s := by
  have hlt : l < s.heap.objs.size := by obtain ⟨_, e, _⟩ := hT; exact Heap.lt_size e
  have e0 : (#[.int a t, .int b u] : Array Value) = intItems #[(a, t), (b, u)] := by simp [intItems]
  rw [e0] at hT
  refine call_min_walk (wpAny_pyIter_tuple hT ?_)
  refine ⟨_, [_, l], [_], _, _, _, _, rfl, Walks.tuple (A := A.in1) hh _ l (Nat.ne_of_lt hlt) (intItems #[(a, t), (b, u)]),
    ⟨⟨_, Heap.get?_push_size _ rfl, rfl, rfl⟩, hT.push _⟩, fun c hc => ?_, by simp [intItems], CmpOf.ints_lt (numAt #[(a, t), (b, u)]) (fun _ _ => intItems_at), fun v h' tk hP hk => ?_⟩
  · show c < (s.heap.push _).objs.size
    rw [Heap.size_push]
    rcases List.mem_cons.mp hc with rfl | hc
    · exact Nat.lt_succ_self _
    · rcases List.mem_cons.mp hc with rfl | hc
      · exact Nat.lt_succ_of_lt hlt
      · cases hc
  · have hold : ∀ c o, s.heap.get? c = some o → h'.get? c = some o := fun c o e => by
      refine hk c o (fun hm => ?_) (Heap.get?_push_of_some _ e)
      rcases List.mem_cons.mp hm with e1 | hm
      · have := Heap.lt_size e; rw [e1] at this; exact Nat.lt_irrefl _ this
      · cases hm
    have := h h' tk hold
    have hv : v = if b < a then Value.int b u else Value.int a t := by
      have hP' : (intItems #[(a, t), (b, u)])[argBest (fun i j => decide (numAt #[(a, t), (b, u)] i < numAt #[(a, t), (b, u)] j)) 1]? = some v := by
        have hsz2 : (intItems #[(a, t), (b, u)]).size - 1 = 1 := by simp [intItems]
        rw [← hsz2]; exact hP
      by_cases hba : b < a
      · have e : argBest (fun i j => decide (numAt #[(a, t), (b, u)] i < numAt #[(a, t), (b, u)] j)) 1 = 1 := by simp [argBest, numAt, hba]
        rw [e] at hP'
        simpa [intItems, hba] using hP'.symm
      · have e : argBest (fun i j => decide (numAt #[(a, t), (b, u)] i < numAt #[(a, t), (b, u)] j)) 1 = 0 := by simp [argBest, numAt, hba]
        rw [e] at hP'
        simpa [intItems, hba] using hP'.symm
    rw [hv]; exact this
end
section
variable {X : Cx}
theorem Pr.get {pins : List (Addr × Obj)} {σ : L2.St} {H : Hp} {s : Shared} {v : V} {x y : Int} (I : Inv X pins σ H s) (h : Pr X.K H v x y) : ∃ a t u, v = .ref a ∧ s.heap.IsTuple a #[.int x t, .int y u] := by
  obtain ⟨a, rfl, hq⟩ := h
  obtain ⟨its, rv, ht, hz⟩ := I.tuple hq
  cases rv with
  | cons r1 rr =>
    cases rr with
    | cons r2 rr =>
      cases rr
      obtain ⟨t, rfl⟩ := r1
      obtain ⟨u, rfl⟩ := r2
      exact ⟨a, t, u, rfl, ht⟩
def rMaxT (K : PySem.W.Frag) : List V → Hp → VK → Prop := fun vs H Q => ∃ v x y, vs = [v] ∧ Pr K H v x y ∧ Q (.int (max x y)) H
def rMinT (K : PySem.W.Frag) : List V → Hp → VK → Prop := fun vs H Q => ∃ v x y, vs = [v] ∧ Pr K H v x y ∧ Q (.int (min x y)) H
def rMax2 : List V → Hp → VK → Prop := fun xs H Q => ∃ i j, xs = [.int i, .int j] ∧ Q (.int (max i j)) H
def rMin2 : List V → Hp → VK → Prop := fun xs H Q => ∃ i j, xs = [.int i, .int j] ∧ Q (.int (min i j)) H
theorem call_maxT (hc : X.calm = true) : CallR X (.builtin "max") (rMaxT X.K) := by
  intro pins s σ H xs us Q I r h
  obtain ⟨v, x, y, rfl, hp, q⟩ := h
  obtain ⟨a, t, u, rfl, ht⟩ := hp.get I
  cases r with
  | cons r rr =>
    cases rr
    obtain rfl : _ = Value.ref a := r
    refine max_tup2 (I.ok.hd hc) ht fun h' tk hk => ?_
    by_cases c : y > x
    · rw [if_pos c]
      exact ⟨.int (max x y), H, I.kept hk, ⟨u, by congr 1; omega⟩, q⟩
    · rw [if_neg c]
      exact ⟨.int (max x y), H, I.kept hk, ⟨t, by congr 1; omega⟩, q⟩
theorem call_minT (hc : X.calm = true) : CallR X (.builtin "min") (rMinT X.K) := by
  intro pins s σ H xs us Q I r h
  obtain ⟨v, x, y, rfl, hp, q⟩ := h
  obtain ⟨a, t, u, rfl, ht⟩ := hp.get I
  cases r with
  | cons r rr =>
    cases rr
    obtain rfl : _ = Value.ref a := r
    refine min_tup2 (I.ok.hd hc) ht fun h' tk hk => ?_
    by_cases c : y < x
    · rw [if_pos c]
      exact ⟨.int (min x y), H, I.kept hk, ⟨u, by congr 1; omega⟩, q⟩
    · rw [if_neg c]
      exact ⟨.int (min x y), H, I.kept hk, ⟨t, by congr 1; omega⟩, q⟩
theorem call_max2' (hc : X.calm = true) : CallR X (.builtin "max") rMax2 := by
  intro pins s σ H xs us Q I r h
  obtain ⟨i, j, e, q⟩ := h
  refine call_max2 hc pins s σ H xs us Q I r ⟨i, j, e, ?_⟩
  have e2 : (if j > i then j else i) = max i j := by omega
  rw [e2]; exact q
theorem call_min2' (hc : X.calm = true) : CallR X (.builtin "min") rMin2 := by
  intro pins s σ H xs us Q I r h
  obtain ⟨i, j, e, q⟩ := h
  refine call_min2 hc pins s σ H xs us Q I r ⟨i, j, e, ?_⟩
  have e2 : (if j < i then j else i) = min i j := by omega
  rw [e2]; exact q
end

/-! ### one step of a reading -/
section
variable {K : PySem.W.Frag} {σ : L2.St} {H : Hp} {Q : VK} {ta tb te tc : TE} {tr t : TA} {QA : List V → Hp → Prop} {D : Ends} {ts us : TS} {tt tu : TT} {v x y z : V} {r : R2} {i j : Int}
theorem d_var {i : Nat} (h : σ[i]? = some (some v)) (q : Q v H) : tVar i σ H Q := ⟨v, h, q⟩
theorem d_c (q : Q v H) : tC v σ H Q := q
theorem d_op (q : ta σ H fun x H1 => tb σ H1 fun y H2 => r x y H2 Q) : tOp r ta tb σ H Q := q
theorem d_un {r : V → Hp → VK → Prop} (q : ta σ H fun x H1 => r x H1 Q) : tUn r ta σ H Q := q
theorem d_rI0 {g : Int → Int → V} (q : Q (g i j) H) : rI0 g (.int i) (.int j) H Q := ⟨i, j, rfl, rfl, q⟩
theorem d_rI {C : Int → Int → Prop} {g : Int → Int → V} (hc : C i j) (q : Q (g i j) H) : rI C g (.int i) (.int j) H Q := ⟨i, j, rfl, rfl, hc, q⟩
theorem d_pow30 (q : Q (.int 1000000000000000000000000000000) H) : rI CPow (fun i j => .int (i ^ j.toNat)) (.int 10) (.int 30) H Q := ⟨10, 30, rfl, rfl, ⟨by decide, by decide, by decide⟩, q⟩
theorem d_pow20 (q : Q (.int 100000000000000000000) H) : rI CPow (fun i j => .int (i ^ j.toNat)) (.int 10) (.int 20) H Q := ⟨10, 20, rfl, rfl, ⟨by decide, by decide, by decide⟩, q⟩
theorem d_pow9 (q : Q (.int 1000000000) H) : rI CPow (fun i j => .int (i ^ j.toNat)) (.int 10) (.int 9) H Q := ⟨10, 9, rfl, rfl, ⟨by decide, by decide, by decide⟩, q⟩
theorem d_rU {g : Int → V} (q : Q (g i) H) : rU g (.int i) H Q := ⟨i, rfl, q⟩
theorem d_eq (h : scal x y = true) (q : Q (.bl (decide (x = y))) H) : rEq x y H Q := ⟨h, q⟩
theorem d_ne (h : scal x y = true) (q : Q (.bl (!decide (x = y))) H) : rNe x y H Q := ⟨h, q⟩
theorem d_eqI (q : Q (.bl (decide (i = j))) H) : rEq (.int i) (.int j) H Q := by
  have e : decide (V.int i = V.int j) = decide (i = j) := by simp
  exact ⟨rfl, by rw [e]; exact q⟩
theorem d_neI (q : Q (.bl (!decide (i = j))) H) : rNe (.int i) (.int j) H Q := by
  have e : decide (V.int i = V.int j) = decide (i = j) := by simp
  exact ⟨rfl, by rw [e]; exact q⟩
theorem d_eqS {i j : Str} (q : Q (.bl (decide (i = j))) H) : rEq (.str i) (.str j) H Q := by
  have e : decide (V.str i = V.str j) = decide (i = j) := by simp
  exact ⟨rfl, by rw [e]; exact q⟩
theorem d_neS {i j : Str} (q : Q (.bl (!decide (i = j))) H) : rNe (.str i) (.str j) H Q := by
  have e : decide (V.str i = V.str j) = decide (i = j) := by simp
  exact ⟨rfl, by rw [e]; exact q⟩
theorem d_eqB {i j : Bool} (q : Q (.bl (decide (i = j))) H) : rEq (.bl i) (.bl j) H Q := by
  have e : decide (V.bl i = V.bl j) = decide (i = j) := by simp
  exact ⟨rfl, by rw [e]; exact q⟩
theorem d_nil (q : QA [] H) : tNil σ H QA := q
theorem d_cons (q : ta σ H fun x H1 => tr σ H1 fun xs H2 => QA (x :: xs) H2) : tCons ta tr σ H QA := q
/-- a new tuple, a new list -/
def rNewT (xs : List V) (H : Hp) (Q : VK) : Prop := xs.length ≤ sizeLine ∧ ∀ p, H p = none → Q (.ref p) (upd H p (.tup xs))
def rNewL (xs : List V) (H : Hp) (Q : VK) : Prop := xs.length ≤ sizeLine ∧ ∀ p, H p = none → Q (.ref p) (upd H p (.lst xs))
theorem d_tup (q : t σ H fun xs H1 => rNewT xs H1 Q) : tTup t σ H Q := q
theorem d_lst (q : t σ H fun xs H1 => rNewL xs H1 Q) : tLst t σ H Q := q
theorem small_sz {xs : List V} (h : xs.length ≤ 1000) : xs.length ≤ sizeLine := sz_of (Nat.le_trans h (by decide))
theorem d_newP (q : ∀ v H2, Ex H H2 → PrS H2 v i j → Q v H2) : rNewT [.int i, .int j] H Q :=
  ⟨small_sz (by show 2 ≤ 1000; decide), fun p hp => q _ _ (Ex.new hp) ⟨p, rfl, upd_same⟩⟩
theorem d_newT {xs : List V} (hl : xs.length ≤ 1000) (q : ∀ p H2, H p = none → Ex H H2 → H2 p = some (.tup xs) → Q (.ref p) H2) : rNewT xs H Q := ⟨small_sz hl, fun p hp => q p _ hp (Ex.new hp) upd_same⟩
theorem d_newL {xs : List V} (hl : xs.length ≤ 1000) (q : ∀ p H2, H p = none → Ex H H2 → H2 p = some (.lst xs) → Q (.ref p) H2) : rNewL xs H Q := ⟨small_sz hl, fun p hp => q p _ hp (Ex.new hp) upd_same⟩
theorem d_call {sp : Sp} {E : XK} (q : t σ H fun vs H1 => sp vs H1 Q E) : tCall sp [] E t σ H Q := by
  show t σ H fun vs H1 => sp (vs ++ []) H1 Q E
  simp only [List.append_nil]
  exact q
theorem d_cb {r : List V → Hp → VK → Prop} (q : t σ H fun vs H1 => r vs H1 Q) : tCB r t σ H Q := q
theorem d_maxT (h : Pr K H v i j) (q : Q (.int (max i j)) H) : rMaxT K [v] H Q := ⟨v, i, j, rfl, h, q⟩
theorem d_minT (h : Pr K H v i j) (q : Q (.int (min i j)) H) : rMinT K [v] H Q := ⟨v, i, j, rfl, h, q⟩
theorem d_max2 (q : Q (.int (max i j)) H) : rMax2 [.int i, .int j] H Q := ⟨i, j, rfl, q⟩
theorem d_min2 (q : Q (.int (min i j)) H) : rMin2 [.int i, .int j] H Q := ⟨i, j, rfl, q⟩
theorem d_ixP0 (h : Pr K H v i j) (q : Q (.int i) H) : rIxT K v (.int 0) H Q := by
  obtain ⟨a, rfl, h⟩ := h
  exact ⟨a, _, 0, _, rfl, rfl, h, rfl, q⟩
theorem d_ixP1 (h : Pr K H v i j) (q : Q (.int j) H) : rIxT K v (.int 1) H Q := by
  obtain ⟨a, rfl, h⟩ := h
  exact ⟨a, _, 1, _, rfl, rfl, h, rfl, q⟩
theorem d_ixL {p : Addr} {xs : List V} (h : SqL K H p xs) (ha : atI xs i = some v) (q : Q v H) : rIxL K (.ref p) (.int i) H Q := ⟨p, xs, i, v, rfl, rfl, h, ha, q⟩
theorem d_ixT {p : Addr} {xs : List V} (h : SqT K H p xs) (ha : atI xs i = some v) (q : Q v H) : rIxT K (.ref p) (.int i) H Q := ⟨p, xs, i, v, rfl, rfl, h, ha, q⟩
theorem d_len {p : Addr} {xs : List V} (h : SqL K H p xs) (q : Q (.int (xs.length : Int)) H) : rLenS K [.ref p] H Q := ⟨p, xs, rfl, .inl h, q⟩
theorem d_sum {p : Addr} {ns : List Int} (h : SqL K H p (ns.map V.int)) (q : Q (.int ns.sum) H) : rSum K [.ref p] H Q := ⟨p, ns, rfl, h, q⟩
theorem d_ev (h : Ev te σ H v) (q : ∀ H1, Ex H H1 → Q v H1) : te σ H Q := h H (Ex.refl H) Q q
theorem d_ifE {b : Bool} (h : EvT tt σ H b) (h1 : b = true → ∀ H1, Ex H H1 → ta σ H1 Q) (h0 : b = false → ∀ H1, Ex H H1 → tb σ H1 Q) : tIf tt ta tb σ H Q := h H (Ex.refl H) _ fun H1 e1 => by
  cases b with
  | true => exact h1 rfl H1 e1
  | false => exact h0 rfl H1 e1
/-- a chain of two comparisons of ints -/
theorem ev_chain {f g : Int → Int → Bool} {a b c : Int} (h1 : Ev ta σ H (.int a)) (h2 : Ev tb σ H (.int b)) (h3 : Ev tc σ H (.int c)) : Ev (tChain (rI0 fun i j => .bl (f i j)) (rI0 fun i j => .bl (g i j)) ta tb tc) σ H (.bl (f a b && g b c)) := fun H1 e Q q =>
  h1 H1 e _ fun H2 e2 => h2 H2 (e.trans e2) _ fun H3 e3 => ⟨a, b, rfl, rfl, f a b, rfl, by
    cases hf : f a b with
    | true =>
      rw [if_pos rfl]
      exact h3 H3 ((e.trans e2).trans e3) _ fun H4 e4 => ⟨b, c, rfl, rfl, by rw [hf, Bool.true_and] at q; exact q H4 ((e2.trans e3).trans e4)⟩
    | false =>
      rw [if_neg Bool.false_ne_true]
      rw [hf, Bool.false_and] at q
      exact q H3 (e2.trans e3)⟩
/-- statements -/
theorem d_seq (q : ts { D with nx := us D } σ H) : tSeq ts us D σ H := q
theorem d_asg {i : Nat} (q : te σ H fun x H1 => D.nx (σ.set i (some x)) H1) : tAsg te (gName i) D σ H := q
theorem d_gName {i : Nat} {v : V} {Q : L2.St → Hp → Prop} (q : Q (σ.set i (some v)) H) : gName i v σ H Q := q
theorem d_asgG {g : TG} (q : te σ H fun x H1 => g x σ H1 D.nx) : tAsg te g D σ H := q
theorem d_gTupP {i j : Nat} {x y : Int} {Q : L2.St → Hp → Prop} (h : Pr K H v x y) (q : Q ((σ.set i (some (.int x))).set j (some (.int y))) H) : gTup K 2 (gCons (gName i) (gCons (gName j) gNil)) v σ H Q := by
  obtain ⟨a, rfl, h⟩ := h
  exact ⟨a, _, rfl, h, rfl, _, _, rfl, _, _, rfl, rfl, q⟩
theorem d_gTup2 {i j : Nat} {p : Addr} {x y : V} {Q : L2.St → Hp → Prop} (h : SqT K H p [x, y]) (q : Q ((σ.set i (some x)).set j (some y)) H) : gTup K 2 (gCons (gName i) (gCons (gName j) gNil)) (.ref p) σ H Q := ⟨p, _, rfl, h, rfl, _, _, rfl, _, _, rfl, rfl, q⟩
theorem d_ret (q : te σ H D.rt) : tRet te D σ H := q
theorem d_retN (q : D.rt .non H) : tRetN D σ H := q
theorem d_drop (q : te σ H fun _ H1 => D.nx σ H1) : tDrop te D σ H := q
theorem d_next (q : D.nx σ H) : tNext D σ H := q
theorem d_if {b : Bool} (h : EvT tt σ H b) (h1 : b = true → ∀ H1, Ex H H1 → ts D σ H1) (h0 : b = false → ∀ H1, Ex H H1 → us D σ H1) : tIfS tt ts us D σ H := s_if h h1 h0
def rPar (i j : Nat) (D : Ends) (σ : L2.St) (vs : List V) (H : Hp) : Prop := ∃ v w, vs = [v, w] ∧ D.nx ((σ.set i (some v)).set j (some w)) H
theorem d_par {i j : Nat} (q : t σ H (rPar i j D σ)) : tPar i j t D σ H := q
theorem d_rPar {i j : Nat} (q : D.nx ((σ.set i (some x)).set j (some y)) H) : rPar i j D σ [x, y] H := ⟨x, y, rfl, q⟩
theorem ev_intro (h : ∀ H1, Ex H H1 → ∀ Q : VK, (∀ H2, Ex H1 H2 → Q v H2) → te σ H1 Q) : Ev te σ H v := h
end

/-! ### defs by name -/
/-- the def of the text st stands behind the top under its name -/
def Df (K : PySem.W.Frag) (mg : Str → Option Value) (x : Str) (st : Stmt) : Prop := ∃ f fd, L2.Fun K x x st f fd ∧ mg x = some (.ref f)
/-- a def that may be called by its name and keeps sp; nothing is raised -/
def Cl (P : Program) (w : World) (K : PySem.W.Frag) (mg : Str → Option Value) (base : Heap) (k : Nat) (x : Str) (sp : Sp) : Prop :=
  ∃ f fd ps, FnOk P w K mg base CX0 k f fd ps sp ∧ mg x = some (.ref f) ∧ PySem.W.keepIn K (.ref f) = true ∧ Binds K fd ps []
section
variable {P : Program} {w : World} {K : PySem.W.Frag} {mg : Str → Option Value} {base : Heap}
theorem cl_of {x : Str} {st : Stmt} {N ps : List Str} {k : Nat} {sp : Sp} (F : Df K mg x st)
    (hb : ∀ (kV doc pm : Value) (an : Option Addr) (cdv ct : Value) (us : List Value), us.length = ps.length → bindArgs (PySem.W.fnOf x x (defArgs st) (defBody st) (defScope st) .none kV doc pm an cdv ct) ⟨us, []⟩ = pure (ps.zip us))
    (S : FnScope N ps (defScope st)) (len : ∀ vs H Q E, sp vs H Q E → vs.length = ps.length)
    (hbody : ∀ (f : Addr) (cdv : Value) (A : Around) (outer : List Env) (s : Shared) (H : Hp) (vs : List V) (Q : VK) (E : XK), Room k (A.deeper (envOfC x (defScope st) s.heap.objs.size f cdv)) → sp vs H Q E →
      ∃ t, PSs (cxOf CX0 P w K mg base N x (defScope st) f cdv A outer s H E).nox (defBody st) t ∧ t { nx := fun _ H' => Q .non H', rt := Q } (start N vs) H) : Cl P w K mg base (k + 1) x sp := by
  obtain ⟨f, fd, F, hm⟩ := F
  exact ⟨f, fd, ps, F.ok S len (hbody f), hm, F.kp, F.binds hb⟩
end
section
variable {X : Cx} {k j : Nat} {x : Str} {sp : Sp} {p pos : Pos} {e : Expr} {es : List Expr} {t : TA}
theorem pe_cl (c : Cl X.prog X.w X.K X.mg X.base k x sp) (hr : Room j X.A) (hk : k ≤ j) (hg : Gl X x) (ha : PA X (e :: es) t)
    (hdb : (x == ("__debug__" : Str)) = false := by decide) (he : starEach (e :: es) X.env = (false, eval e X.env) :: starEach es X.env := by rfl) (hpl : (backTo pos (starEach es X.env)).any (·.1) = false := by rfl) :
    PE X (.Call (.Name x p) (e :: es) [] pos) (tCall sp [] E0 t) := by
  obtain ⟨f, fd, ps, F, hm, kp, b⟩ := c
  exact pe_call F (hr.mono hk) hg hm kp b .nil pass0 ha hdb he hpl
/-- a constant of the module -/
theorem pe_gc {v : V} (hg : Gl X x) (h : ∃ u, X.mg x = some u ∧ RelV v u) (hd : (x == ("__debug__" : Str)) = false := by decide) : PE X (.Name x pos) (tC v) := by
  obtain ⟨u, hm, r⟩ := h
  exact pe_glob hg hm r hd
theorem call_lenL : CallR X (.builtin "len") (rLenS X.K) := call_len_seq
/-- is None -/
def rIsNn : R2 := fun x y H Q => y = .non ∧ Q (.bl (decide (x = .non))) H
def rNotNn : R2 := fun x y H Q => y = .non ∧ Q (.bl (!decide (x = .non))) H
theorem op_isNn : OpR X (compareOp .Is) rIsNn := op_isN
theorem op_notNn : OpR X (compareOp .IsNot) rNotNn := op_notN
def rIntB : List V → Hp → VK → Prop := fun vs H Q => ∃ k, vs = [.bl k] ∧ Q (.int (if k then 1 else 0)) H
theorem call_intB : CallR X (.type "int") rIntB := by
  intro pins s σ H xs us Q I r h
  exact call_int1 pins s σ H xs us Q I r (.inr h)
end
section
variable {K : PySem.W.Frag} {σ : L2.St} {H : Hp} {Q : VK}
theorem d_isNn {x : V} (q : Q (.bl (decide (x = .non))) H) : rIsNn x .non H Q := ⟨rfl, q⟩
theorem d_notNn {x : V} (q : Q (.bl (!decide (x = .non))) H) : rNotNn x .non H Q := ⟨rfl, q⟩
theorem d_intB {b : Bool} (q : Q (.int (if b then 1 else 0)) H) : rIntB [.bl b] H Q := ⟨b, rfl, q⟩
theorem d_isi {x : V} {n : String} {m : String} {b : Bool} (ty : TyX K H x (.type m)) (e : kitB m n = some b) (q : Q (.bl b) H) : rIsi K [x, .ty n] H Q := ⟨x, .ty n, _, _, b, rfl, .ty n, ty, kit_ty e, q⟩
theorem k_ii : kitB "int" "int" = some true := by decide +kernel
theorem k_ib : kitB "int" "bool" = some false := by decide +kernel
theorem k_bb : kitB "bool" "bool" = some true := by decide +kernel
theorem k_ll : kitB "list" "list" = some true := by decide +kernel
theorem k_tt : kitB "tuple" "tuple" = some true := by decide +kernel
theorem k_ss : kitB "str" "str" = some true := by decide +kernel
theorem k_ls : kitB "list" "str" = some false := by decide +kernel
theorem ty_int {i : Int} : TyX K H (.int i) (.type "int") := .base (.int i)
theorem ty_bl {i : Bool} : TyX K H (.bl i) (.type "bool") := .base (.bl i)
theorem ty_str {i : Str} : TyX K H (.str i) (.type "str") := .base (.str i)
theorem ty_non : TyX K H .non (.type "NoneType") := .base .non
theorem ty_list {p : Addr} {xs : List V} (h : SqL K H p xs) : TyX K H (.ref p) (.type "list") := by
  rcases h with (h | ⟨o, h⟩) | ⟨o, its, n, hk, hc, _⟩
  · exact .base (.lst h)
  · exact .base (.frz h)
  · exact .kList hk hc
theorem ty_tup {p : Addr} {xs : List V} (h : SqT K H p xs) : TyX K H (.ref p) (.type "tuple") := by
  rcases h with (h | ⟨o, h⟩) | ⟨o, its, n, hk, hc, _⟩
  · exact .base (.tup h)
  · exact .fTuple h
  · exact .kTuple hk hc
theorem ty_pr {v : V} {x y : Int} (h : Pr K H v x y) : TyX K H v (.type "tuple") := by
  obtain ⟨a, rfl, h⟩ := h
  exact ty_tup h
end
/-- a pile that may stand -/
def Gd (x : Int) : Prop := 1 ≤ x ∧ x ≤ 1000000000000000000000000000000
theorem divW {i j : Int} (h : 0 < j) (h2 : j ≤ 10000000000000000000000000000000000000000000000000000000000000000000000) : CDivW i j :=
  wide_div (b := 300) h (by have e : (10000000000000000000000000000000000000000000000000000000000000000000000 : Int) ≤ 2 ^ 300 := by decide
                            omega) (by decide) (by decide)
theorem mulW {i j : Int} (h : -10000000000000000000000000000000000000000000000000000000000000000000000 ≤ i ∧ i ≤ 10000000000000000000000000000000000000000000000000000000000000000000000)
    (h2 : -10000000000000000000000000000000000000000000000000000000000000000000000 ≤ j ∧ j ≤ 10000000000000000000000000000000000000000000000000000000000000000000000) : CMulW i j :=
  wide_mul (a := 300) (b := 300) (by have e : (10000000000000000000000000000000000000000000000000000000000000000000000 : Int) < 2 ^ 300 := by decide
                                     omega) (by have e : (10000000000000000000000000000000000000000000000000000000000000000000000 : Int) < 2 ^ 300 := by decide
                                                omega) (by decide) (by decide) (by decide)

/-! ### loops, lists that are the def's own -/
def Exb (l : Addr) (H H2 : Hp) : Prop := ∀ b o, H b = some o → b ≠ l → H2 b = some o
theorem Exb.base {l : Addr} {H0 H H2 : Hp} (b : Exb l H H2) (h0 : H0 l = none) (e : Ex H0 H) : Ex H0 H2 := fun a o h => b a o (e a o h) (ne_of_none h h0)
theorem Exb.upd {l : Addr} {H : Hp} {o : HO} : Exb l H (upd H l o) := fun b u h n => by rw [upd_ne n]; exact h
theorem Ex.at {H H' : Hp} {l : Addr} {o : HO} (e : Ex H H') (h : H l = some o) : H' l = some o := e l o h
theorem Exb.rdT {l : Addr} {H H2 : Hp} {xs ys : List V} {a : Addr} (b : Exb l H H2) (h : H l = some (.lst xs)) (r : Rd H a (.tup ys)) : Rd H2 a (.tup ys) := by
  rcases r with r | ⟨o, r⟩
  · exact .inl (b a _ r (ne_of r h (by intro z; cases z)))
  · exact .inr ⟨o, b a _ r (ne_of r h (by intro z; cases z))⟩
theorem Exb.tup {K : PySem.W.Frag} {l : Addr} {H H2 : Hp} {xs ys : List V} {a : Addr} (b : Exb l H H2) (h : H l = some (.lst xs)) (r : SqT K H a ys) : SqT K H2 a ys := by
  rcases r with r | r
  · exact .inl (b.rdT h r)
  · exact .inr r
theorem Exb.pr {K : PySem.W.Frag} {l : Addr} {H H2 : Hp} {xs : List V} {v : V} {x y : Int} (b : Exb l H H2) (h : H l = some (.lst xs)) (r : Pr K H v x y) : Pr K H2 v x y := by
  obtain ⟨a, rfl, r⟩ := r
  exact ⟨a, rfl, b.tup h r⟩
section
variable {K : PySem.W.Frag} {σ : L2.St} {H : Hp} {Q : VK} {te : TE} {D : Ends} {ts us : TS} {tt : TT} {v : V} {l : Addr}
def rBmL (K : PySem.W.Frag) (r : V → List V → Hp → VK → Prop) (t : TA) (σ : L2.St) (x : V) (H : Hp) (Q : VK) : Prop := tyV K "list" x H ∧ t σ H fun xs H2 => r x xs H2 Q
theorem d_bmL {r : V → List V → Hp → VK → Prop} {t : TA} (q : te σ H fun x H1 => rBmL K r t σ x H1 Q) : tBM K "list" r te t σ H Q := q
theorem d_rBmL {r : V → List V → Hp → VK → Prop} {t : TA} {p : Addr} {xs : List V} (h : SqL K H p xs) (q : t σ H fun ys H2 => r (.ref p) ys H2 Q) : rBmL K r t σ (.ref p) H Q := ⟨.inl ⟨rfl, xs, h⟩, q⟩
theorem d_append {xs : List V} (hl : H l = some (.lst xs)) (hn : xs.length < sizeLine) (q : ∀ H2, Exb l H H2 → H2 l = some (.lst (xs ++ [v])) → Q .non H2) : rAppend (.ref l) [v] H Q :=
  ⟨l, xs, v, rfl, rfl, hl, hn, q _ Exb.upd upd_same⟩
theorem at_int {ns : List Int} {i : Nat} {n : Int} (h : ns[i]? = some n) : atI (ns.map V.int) (i : Int) = some (.int n) := atI_nat (by rw [List.getElem?_map, h]; rfl)
theorem d_while (W : Nat → L2.St → Hp → Prop) (m0 : Nat) (h0 : W m0 σ H) (hs : ∀ m σ' H', W m σ' H' → ∃ b, EvT tt σ' H' b ∧
    (b = true → ∀ H1, Ex H' H1 → ts { D with nx := fun σ2 H2 => ∃ m', m' < m ∧ W m' σ2 H2, ct := fun σ2 H2 => ∃ m', m' < m ∧ W m' σ2 H2, bk := D.nx } σ' H1) ∧ (b = false → ∀ H1, Ex H' H1 → D.nx σ' H1)) : tWhile tt ts D σ H :=
  s_while W m0 h0 fun m σ' H' w => by
    obtain ⟨b, h1, h2, h3⟩ := hs m σ' H' w
    exact ⟨b, h1, fun e H1 e1 => ⟨_, fun _ _ z => z, h2 e H1 e1⟩, h3⟩
theorem d_for1 {ta : TA} {j : Nat} {n : Int} (h : EvA ta σ H [.int n]) (hn : 0 ≤ n ∧ n ≤ 100000) (Pv : Nat → L2.St → Hp → Prop) (h0 : ∀ H1, Ex H H1 → Pv 0 σ H1)
    (hs : ∀ (i : Nat) σ' H', (i : Int) < n → Pv i σ' H' → ts { D with nx := Pv (i + 1), ct := Pv (i + 1), bk := D.nx } (σ'.set j (some (.int (i : Int)))) H') (hd : ∀ σ' H', Pv n.toNat σ' H' → D.nx σ' H') : tFor (iRng1 ta) (gName j) ts D σ H :=
  s_forR1 h hn Pv h0 hs hd
end

/-! ### tables -/
section
variable {K : PySem.W.Frag} {H H' : Hp}
def Prs (K : PySem.W.Frag) (H : Hp) : List V → List (Int × Int) → Prop
  | [], [] => True
  | w :: ws, p :: ps => Pr K H w p.1 p.2 ∧ Prs K H ws ps
  | _, _ => False
theorem Prs.len : ∀ {ws : List V} {ps : List (Int × Int)}, Prs K H ws ps → ws.length = ps.length
  | [], [], _ => rfl
  | _ :: ws, _ :: ps, h => by rw [List.length_cons, List.length_cons, Prs.len h.2]
  | [], _ :: _, h => h.elim
  | _ :: _, [], h => h.elim
theorem Prs.imp (f : ∀ w x y, Pr K H w x y → Pr K H' w x y) : ∀ {ws : List V} {ps : List (Int × Int)}, Prs K H ws ps → Prs K H' ws ps
  | [], [], _ => trivial
  | _ :: ws, _ :: ps, h => ⟨f _ _ _ h.1, Prs.imp f h.2⟩
  | [], _ :: _, h => h.elim
  | _ :: _, [], h => h.elim
theorem Prs.mono {ws : List V} {ps : List (Int × Int)} (e : Ex H H') (h : Prs K H ws ps) : Prs K H' ws ps := h.imp fun _ _ _ q => q.mono e
theorem Prs.exb {l : Addr} {xs ws : List V} {ps : List (Int × Int)} (b : Exb l H H') (hl : H l = some (.lst xs)) (h : Prs K H ws ps) : Prs K H' ws ps := h.imp fun _ _ _ q => b.pr hl q
theorem Prs.get : ∀ {ws : List V} {ps : List (Int × Int)} {i : Nat} {w : V}, Prs K H ws ps → ws[i]? = some w → ∃ p, ps[i]? = some p ∧ Pr K H w p.1 p.2
  | w :: ws, p :: ps, 0, v, h, e => by
    have e : w = v := Option.some.inj e
    subst e
    exact ⟨p, rfl, h.1⟩
  | w :: ws, p :: ps, i + 1, v, h, e => Prs.get (i := i) h.2 e
  | [], [], i, v, h, e => by simp at e
  | [], _ :: _, _, _, h, _ => h.elim
  | _ :: _, [], _, _, h, _ => h.elim
theorem Prs.at {ws : List V} {ps : List (Int × Int)} {i : Nat} {p : Int × Int} (h : Prs K H ws ps) (e : ps[i]? = some p) : ∃ w, ws[i]? = some w ∧ Pr K H w p.1 p.2 := by
  have hl := (List.getElem?_eq_some_iff.mp e).1
  have e2 : ws[i]? = some (ws[i]'(by rw [h.len]; exact hl)) := List.getElem?_eq_getElem _
  obtain ⟨q, e3, h3⟩ := h.get e2
  rw [e] at e3
  cases e3
  exact ⟨_, e2, h3⟩
theorem Prs.app : ∀ {ws us : List V} {ps qs : List (Int × Int)}, Prs K H ws ps → Prs K H us qs → Prs K H (ws ++ us) (ps ++ qs)
  | [], _, [], _, _, g => g
  | _ :: ws, _, _ :: ps, _, h, g => ⟨h.1, Prs.app h.2 g⟩
  | [], _, _ :: _, _, h, _ => h.elim
  | _ :: _, _, [], _, h, _ => h.elim
theorem Prs.one {w : V} {x y : Int} (h : Pr K H w x y) : Prs K H [w] [(x, y)] := ⟨h, trivial⟩
theorem Prs.take : ∀ (n : Nat) {ws : List V} {ps : List (Int × Int)}, Prs K H ws ps → Prs K H (ws.take n) (ps.take n)
  | 0, _, _, _ => trivial
  | n + 1, [], [], _ => trivial
  | n + 1, _ :: ws, _ :: ps, h => ⟨h.1, Prs.take n h.2⟩
  | _ + 1, [], _ :: _, h => h.elim
  | _ + 1, _ :: _, [], h => h.elim
theorem Prs.drop : ∀ (n : Nat) {ws : List V} {ps : List (Int × Int)}, Prs K H ws ps → Prs K H (ws.drop n) (ps.drop n)
  | 0, _, _, h => h
  | n + 1, [], [], _ => trivial
  | n + 1, _ :: ws, _ :: ps, h => Prs.drop n h.2
  | _ + 1, [], _ :: _, h => h.elim
  | _ + 1, _ :: _, [], h => h.elim
theorem Prs.set : ∀ {ws : List V} {ps : List (Int × Int)} (i : Nat) {w : V} {p : Int × Int}, Prs K H ws ps → Pr K H w p.1 p.2 → Prs K H (ws.set i w) (ps.set i p)
  | [], [], _, _, _, _, _ => trivial
  | _ :: ws, _ :: ps, 0, _, _, h, g => ⟨g, h.2⟩
  | _ :: ws, _ :: ps, i + 1, _, _, h, g => ⟨h.1, Prs.set i h.2 g⟩
  | [], _ :: _, _, _, _, h, _ => h.elim
  | _ :: _, [], _, _, _, h, _ => h.elim
/-- v is a list of pairs -/
def Tb (K : PySem.W.Frag) (H : Hp) (v : V) (T : List (Int × Int)) : Prop := ∃ a ws, v = .ref a ∧ SqL K H a ws ∧ Prs K H ws T
theorem Tb.mono {v : V} {T : List (Int × Int)} (e : Ex H H') (h : Tb K H v T) : Tb K H' v T := by
  obtain ⟨a, ws, rfl, h1, h2⟩ := h
  exact ⟨a, ws, rfl, ex_l e h1, h2.mono e⟩
def GdT (T : List (Int × Int)) : Prop := ∀ p ∈ T, Gd p.1 ∧ Gd p.2
theorem GdT.take {T : List (Int × Int)} (g : GdT T) (n : Nat) : GdT (T.take n) := fun p hp => g p (List.mem_of_mem_take hp)

/-! ### == of pairs and tables -/
def dP (p : Int × Int) : PyData := .tuple [.int p.1, .int p.2]
def dT (T : List (Int × Int)) : PyData := .list (T.map dP)
theorem Pr.dp {v : V} {x y : Int} (h : Pr K H v x y) : Dp K H v (dP (x, y)) := by
  obtain ⟨a, rfl, h⟩ := h
  exact .tup h (.cons (.int x) (.cons (.int y) .nil))
theorem Prs.dp : ∀ {ws : List V} {ps : List (Int × Int)}, Prs K H ws ps → DpAll K H ws (ps.map dP)
  | [], [], _ => .nil
  | _ :: ws, _ :: ps, h => .cons h.1.dp (Prs.dp h.2)
  | [], _ :: _, h => h.elim
  | _ :: _, [], h => h.elim
theorem Tb.dp {v : V} {T : List (Int × Int)} (h : Tb K H v T) : Dp K H v (dT T) := by
  obtain ⟨a, ws, rfl, h1, h2⟩ := h
  exact .lst h1 h2.dp
theorem dP_shaped (p : Int × Int) : SeqAt.shaped (dP p) = true := rfl
theorem dPs_lay : ∀ T : List (Int × Int), PyData.canLayAll0 (T.map dP) = true
  | [] => rfl
  | p :: T => by
    show (PyData.canLay0 (dP p) && PyData.canLayAll0 (T.map dP)) = true
    rw [dPs_lay T]
    rfl
theorem dPs_depth : ∀ T : List (Int × Int), PyData.depthAll (T.map dP) ≤ 1
  | [] => Nat.zero_le _
  | p :: T => by
    show max (PyData.depth (dP p)) (PyData.depthAll (T.map dP)) ≤ 1
    have := dPs_depth T
    have e : PyData.depth (dP p) = 1 := rfl
    omega
theorem dT_shaped (T : List (Int × Int)) : SeqAt.shaped (dT T) = true := by
  have h1 : PyData.canLay0 (dT T) = true := dPs_lay T
  have h2 : PyData.depth (dT T) ≤ 64 := by
    show PyData.depthAll (T.map dP) + 1 ≤ 64
    have := dPs_depth T
    omega
  unfold SeqAt.shaped
  rw [h1, decide_eq_true h2]
  rfl
theorem dP_eqv (p q : Int × Int) : PyData.eqv (dP p) (dP q) = decide (p = q) := by
  show ((p.1 == q.1) && ((p.2 == q.2) && true)) = _
  rw [Bool.and_true, Bool.eq_iff_iff]
  simp [Prod.ext_iff]
theorem dPs_eqv : ∀ T U : List (Int × Int), PyData.eqvAll (T.map dP) (U.map dP) = decide (T = U)
  | [], [] => rfl
  | p :: T, q :: U => by
    show (PyData.eqv (dP p) (dP q) && PyData.eqvAll (T.map dP) (U.map dP)) = _
    rw [dP_eqv, dPs_eqv T U, Bool.eq_iff_iff]
    simp
  | [], _ :: _ => by
    show false = _
    simp
  | _ :: _, [] => by
    show false = _
    simp
variable {Q : VK}
theorem d_eqP {v u : V} {x y x' y' : Int} (h : Pr K H v x y) (h' : Pr K H u x' y') (q : Q (.bl (decide ((x, y) = (x', y')))) H) : rEqD K v u H Q := ⟨_, _, h.dp, h'.dp, dP_shaped _, dP_shaped _, by rw [dP_eqv]; exact q⟩
theorem d_neP {v u : V} {x y x' y' : Int} (h : Pr K H v x y) (h' : Pr K H u x' y') (q : Q (.bl (!decide ((x, y) = (x', y')))) H) : rNeD K v u H Q := ⟨_, _, h.dp, h'.dp, dP_shaped _, dP_shaped _, by rw [dP_eqv]; exact q⟩
theorem d_eqT {v u : V} {T U : List (Int × Int)} (h : Tb K H v T) (h' : Tb K H u U) (q : Q (.bl (decide (T = U))) H) : rEqD K v u H Q := ⟨_, _, h.dp, h'.dp, dT_shaped _, dT_shaped _, by
  have e : PyData.eqv (dT T) (dT U) = decide (T = U) := dPs_eqv T U
  rw [e]; exact q⟩
theorem d_neT {v u : V} {T U : List (Int × Int)} (h : Tb K H v T) (h' : Tb K H u U) (q : Q (.bl (!decide (T = U))) H) : rNeD K v u H Q := ⟨_, _, h.dp, h'.dp, dT_shaped _, dT_shaped _, by
  have e : PyData.eqv (dT T) (dT U) = decide (T = U) := dPs_eqv T U
  rw [e]; exact q⟩
end
section
variable {X : Cx}
/-- list(xs): a new list -/
def rListN (K : PySem.W.Frag) : List V → Hp → VK → Prop := fun vs H Q => ∃ p ys, vs = [.ref p] ∧ SqL K H p ys ∧ ∀ l, H l = none → Q (.ref l) (upd H l (.lst ys))
theorem call_listS : CallR X (.type "list") (rListN X.K) := by
  intro pins s σ H xs us Q I r h
  obtain ⟨p, ys, e, h, q⟩ := h
  exact call_list_of pins s σ H xs us Q I r ⟨p, ys, e, .inl h, q⟩
end
section
variable {K : PySem.W.Frag} {σ : L2.St} {H : Hp} {Q : VK} {te tl : TE} {D : Ends} {ts us : TS} {tt : TT} {v : V} {l : Addr}
theorem d_listT {v : V} {T : List (Int × Int)} (h : Tb K H v T) (q : ∀ p H2 ws, H p = none → Ex H H2 → H2 p = some (.lst ws) → Prs K H2 ws T → Tb K H2 (.ref p) T → Q (.ref p) H2) : rListN K [v] H Q := by
  obtain ⟨a, ws, rfl, h1, h2⟩ := h
  exact ⟨a, ws, rfl, h1, fun l hl => q l _ ws hl (Ex.new hl) upd_same (h2.mono (Ex.new hl)) ⟨l, ws, rfl, sq_of upd_same, h2.mono (Ex.new hl)⟩⟩
theorem d_listL {p : Addr} {ys : List V} (h : SqL K H p ys) (q : ∀ p H2, H p = none → Ex H H2 → H2 p = some (.lst ys) → Q (.ref p) H2) : rListN K [.ref p] H Q := ⟨p, ys, rfl, h, fun l hl => q l _ hl (Ex.new hl) upd_same⟩
theorem d_lenT {v : V} {T : List (Int × Int)} (h : Tb K H v T) (q : Q (.int (T.length : Int)) H) : rLenS K [v] H Q := by
  obtain ⟨a, ws, rfl, h1, h2⟩ := h
  rw [← h2.len] at q
  exact ⟨a, ws, rfl, .inl h1, q⟩
theorem d_ixTb {v : V} {T : List (Int × Int)} {i : Nat} {p : Int × Int} (h : Tb K H v T) (hi : T[i]? = some p) (q : ∀ w, Pr K H w p.1 p.2 → Q w H) : rIxL K v (.int (i : Int)) H Q := by
  obtain ⟨a, ws, rfl, h1, h2⟩ := h
  obtain ⟨w, e, h3⟩ := h2.at hi
  exact ⟨a, ws, i, w, rfl, rfl, h1, atI_nat e, q w h3⟩
/-- for over a table -/
theorem d_forT {T : List (Int × Int)} {j : Nat} (h : Ev tl σ H v) (hT : Tb K H v T) (Pv : Nat → L2.St → Hp → Prop) (h0 : ∀ H1, Ex H H1 → Pv 0 σ H1) (hl : ∀ i σ' H', Pv i σ' H' → Ex H H')
    (hs : ∀ i w p σ' H', T[i]? = some p → Pr K H' w p.1 p.2 → Pv i σ' H' → ts { D with nx := Pv (i + 1), ct := Pv (i + 1), bk := D.nx } (σ'.set j (some w)) H') (hd : ∀ σ' H', Pv T.length σ' H' → D.nx σ' H') : tFor (iList K tl) (gName j) ts D σ H := by
  obtain ⟨a, ws, rfl, h1, h2⟩ := hT
  refine s_forL (xs := ws) h h1 Pv h0 (fun i σ' H' _ p => ex_l (hl i σ' H' p) h1) (fun i w σ' H' e p => ?_) (fun σ' H' p => hd σ' H' (by rw [← h2.len]; exact p))
  obtain ⟨q, e2, h3⟩ := h2.get e
  exact hs i w q σ' H' e2 (h3.mono (hl i σ' H' p)) p
/-- for over a tuple that is made on the way -/
theorem d_forU {xs : List V} {j : Nat} (h : EvU tl σ H xs) (Pv : Hp → Nat → L2.St → Hp → Prop) (h0 : ∀ H1, Ex H H1 → Pv H1 0 σ H1) (hl : ∀ H1 i σ' H', Pv H1 i σ' H' → Ex H1 H')
    (hs : ∀ H1 i x σ' H', Ex H H1 → xs[i]? = some x → Pv H1 i σ' H' → ts { D with nx := Pv H1 (i + 1), ct := Pv H1 (i + 1), bk := D.nx } (σ'.set j (some x)) H') (hd : ∀ H1 σ' H', Ex H H1 → Pv H1 xs.length σ' H' → D.nx σ' H') : tFor (iTup K tl) (gName j) ts D σ H :=
  h H (Ex.refl H) _ fun p H1 hp e h1 => ⟨p, rfl, ⟨xs, st_of h1⟩, for_tup (Pv H1) (h0 H1 e) (fun i σ' H' _ q => ex_t (hl H1 i σ' H' q) (st_of h1)) (fun i x σ' H' hx q => hs H1 i x σ' H' e hx q) (fun σ' H' q => hd H1 σ' H' e q)⟩
/-- an expression whose value is told by R -/
def EvR (te : TE) (σ : L2.St) (H : Hp) (R : V → Hp → Prop) : Prop := ∀ Q : VK, (∀ y H4, Ex H H4 → R y H4 → Q y H4) → te σ H Q
theorem er_ev {R : V → Hp → Prop} (h : Ev te σ H v) (r : ∀ H1, Ex H H1 → R v H1) : EvR te σ H R := fun Q q => h H (Ex.refl H) Q fun H2 e2 => q v H2 e2 (r H2 e2)
theorem et_yes : EvT tYes σ H true := fun H1 _ Q q => q H1 (Ex.refl H1)
def Lcv (R : Nat → List V → Hp → Prop) (H0 : Hp) (D : Addr) (i : Nat) (H' : Hp) : Prop := ∃ acc, H0 D = none ∧ Ex H0 H' ∧ H' D = some (.lst acc) ∧ acc.length ≤ i ∧ R i acc H'
theorem lc_turn {R : Nat → List V → Hp → Prop} {H0 H' : Hp} {D : Addr} {i : Nat} {σ2 : L2.St} (p : Lcv R H0 D i H') (hi : i < 100000)
    (hR : ∀ D i acc acc' H1 H2, Exb D H1 H2 → H1 D = some (.lst acc') → R i acc H1 → R i acc H2)
    (hs : ∀ acc, Ex H0 H' → acc.length ≤ i → R i acc H' → ∃ b, EvT tt σ2 H' b ∧ (b = true → ∀ H3, Ex H' H3 → EvR te σ2 H3 (R (i + 1) <| acc ++ [·])) ∧ (b = false → ∀ H3, Ex H' H3 → R (i + 1) acc H3)) :
    tt σ2 H' fun b H3 => if b = true then te σ2 H3 fun y H4 => ∃ acc, H4 D = some (.lst acc) ∧ acc.length < sizeLine ∧ Lcv R H0 D (i + 1) (upd H4 D (.lst (acc ++ [y]))) else Lcv R H0 D (i + 1) H3 := by
  obtain ⟨acc, p1, p2, p3, p4, p5⟩ := p
  obtain ⟨b, h1, h2, h3⟩ := hs acc p2 p4 p5
  refine h1 H' (Ex.refl H') _ fun H3 e3 => ?_
  cases b with
  | true =>
    rw [if_pos rfl]
    refine h2 rfl H3 e3 _ fun y H4 e4 r => ⟨acc, e4 _ _ (e3 _ _ p3), sz_lt (by omega), acc ++ [y], p1, Ex.mut ((p2.trans e3).trans e4) p1, upd_same, by simp; omega, ?_⟩
    exact hR D _ _ acc _ _ Exb.upd (e4 _ _ (e3 _ _ p3)) r
  | false =>
    rw [if_neg Bool.false_ne_true]
    exact ⟨acc, p1, p2.trans e3, e3 _ _ p3, by omega, h3 rfl H3 e3⟩
theorem d_lcL {a : Addr} {xs : List V} {j : Nat} {vs : List Nat} (h : Ev tl σ H (.ref a)) (hx : SqL K H a xs) (hz : xs.length ≤ 100000) (R : Nat → List V → Hp → Prop)
    (hR : ∀ D i acc acc' H1 H2, Exb D H1 H2 → H1 D = some (.lst acc') → R i acc H1 → R i acc H2) (hw : ∀ x, wipe ((wipe σ vs).set j (some x)) vs = wipe σ vs) (h0 : ∀ H1, Ex H H1 → R 0 [] H1)
    (hs : ∀ i x acc H', xs[i]? = some x → Ex H H' → acc.length ≤ i → R i acc H' → ∃ b, EvT tt ((wipe σ vs).set j (some x)) H' b ∧ (b = true → ∀ H3, Ex H' H3 → EvR te ((wipe σ vs).set j (some x)) H3 (R (i + 1) <| acc ++ [·])) ∧ (b = false → ∀ H3, Ex H' H3 → R (i + 1) acc H3))
    (q : ∀ p H2 acc, H p = none → Ex H H2 → H2 p = some (.lst acc) → R xs.length acc H2 → Q (.ref p) H2) : tLc (iList K tl) (gName j) tt te vs σ H Q := h H (Ex.refl H) _ fun H1 e1 => ⟨a, rfl, ⟨xs, ex_l e1 hx⟩, fun D hD =>
  lc_list (xs := xs) (Lcv R H1 D) ⟨[], hD, Ex.new hD, upd_same, Nat.le_refl _, h0 _ (e1.trans (Ex.new hD))⟩ (fun i H' _ p => ex_l (e1.trans p.choose_spec.2.1) hx)
    (fun i x H' hi p => ⟨hw x, lc_turn p (by have := (List.getElem?_eq_some_iff.mp hi).1; omega) hR fun acc e g r => hs i x acc H' hi (e1.trans e) g r⟩)
    fun H' p => by
      obtain ⟨acc, p1, p2, p3, p4, p5⟩ := p
      exact q D H' acc (fresh_back e1 p1) (e1.trans p2) p3 p5⟩
theorem d_lcT {T : List (Int × Int)} {j : Nat} {vs : List Nat} (h : Ev tl σ H v) (hT : Tb K H v T) (hz : T.length ≤ 100000) (R : Nat → List V → Hp → Prop)
    (hR : ∀ D i acc acc' H1 H2, Exb D H1 H2 → H1 D = some (.lst acc') → R i acc H1 → R i acc H2) (hw : ∀ x, wipe ((wipe σ vs).set j (some x)) vs = wipe σ vs) (h0 : ∀ H1, Ex H H1 → R 0 [] H1)
    (hs : ∀ i w p acc H', T[i]? = some p → Pr K H' w p.1 p.2 → Ex H H' → acc.length ≤ i → R i acc H' → ∃ b, EvT tt ((wipe σ vs).set j (some w)) H' b ∧ (b = true → ∀ H3, Ex H' H3 → EvR te ((wipe σ vs).set j (some w)) H3 (R (i + 1) <| acc ++ [·])) ∧ (b = false → ∀ H3, Ex H' H3 → R (i + 1) acc H3))
    (q : ∀ p H2 acc, H p = none → Ex H H2 → H2 p = some (.lst acc) → R T.length acc H2 → Q (.ref p) H2) : tLc (iList K tl) (gName j) tt te vs σ H Q := by
  obtain ⟨a, ws, rfl, h1, h2⟩ := hT
  refine d_lcL h h1 (by rw [h2.len]; exact hz) R hR hw h0 (fun i x acc H' hi e g r => ?_) (fun p H2 acc f e g r => q p H2 acc f e g (by rw [← h2.len]; exact r))
  obtain ⟨p, e2, h3⟩ := h2.get hi
  exact hs i x p acc H' e2 (h3.mono e) e g r
theorem d_lcR {ta : TA} {n : Int} {j : Nat} {vs : List Nat} (h : EvA ta σ H [.int n]) (hn : 0 ≤ n ∧ n ≤ 100000) (R : Nat → List V → Hp → Prop)
    (hR : ∀ D i acc acc' H1 H2, Exb D H1 H2 → H1 D = some (.lst acc') → R i acc H1 → R i acc H2) (hw : ∀ x, wipe ((wipe σ vs).set j (some x)) vs = wipe σ vs) (h0 : ∀ H1, Ex H H1 → R 0 [] H1)
    (hs : ∀ (i : Nat) acc H', (i : Int) < n → Ex H H' → acc.length ≤ i → R i acc H' → ∃ b, EvT tt ((wipe σ vs).set j (some (.int (i : Int)))) H' b ∧ (b = true → ∀ H3, Ex H' H3 → EvR te ((wipe σ vs).set j (some (.int (i : Int)))) H3 (R (i + 1) <| acc ++ [·])) ∧ (b = false → ∀ H3, Ex H' H3 → R (i + 1) acc H3))
    (q : ∀ p H2 acc, H p = none → Ex H H2 → H2 p = some (.lst acc) → R n.toNat acc H2 → Q (.ref p) H2) : tLc (iRng1 ta) (gName j) tt te vs σ H Q := h H (Ex.refl H) _ fun H1 e1 => ⟨n, rfl, by omega, by omega, fun D hD =>
  lc_range (lo := 0) (n := n.toNat) (Lcv R H1 D) ⟨[], hD, Ex.new hD, upd_same, Nat.le_refl _, h0 _ (e1.trans (Ex.new hD))⟩
    (fun i H' hi p => by
      have e0 : (0 : Int) + (i : Int) = (i : Int) := Int.zero_add _
      show wipe ((wipe σ vs).set j (some (.int ((0 : Int) + (i : Int))))) vs = wipe σ vs ∧ tt ((wipe σ vs).set j (some (.int ((0 : Int) + (i : Int))))) H' _
      rw [e0]
      exact ⟨hw _, lc_turn p (by omega) hR fun acc e g r => hs i acc H' (by omega) (e1.trans e) g r⟩)
    fun H' p => by
      obtain ⟨acc, p1, p2, p3, p4, p5⟩ := p
      exact q D H' acc (fresh_back e1 p1) (e1.trans p2) p3 p5⟩
end

section
variable {K : PySem.W.Frag} {σ : L2.St} {H : Hp} {Q : VK} {te tl : TE} {tt : TT} {v : V}
/-- len(set(xs)) of unlike ints; x in xs -/
def rLenSet (K : PySem.W.Frag) (x : V) (H : Hp) (Q : VK) : Prop := ∃ (l : Addr) (ns : List Int), x = .ref l ∧ SqL K H l (ns.map V.int) ∧ ns.Nodup ∧ ns.length ≤ 4000 ∧ Q (.int (ns.length : Nat)) H
theorem d_lenSet (q : te σ H fun x H1 => rLenSet K x H1 Q) : RZ.tLenSetI K te σ H Q := q
theorem d_rLenSet {l : Addr} {ns : List Int} (h : SqL K H l (ns.map V.int)) (hn : ns.Nodup) (hl : ns.length ≤ 4000) (q : Q (.int (ns.length : Int)) H) : rLenSet K (.ref l) H Q := ⟨l, ns, rfl, h, hn, hl, q⟩
theorem inV_int (i : Int) (ns : List Int) : inV (.int i) (ns.map V.int) = decide (i ∈ ns) := by
  unfold inV
  rw [Bool.eq_iff_iff, List.any_map, List.any_eq_true, decide_eq_true_eq]
  constructor
  · rintro ⟨n, hn, e⟩
    have e : (n == i) = true := e
    have : n = i := by simpa using e
    exact this ▸ hn
  · intro h
    exact ⟨i, h, by show (i == i) = true; simp⟩
theorem flat_ints (ns : List Int) : (ns.map V.int).all flatV = true := by
  rw [List.all_map, List.all_eq_true]
  intro n _
  rfl
theorem d_inI {p : Addr} {i : Int} {ns : List Int} (h : SqL K H p (ns.map V.int)) (q : Q (.bl (decide (i ∈ ns))) H) : rIn K false (.int i) (.ref p) H Q := ⟨p, _, rfl, .inl h, rfl, flat_ints ns, by rw [inV_int]; exact q⟩
theorem d_notInI {p : Addr} {i : Int} {ns : List Int} (h : SqL K H p (ns.map V.int)) (q : Q (.bl (!decide (i ∈ ns))) H) : rIn K true (.int i) (.ref p) H Q := ⟨p, _, rfl, .inl h, rfl, flat_ints ns, by rw [inV_int]; exact q⟩
theorem d_lcR2 {ta : TA} {lo n : Int} {j : Nat} {vs : List Nat} (h : EvA ta σ H [.int lo, .int n]) (hn : 0 ≤ lo ∧ lo ≤ 100000 ∧ -100000 ≤ n ∧ n ≤ 100000) (R : Nat → List V → Hp → Prop)
    (hR : ∀ D i acc acc' H1 H2, Exb D H1 H2 → H1 D = some (.lst acc') → R i acc H1 → R i acc H2) (hw : ∀ x, wipe ((wipe σ vs).set j (some x)) vs = wipe σ vs) (h0 : ∀ H1, Ex H H1 → R 0 [] H1)
    (hs : ∀ (i : Nat) acc H', lo + (i : Int) < n → Ex H H' → acc.length ≤ i → R i acc H' → ∃ b, EvT tt ((wipe σ vs).set j (some (.int (lo + (i : Int))))) H' b ∧ (b = true → ∀ H3, Ex H' H3 → EvR te ((wipe σ vs).set j (some (.int (lo + (i : Int))))) H3 (R (i + 1) <| acc ++ [·])) ∧ (b = false → ∀ H3, Ex H' H3 → R (i + 1) acc H3))
    (q : ∀ p H2 acc, H p = none → Ex H H2 → H2 p = some (.lst acc) → R (n - lo).toNat acc H2 → Q (.ref p) H2) : tLc (iRng2 ta) (gName j) tt te vs σ H Q := h H (Ex.refl H) _ fun H1 e1 => ⟨lo, n, rfl, by omega, fun D hD =>
  lc_range (lo := lo) (n := (n - lo).toNat) (Lcv R H1 D) ⟨[], hD, Ex.new hD, upd_same, Nat.le_refl _, h0 _ (e1.trans (Ex.new hD))⟩
    (fun i H' hi p => ⟨hw _, lc_turn p (by omega) hR fun acc e g r => hs i acc H' (by omega) (e1.trans e) g r⟩)
    fun H' p => by
      obtain ⟨acc, p1, p2, p3, p4, p5⟩ := p
      exact q D H' acc (fresh_back e1 p1) (e1.trans p2) p3 p5⟩
end

/-! ### a dict with pairs as keys; what a call may change besides -/
section
variable {K : PySem.W.Frag} {σ : L2.St} {H : Hp} {Q : VK} {te tl td ty tv : TE} {tt : TT} {v : V} {D : Ends}
theorem Exb.refl {l : Addr} (H : Hp) : Exb l H H := fun _ _ h _ => h
theorem Exb.trans {l : Addr} {H H1 H2 : Hp} (a : Exb l H H1) (b : Exb l H1 H2) : Exb l H H2 := fun c o h n => b c o (a c o h n) n
theorem Exb.of {l : Addr} {H H1 : Hp} (e : Ex H H1) : Exb l H H1 := fun b o h _ => e b o h
theorem Exb.rdTd {l : Addr} {H H2 : Hp} {kvs : List (List Key × V)} {ys : List V} {a : Addr} (b : Exb l H H2) (h : H l = some (.dT kvs)) (r : Rd H a (.tup ys)) : Rd H2 a (.tup ys) := by
  rcases r with r | ⟨o, r⟩
  · exact .inl (b a _ r (ne_of r h (by intro z; cases z)))
  · exact .inr ⟨o, b a _ r (ne_of r h (by intro z; cases z))⟩
theorem Exb.prd {l : Addr} {H H2 : Hp} {kvs : List (List Key × V)} {v : V} {x y : Int} (b : Exb l H H2) (h : H l = some (.dT kvs)) (r : Pr K H v x y) : Pr K H2 v x y := by
  obtain ⟨a, rfl, r⟩ := r
  rcases r with r | r
  · exact ⟨a, rfl, .inl (b.rdTd h r)⟩
  · exact ⟨a, rfl, .inr r⟩
theorem Exb.prsd {l : Addr} {H H2 : Hp} {kvs : List (List Key × V)} {v : V} {x y : Int} (b : Exb l H H2) (h : H l = some (.dT kvs)) (r : PrS H v x y) : PrS H2 v x y := by
  obtain ⟨a, rfl, r⟩ := r
  exact ⟨a, rfl, b a _ r (ne_of r h (by intro z; cases z))⟩
theorem Exb.prs {l : Addr} {H H2 : Hp} {xs : List V} {v : V} {x y : Int} (b : Exb l H H2) (h : H l = some (.lst xs)) (r : PrS H v x y) : PrS H2 v x y := by
  obtain ⟨a, rfl, r⟩ := r
  exact ⟨a, rfl, b a _ r (ne_of r h (by intro z; cases z))⟩
def kP (x y : Int) : List Key := [.inl x, .inl y]
theorem kP_map (x y : Int) : (kP x y).map kV = [.int x, .int y] := rfl
def rDNot (x y : V) (H : Hp) (Q : VK) : Prop := ∃ a o, x = .ref a ∧ DGet H a y o ∧ Q (.bl (!o.isSome)) H
theorem d_dnot (q : ty σ H fun y H1 => td σ H1 fun x H2 => rDNot x y H2 Q) : tDNotIn ty td σ H Q := q
theorem d_rDNot {a : Addr} {kvs : List (List Key × V)} {y : V} {i j : Int} (h : H a = some (.dT kvs)) (hp : PrS H y i j) (q : Q (.bl (!(valV kvs (kP i j)).isSome)) H) : rDNot (.ref a) y H Q := by
  obtain ⟨b, rfl, hb⟩ := hp
  exact ⟨a, _, rfl, DGet.t h (by rw [kP_map]; exact hb), q⟩
def rDGet (x y : V) (H : Hp) (Q : VK) : Prop := ∃ a v, x = .ref a ∧ DGet H a y (some v) ∧ Q v H
theorem d_dget (q : td σ H fun x H1 => ty σ H1 fun y H2 => rDGet x y H2 Q) : tDGet td ty σ H Q := q
theorem d_rDGet {a : Addr} {kvs : List (List Key × V)} {y v : V} {i j : Int} (h : H a = some (.dT kvs)) (hp : PrS H y i j) (hv : valV kvs (kP i j) = some v) (q : Q v H) : rDGet (.ref a) y H Q := by
  obtain ⟨b, rfl, hb⟩ := hp
  exact ⟨a, v, rfl, hv ▸ DGet.t h (by rw [kP_map]; exact hb), q⟩
def rDPut (D : Ends) (σ : L2.St) (x y v : V) (H : Hp) : Prop := ∃ a H4, x = .ref a ∧ DPut H a y v H4 ∧ D.nx σ H4
theorem d_dput (q : tv σ H fun v H1 => td σ H1 fun x H2 => ty σ H2 fun y H3 => rDPut D σ x y v H3) : sDPut td ty tv D σ H := q
theorem d_rDPut {a : Addr} {kvs : List (List Key × V)} {y v : V} {i j : Int} (h : H a = some (.dT kvs)) (hp : PrS H y i j) (hl : kvs.length < sizeLine) (q : ∀ H4, Exb a H H4 → H4 a = some (.dT (putK kvs (kP i j) v)) → D.nx σ H4) : rDPut D σ (.ref a) y v H := by
  obtain ⟨b, rfl, hb⟩ := hp
  exact ⟨a, _, rfl, DPut.t h (by rw [kP_map]; exact hb) hl, q _ Exb.upd upd_same⟩
theorem d_dnew (q : ∀ p H2, H p = none → Ex H H2 → H2 p = some (.dT []) → Q (.ref p) H2) : tDNewT σ H Q := fun p hp => q p _ hp (Ex.new hp) upd_same
theorem valV_new {kvs : List (List Key × V)} {k : List Key} {v : V} (h : valV kvs k = none) : putK kvs k v = kvs ++ [(k, v)] := by
  unfold putK
  have e := valV_any k kvs
  rw [h] at e
  rw [e, if_neg (by simp)]
theorem valV_app {kvs : List (List Key × V)} {k : List Key} {v : V} (h : valV kvs k = none) : valV (kvs ++ [(k, v)]) k = some v := by
  unfold valV at *
  rw [List.find?_append]
  have e : kvs.find? (fun kv => decide (kv.1 = k)) = none := by
    cases h2 : kvs.find? (fun kv => decide (kv.1 = k)) with
    | none => rfl
    | some p => rw [h2] at h; cases h
  rw [e]
  simp
theorem valV_mem {kvs : List (List Key × V)} {k : List Key} {v : V} (h : valV kvs k = some v) : (k, v) ∈ kvs := by
  unfold valV at h
  obtain ⟨p, hp, rfl⟩ := Option.map_eq_some_iff.mp h
  have h1 := List.mem_of_find?_eq_some hp
  have h2 : p.1 = k := of_decide_eq_true (List.find?_some (p := fun kv : List Key × V => decide (kv.1 = k)) hp)
  subst h2
  exact h1
theorem valV_not {kvs : List (List Key × V)} {k : List Key} (h : valV kvs k = none) : k ∉ kvs.map (·.1) := fun z => by
  obtain ⟨p, hp, e⟩ := List.mem_map.mp z
  have e2 := valV_any k kvs
  rw [h] at e2
  have : kvs.any (fun kv => decide (kv.1 = k)) = true := List.any_eq_true.mpr ⟨p, hp, decide_eq_true e⟩
  rw [this] at e2
  cases e2
/-- a comprehension over a list, whose turns may change the dict at kd -/
def Lcm (R : Nat → List V → Hp → Prop) (kd : Addr) (H0 : Hp) (D : Addr) (i : Nat) (H' : Hp) : Prop := ∃ acc, H0 D = none ∧ D ≠ kd ∧ Exb kd H0 H' ∧ H' D = some (.lst acc) ∧ acc.length ≤ i ∧ R i acc H'
/-- what is left of a comprehension, the list that it walks told -/
def rLc (K : PySem.W.Frag) (g : TG) (tt : TT) (te : TE) (vs : List Nat) (σ : L2.St) (x : V) (H1 : Hp) (Q : VK) : Prop := ∃ a, x = .ref a ∧ (∃ xs, SqL K H1 a xs) ∧ ∀ D, H1 D = none → ∃ W : Nat → Nat → Hp → Prop, (∃ m, W 0 m (upd H1 D (.lst []))) ∧ ∀ i m H, W i m H →
  ((Itl K a).stop i H ∧ Q (.ref D) H) ∨ ((Itl K a).go i H ∧ ∃ Nx : Hp → Prop, (∀ H', Nx H' → ∃ m', m' < m ∧ W (i + 1) m' H') ∧ ∀ x H', (Itl K a).yld i H x H' → g x (wipe σ vs) H' fun σ2 H2 => wipe σ2 vs = wipe σ vs ∧ tt σ2 H2 fun b H3 =>
    if b = true then te σ2 H3 fun y H4 => ∃ acc, H4 D = some (.lst acc) ∧ acc.length < sizeLine ∧ Nx (upd H4 D (.lst (acc ++ [y]))) else Nx H3)
theorem d_lc {g : TG} {vs : List Nat} (q : tl σ H fun x H1 => rLc K g tt te vs σ x H1 Q) : tLc (iList K tl) g tt te vs σ H Q := q
theorem d_rLcM {p kd : Addr} {xs : List V} {j : Nat} {vs : List Nat} {kvs : List (List Key × V)} (hz : xs.length ≤ 100000) (R : Nat → List V → Hp → Prop) (h1 : H p = some (.lst xs)) (hkd : H kd = some (.dT kvs))
    (hR : ∀ D i acc acc' H1 H2, Exb D H1 H2 → H1 D = some (.lst acc') → R i acc H1 → R i acc H2) (hw : ∀ x, wipe ((wipe σ vs).set j (some x)) vs = wipe σ vs) (h0 : ∀ H1, Ex H H1 → R 0 [] H1)
    (hs : ∀ i x acc H', xs[i]? = some x → Exb kd H H' → acc.length ≤ i → R i acc H' → ∀ Q' : VK, (∀ y H4, Exb kd H' H4 → R (i + 1) (acc ++ [y]) H4 → Q' y H4) → te ((wipe σ vs).set j (some x)) H' Q')
    (q : ∀ p H2 acc, H p = none → Exb kd H H2 → H2 p = some (.lst acc) → R xs.length acc H2 → Q (.ref p) H2) : rLc K (gName j) tYes te vs σ (.ref p) H Q := ⟨p, rfl, ⟨xs, sq_of h1⟩, fun D hD =>
  have ne : D ≠ kd := fun z => by rw [z, hkd] at hD; cases hD
  have nb : p ≠ kd := ne_of h1 hkd (by intro z; cases z)
  lc_list (xs := xs) (Lcm R kd H D) ⟨[], hD, ne, Exb.of (Ex.new hD), upd_same, Nat.le_refl _, h0 _ (Ex.new hD)⟩ (fun i H' _ q' => by
      obtain ⟨acc, p1, p2, p3, _⟩ := q'
      exact sq_of (p3 p _ h1 nb))
    (fun i x H' hi p' => ⟨hw x, by
      obtain ⟨acc, p1, p2, p3, p4, p5, p6⟩ := p'
      refine (show ∀ (Q : Bool → Hp → Prop), Q true H' → tYes (List.set (wipe σ vs) j (some x)) H' Q from fun _ q => q) _ ?_
      rw [if_pos rfl]
      refine hs i x acc H' hi p3 p5 p6 _ fun y H4 e4 r => ?_
      have hD4 := e4 _ _ p4 p2
      have e14 := p3.trans e4
      exact ⟨acc, hD4, sz_lt (by have := (List.getElem?_eq_some_iff.mp hi).1; omega), acc ++ [y], p1, p2, fun c o hc n => by
          rw [upd_ne (ne_of_none hc p1)]
          exact e14 c o hc n, upd_same, by simp; omega, hR D _ _ acc _ _ Exb.upd hD4 r⟩⟩)
    fun H' p' => by
      obtain ⟨acc, p1, p2, p3, p4, p5, p6⟩ := p'
      exact q D H' acc p1 p3 p4 p6⟩
end

/-! ### slices, sums of lists, enumerate, in over pairs -/
theorem u65 {k : Nat} {A : Around} (r : Room k A) : A.units + 65 < cLine := by have := r.un; omega
section
variable {K : PySem.W.Frag} {σ : L2.St} {H H0 : Hp} {Q : VK} {te tl : TE} {tt : TT} {v u : V} {D : Ends} {ts : TS} {T : List (Int × Int)}
theorem d_neB {i j : Bool} (q : Q (.bl (!decide (i = j))) H) : rNe (.bl i) (.bl j) H Q := by
  have e : decide (V.bl i = V.bl j) = decide (i = j) := by simp
  exact ⟨rfl, by rw [e]; exact q⟩
theorem d_sl {r : V → Option Int → Option Int → Hp → VK → Prop} {to tp : TO} (q : te σ H fun x H1 => to σ H1 fun l H2 => tp σ H2 fun u H3 => r x l u H3 Q) : tSl r te to tp σ H Q := q
theorem d_noPart {R : Option Int → Hp → Prop} (q : R none H) : tNoPart σ H R := q
def rPart (R : Option Int → Hp → Prop) (x : V) (H : Hp) : Prop := ∃ i, x = .int i ∧ R (some i) H
theorem d_part {R : Option Int → Hp → Prop} (q : te σ H fun x H1 => rPart R x H1) : tPart te σ H R := q
theorem d_rPart {R : Option Int → Hp → Prop} {i : Int} (q : R (some i) H) : rPart R (.int i) H := ⟨i, rfl, q⟩
theorem cut_take (xs : List V) {n : Int} (h : 0 ≤ n) : cutV xs none (some n) = xs.take n.toNat := by
  obtain ⟨k, rfl⟩ := Int.eq_ofNat_of_zero_le h
  unfold cutV
  rw [HT.sIx_none, show HT.sIx xs.length xs.length (some (k : Int)) = min k xs.length from HT.sIx_nat _ _ _, List.drop_zero, Nat.sub_zero, Int.toNat_natCast]
  by_cases c : k ≤ xs.length
  · rw [Nat.min_eq_left c]
  · rw [Nat.min_eq_right (by omega), List.take_length, List.take_of_length_le (by omega)]
theorem cut_drop (xs : List V) {n : Int} (h : 0 ≤ n) : cutV xs (some n) none = xs.drop n.toNat := by
  obtain ⟨k, rfl⟩ := Int.eq_ofNat_of_zero_le h
  unfold cutV
  rw [HT.sIx_none, show HT.sIx xs.length 0 (some (k : Int)) = min k xs.length from HT.sIx_nat _ _ _, Int.toNat_natCast]
  by_cases c : k ≤ xs.length
  · rw [Nat.min_eq_left c, List.take_of_length_le (by simp)]
  · rw [Nat.min_eq_right (by omega), List.drop_of_length_le (Nat.le_refl _), List.drop_of_length_le (by omega), List.take_nil]
theorem d_slTake {n : Int} (hT : Tb K H v T) (h0 : 0 ≤ n) (q : ∀ p H2 ws, H p = none → Ex H H2 → H2 p = some (.lst ws) → Prs K H2 ws (T.take n.toNat) → Q (.ref p) H2) : rSlL K v none (some n) H Q := by
  obtain ⟨a, ws, rfl, h1, h2⟩ := hT
  exact ⟨a, ws, rfl, h1, fun p hp => q p _ _ hp (Ex.new hp) upd_same (by rw [cut_take ws h0]; exact (h2.take _).mono (Ex.new hp))⟩
theorem d_slDrop {n : Int} (hT : Tb K H v T) (h0 : 0 ≤ n) (q : ∀ p H2 ws, H p = none → Ex H H2 → H2 p = some (.lst ws) → Prs K H2 ws (T.drop n.toNat) → Q (.ref p) H2) : rSlL K v (some n) none H Q := by
  obtain ⟨a, ws, rfl, h1, h2⟩ := hT
  exact ⟨a, ws, rfl, h1, fun p hp => q p _ _ hp (Ex.new hp) upd_same (by rw [cut_drop ws h0]; exact (h2.drop _).mono (Ex.new hp))⟩
theorem d_cat {l b : Addr} {xs zs : List V} (h1 : H l = some (.lst xs)) (h2 : H b = some (.lst zs)) (hl : xs.length + zs.length ≤ 100000) (q : ∀ p H2, H p = none → Ex H H2 → H2 p = some (.lst (xs ++ zs)) → Q (.ref p) H2) : rCat (.ref l) (.ref b) H Q :=
  ⟨l, b, xs, zs, rfl, rfl, h1, h2, sz_of hl, fun p hp => q p _ hp (Ex.new hp) upd_same⟩
/-- for over enumerate(table) -/
theorem d_forE {ta : TA} {ii jj : Nat} (h : EvA ta σ H [v]) (hT : Tb K H0 v T) (e0 : Ex H0 H) (Pv : Nat → L2.St → Hp → Prop) (h0 : ∀ H1, Ex H H1 → Pv 0 σ H1) (hl : ∀ i σ' H', Pv i σ' H' → Ex H0 H') (hm : ∀ i σ' H1 H2, Pv i σ' H1 → Ex H1 H2 → Pv i σ' H2)
    (hs : ∀ i w p σ' H', T[i]? = some p → Pr K H' w p.1 p.2 → Pv i σ' H' → ts { D with nx := Pv (i + 1), ct := Pv (i + 1), bk := D.nx } ((σ'.set ii (some (.int (i : Int)))).set jj (some w)) H') (hd : ∀ σ' H', Pv T.length σ' H' → D.nx σ' H') :
    tFor (iEnum K ta) (gTup K 2 (gCons (gName ii) (gCons (gName jj) gNil))) ts D σ H := by
  obtain ⟨a, ws, rfl, h1, h2⟩ := hT
  refine h H (Ex.refl H) _ fun H1 e1 => ⟨a, ws, rfl, ex_l (e0.trans e1) h1, for_it (walk_enum (K := K) (a := a) (xs := ws)) Pv (h0 H1 e1) (fun i σ' H' _ p => ex_l (hl i σ' H' p) h1) (fun i x σ' H2 H3 hi p y => ?_) (fun σ' H' p => hd σ' H' (by rw [← h2.len]; exact p))⟩
  obtain ⟨t, a1, a2, rfl, ht, rfl, e5, e6⟩ := y
  cases e5
  obtain ⟨pp, e7, h7⟩ := h2.get e6
  have hp2 := hm i σ' _ _ p (Ex.new (o := .tup [.int (i : Int), a2]) ht)
  exact ⟨t, _, rfl, st_of upd_same, rfl, _, _, rfl, _, _, rfl, rfl, hs i a2 pp σ' _ e7 (h7.mono (hl i σ' _ hp2)) hp2⟩
/-- for over a table, the base further back -/
theorem d_forT0 {j : Nat} (h : Ev tl σ H v) (hT : Tb K H0 v T) (e0 : Ex H0 H) (Pv : Nat → L2.St → Hp → Prop) (h0 : ∀ H1, Ex H H1 → Pv 0 σ H1) (hl : ∀ i σ' H', Pv i σ' H' → Ex H0 H')
    (hs : ∀ i w p σ' H', T[i]? = some p → Pr K H' w p.1 p.2 → Pv i σ' H' → ts { D with nx := Pv (i + 1), ct := Pv (i + 1), bk := D.nx } (σ'.set j (some w)) H') (hd : ∀ σ' H', Pv T.length σ' H' → D.nx σ' H') : tFor (iList K tl) (gName j) ts D σ H := by
  obtain ⟨a, ws, rfl, h1, h2⟩ := hT
  refine s_forL (xs := ws) h (ex_l e0 h1) Pv h0 (fun i σ' H' _ p => ex_l (hl i σ' H' p) h1) (fun i w σ' H' e p => ?_) (fun σ' H' p => hd σ' H' (by rw [← h2.len]; exact p))
  obtain ⟨q, e2, h3⟩ := h2.get e
  exact hs i w q σ' H' e2 (h3.mono (hl i σ' H' p)) p
/-- for over a list of values that is made on the way -/
theorem d_forNL {xs : List V} {j : Nat} (h : EvL tl σ H xs) (Pv : Hp → Nat → L2.St → Hp → Prop) (h0 : ∀ H1, Ex H H1 → Pv H1 0 σ H1) (hk : ∀ p H1 i σ' H', H p = none → H1 p = some (.lst xs) → Pv H1 i σ' H' → H' p = some (.lst xs))
    (hs : ∀ H1 i x σ' H', Ex H H1 → xs[i]? = some x → Pv H1 i σ' H' → ts { D with nx := Pv H1 (i + 1), ct := Pv H1 (i + 1), bk := D.nx } (σ'.set j (some x)) H') (hd : ∀ H1 σ' H', Ex H H1 → Pv H1 xs.length σ' H' → D.nx σ' H') : tFor (iList K tl) (gName j) ts D σ H :=
  h H (Ex.refl H) _ fun p H1 hp e h1 => ⟨p, rfl, ⟨xs, sq_of h1⟩, for_list (Pv H1) (h0 H1 e) (fun i σ' H' _ q => sq_of (hk p H1 i σ' H' hp h1 q)) (fun i x σ' H' hx q => hs H1 i x σ' H' e hx q) (fun σ' H' q => hd H1 σ' H' e q)⟩
/-- in over a list of pairs -/
theorem any_dP (p : Int × Int) (L : List (Int × Int)) : ((L.map dP).any fun z => PyData.eqv z (dP p)) = decide (p ∈ L) := by
  rw [Bool.eq_iff_iff, List.any_map, List.any_eq_true, decide_eq_true_eq]
  constructor
  · rintro ⟨q, hq, e⟩
    have e : PyData.eqv (dP q) (dP p) = true := e
    rw [dP_eqv] at e
    exact of_decide_eq_true e ▸ hq
  · intro h
    exact ⟨p, h, by show PyData.eqv (dP p) (dP p) = true; rw [dP_eqv]; simp⟩
theorem d_inP {x y : Int} {L : List (Int × Int)} (h : Pr K H v x y) (hL : Tb K H u L) (q : Q (.bl (decide ((x, y) ∈ L))) H) : rInD K v u H Q := ⟨_, _, h.dp, hL.dp, dP_shaped _, dT_shaped _, by rw [any_dP]; exact q⟩
theorem d_notInP {x y : Int} {L : List (Int × Int)} (h : Pr K H v x y) (hL : Tb K H u L) (q : Q (.bl (!decide ((x, y) ∈ L))) H) : rNotInD K v u H Q := ⟨_, _, h.dp, hL.dp, dP_shaped _, dT_shaped _, by rw [any_dP]; exact q⟩
theorem d_lenP {x y : Int} (h : Pr K H v x y) (q : Q (.int 2) H) : rLenS K [v] H Q := by
  obtain ⟨a, rfl, h⟩ := h
  exact ⟨a, _, rfl, .inr h, q⟩
theorem Tb.nil {p : Addr} (h : H p = some (.lst [])) : Tb K H (.ref p) [] := ⟨p, [], rfl, sq_of h, trivial⟩
end

/-! ### defs that raise; defs that are handed a caught error -/
/-- a def that may be called by its name and keeps sp; it may let errors out -/
def ClX (P : Program) (w : World) (K : PySem.W.Frag) (mg : Str → Option Value) (base : Heap) (k : Nat) (x : Str) (sp : Sp) : Prop :=
  ∃ f fd ps, FnOk P w K mg base (L2.CX P w) k f fd ps sp ∧ mg x = some (.ref f) ∧ PySem.W.keepIn K (.ref f) = true ∧ Binds K fd ps []
section
variable {P : Program} {w : World} {K : PySem.W.Frag} {mg : Str → Option Value} {base : Heap}
theorem clX_of {x : Str} {st : Stmt} {N ps : List Str} {k : Nat} {sp : Sp} (F : Df K mg x st)
    (hb : ∀ (kV doc pm : Value) (an : Option Addr) (cdv ct : Value) (us : List Value), us.length = ps.length → bindArgs (PySem.W.fnOf x x (defArgs st) (defBody st) (defScope st) .none kV doc pm an cdv ct) ⟨us, []⟩ = pure (ps.zip us))
    (S : FnScope N ps (defScope st)) (len : ∀ vs H Q E, sp vs H Q E → vs.length = ps.length)
    (hbody : ∀ (f : Addr) (cdv : Value) (A : Around) (outer : List Env) (s : Shared) (H : Hp) (vs : List V) (Q : VK) (E : XK), Room k (A.deeper (envOfC x (defScope st) s.heap.objs.size f cdv)) → sp vs H Q E →
      ∃ t, PSs (cxOf (L2.CX P w) P w K mg base N x (defScope st) f cdv A outer s H E) (defBody st) t ∧ t { nx := fun _ H' => Q .non H', rt := Q } (start N vs) H) : ClX P w K mg base (k + 1) x sp := by
  obtain ⟨f, fd, F, hm⟩ := F
  exact ⟨f, fd, ps, F.okX S len (hbody f), hm, F.kp, F.binds hb⟩
/-- what isinstance, except and raise ask of an error's class -/
structure Xc (K : PySem.W.Frag) (mg : Str → Option Value) (x : Str) (C : Addr) : Prop where
  gC : mg x = some (.ref C)
  xC : PySem.W.excIn K C [.type "ValueError", .type "Exception", .type "BaseException", .type "object"] "ValueError.__new__" = true
  kC : PySem.W.keepIn K (.ref C) = true
  bC : PySem.W.subIn K (.ref C) (.type "BaseException") = some true
  tC : PySem.W.typeIn K (.ref C) = some (.type "type")
  vC : PySem.W.kitOne K (.ref C) (.type "ValueError") = some true
  eC : ExcC K C
theorem kit_sub {D C : Addr} {b : Bool} (hd : PySem.W.hasDictIn K C = true) (tC : PySem.W.typeIn K (.ref C) = some (.type "type")) (h : PySem.W.subIn K (.ref D) (.ref C) = some b) (hs : PySem.W.subIn K (.ref D) (.ref D) = some true) : PySem.W.kitOne K (.ref D) (.ref C) = some b := by
  unfold PySem.W.kitOne
  by_cases q : (Value.ref D == Value.ref C) = true
  · have e : D = C := by
      have := eq_of_beq q
      cases this
      rfl
    subst e
    rw [if_pos q]
    rw [hs] at h
    exact h
  · rw [if_neg q]
    obtain ⟨cd, hc, _⟩ := PySem.W.any_some hd
    have e2 : ((PySem.W.clsIn K C).isSome && PySem.W.typeIn K (.ref C) == some (.type "type")) = true := by rw [hc, tC] <;> rfl
    show (if ((PySem.W.clsIn K C).isSome && PySem.W.typeIn K (.ref C) == some (.type "type")) = true then PySem.W.subIn K (.ref D) (.ref C) else none) = some b
    rw [if_pos e2]
    exact h
theorem kit_subV {D : Addr} (h : PySem.W.subIn K (.ref D) (.type "ValueError") = some true) : PySem.W.kitOne K (.ref D) (.type "ValueError") = some true := by
  unfold PySem.W.kitOne
  have q : ¬ (Value.ref D == Value.type "ValueError") = true := by intro z; cases eq_of_beq z
  rw [if_neg q]
  show (if PySem.W.kitMeta "ValueError" = true then PySem.W.subIn K (.ref D) (.type "ValueError") else none) = some true
  rw [if_pos (by decide +kernel)]
  exact h
/-- the addresses of the errors' classes -/
structure Cs where
  (TakeError NoPair NoTable NoMove TooLong NoNote : Addr)
/-- a def that is handed the error that is held -/
structure FnP (P : Program) (w : World) (K : PySem.W.Frag) (mg : Str → Option Value) (base : Heap) (p : Addr × Obj) (k : Nat) (f : Addr) (fd : FuncData) (ps : List Str) (sp : Sp) : Prop where
  len : ∀ vs H Q E, sp vs H Q E → vs.length = ps.length
  run : ∀ (A : Around) (outer : List Env) (s : Shared) (H : Hp) (args : Args) (us : List Value) (vs : List V) (Q : VK) (E : XK), L2H.RoomH k A → L2H.PinOk outer H s p → Env0 P w K mg base A outer s H → BindsTo s fd args (ps.zip us) → Vals vs us → sp vs H Q E →
    codeAny (model P w) A (.call (.ref f) args) (CR CX0 outer P w H s Q E) s
theorem fnP_of {k : Nat} {f : Addr} {name qual : Str} {params : Arguments} {body : List Stmt} {scope : Scope} {dV kV doc pm cdv ct oc : Value} {an od : Option Addr} {p : Addr × Obj}
    {osl : Array (Option Value)} {N ps : List Str} {sp : Sp} (lk : K.lookup f = some ⟨oc, od, .func (PySem.W.fnOf name qual params body scope dV kV doc pm an cdv ct), osl⟩) (hcd : PySem.W.codeIn K cdv qual = true) (S : FnScope N ps scope)
    (len : ∀ vs H Q E, sp vs H Q E → vs.length = ps.length)
    (hbody : ∀ (A : Around) (outer : List Env) (s : Shared) (H : Hp) (vs : List V) (Q : VK) (E : XK), L2H.RoomH k (A.deeper (envOfC qual scope s.heap.objs.size f cdv)) → sp vs H Q E →
      ∃ t, PSs (L2H.cxH CX0 P w K mg base N qual scope f cdv A outer s H E p) body t ∧ t { nx := fun _ H' => Q .non H', rt := Q } (L2.start N vs) H) :
    FnP P w K mg base p (k + 1) f (PySem.W.fnOf name qual params body scope dV kV doc pm an cdv ct) ps sp where
  len := len
  run := fun A outer s H args us vs Q E hr hpin e0 hb r hsp => by
    have KX : K.In s.heap := e0.mod.kin.keeps fun b o e => (e0.bs b o e).1
    refine codeAny_call_function hr.depth (KX _ _ lk) rfl S.co S.gen rfl (PySem.W.codeRec_of KX hcd) (hb _ _ _ _ ?_)
    refine wpAny_newFunctionEnv_cells S.kind (fun y hy => ?_) fun env he s1 x => ?_
    · rcases S.par y.1 (List.of_mem_zip (show (y.1, y.2) ∈ ps.zip us from hy)).1 with q | q
      · exact .inl q
      · exact .inr ⟨q, PySem.W.cellsFrom_some _ _ _ (.inl q)⟩
    · subst he
      refine ⟨(e0.mod.nolimit.keeps fun b o e => (e0.bs b o e).1).keeps x.toInCall.keep, codeAny_func ?_⟩
      obtain ⟨t, ht, hq⟩ := hbody A outer s H vs Q E (hr.deeper _) hsp
      refine wpAny_mono (ht.run [] s1 (L2.start N vs) H _ (L2H.inv_startH S hpin e0 (len _ _ _ _ hsp) r x) hq) (fun fl s' hs => ?_) fun e s' hs => hs
      match fl, hs with
      | .ret u, ⟨v, σ', H', J, rv, q⟩ => exact ⟨v, H', J.os, J.bare, J.base, J.hok, rv, q⟩
      | .next, ⟨σ', H', J, q⟩ => exact ⟨V.non, H', J.os, J.bare, J.base, J.hok, rfl, q⟩
      | .brk, ⟨_, _, _, q⟩ => exact False.elim q
      | .cont, ⟨_, _, _, q⟩ => exact False.elim q
/-- such a def by its name -/
def ClP (P : Program) (w : World) (K : PySem.W.Frag) (mg : Str → Option Value) (base : Heap) (k : Nat) (x : Str) (sp : Addr → Value → Option Addr → Sp) : Prop :=
  ∃ f fd ps, (∀ (p : Addr × Obj) (cls : Value) (d : Option Addr), Zc cls d p.2 → (∃ vs, p.2.data = .fields vs) → FnP P w K mg base p k f fd ps (sp p.1 cls d)) ∧ mg x = some (.ref f) ∧ PySem.W.keepIn K (.ref f) = true ∧ Binds K fd ps []
theorem clP_of {x : Str} {st : Stmt} {N ps : List Str} {k : Nat} {sp : Addr → Value → Option Addr → Sp} (F : Df K mg x st)
    (hb : ∀ (kV doc pm : Value) (an : Option Addr) (cdv ct : Value) (us : List Value), us.length = ps.length → bindArgs (PySem.W.fnOf x x (defArgs st) (defBody st) (defScope st) .none kV doc pm an cdv ct) ⟨us, []⟩ = pure (ps.zip us))
    (S : FnScope N ps (defScope st)) (len : ∀ a cls d vs H Q E, sp a cls d vs H Q E → vs.length = ps.length)
    (hbody : ∀ (a : Addr) (oe : Obj) (cls : Value) (d : Option Addr) (f : Addr) (cdv : Value) (A : Around) (outer : List Env) (s : Shared) (H : Hp) (vs : List V) (Q : VK) (E : XK), Zc cls d oe → (∃ vs, oe.data = .fields vs) → L2H.RoomH k (A.deeper (envOfC x (defScope st) s.heap.objs.size f cdv)) → sp a cls d vs H Q E →
      ∃ t, PSs (L2H.cxH CX0 P w K mg base N x (defScope st) f cdv A outer s H E (a, oe)) (defBody st) t ∧ t { nx := fun _ H' => Q .non H', rt := Q } (L2.start N vs) H) : ClP P w K mg base (k + 1) x sp := by
  obtain ⟨f, fd, F, hm⟩ := F
  refine ⟨f, fd, ps, fun p cls d hz hp => ?_, hm, F.kp, F.binds hb⟩
  obtain ⟨oc, od, kV, doc, pm, an, cdv, ct, osl, rfl, lk, hcd⟩ := F.ex
  exact fnP_of lk hcd S (len p.1 cls d) fun A outer s H vs Q E hr hsp => hbody p.1 p.2 cls d f cdv A outer s H vs Q E hz hp hr hsp
end
section
variable {X : Cx} {k j : Nat} {x : Str} {p pos : Pos} {e : Expr} {es : List Expr} {t : TA}
theorem pe_clX {sp : Sp} {W : WX} (c : ClX X.prog X.w X.K X.mg X.base k x sp) (hr : Room j X.A) (hk : k ≤ j) (hg : Gl X x) (tk : Takes X W) (ha : PA X (e :: es) t)
    (hdb : (x == ("__debug__" : Str)) = false := by decide) (he : starEach (e :: es) X.env = (false, eval e X.env) :: starEach es X.env := by rfl) (hpl : (backTo pos (starEach es X.env)).any (·.1) = false := by rfl) :
    PE X (.Call (.Name x p) (e :: es) [] pos) (tCallS sp (WE W) t) := by
  obtain ⟨f, fd, ps, F, hm, kp, b⟩ := c
  exact pe_callS F (hr.mono hk) hg hm kp b (fun σ => passAt tk σ) ha hdb he hpl
theorem pe_clXp {sp : Sp} {E : XK} (c : ClX X.prog X.w X.K X.mg X.base k x sp) (hr : Room j X.A) (hk : k ≤ j) (hg : Gl X x) (hx : ∀ σ, PassesAt (L2.CX X.prog X.w) X σ E) (ha : PA X (e :: es) t)
    (hdb : (x == ("__debug__" : Str)) = false := by decide) (he : starEach (e :: es) X.env = (false, eval e X.env) :: starEach es X.env := by rfl) (hpl : (backTo pos (starEach es X.env)).any (·.1) = false := by rfl) :
    PE X (.Call (.Name x p) (e :: es) [] pos) (tCallS sp (fun _ => E) t) := by
  obtain ⟨f, fd, ps, F, hm, kp, b⟩ := c
  exact pe_callS F (hr.mono hk) hg hm kp b hx ha hdb he hpl
theorem pe_clP {sp : Addr → Value → Option Addr → Sp} {a : Addr} {oe : Obj} {cls : Value} {d : Option Addr} (c : ClP X.prog X.w X.K X.mg X.base k x sp) (hr : L2H.RoomH j X.A) (hk : k ≤ j) (hq : (a, oe) ∈ X.pn) (hz : Zc cls d oe) (hd : ∃ vs, oe.data = .fields vs) (hg : Gl X x) (ha : PA X (e :: es) t)
    (hdb : (x == ("__debug__" : Str)) = false := by decide) (he : starEach (e :: es) X.env = (false, eval e X.env) :: starEach es X.env := by rfl) (hpl : (backTo pos (starEach es X.env)).any (·.1) = false := by rfl) :
    PE X (.Call (.Name x p) (e :: es) [] pos) (tCall (sp a cls d) [] E0 t) := by
  obtain ⟨f, fd, ps, F0, hm, kp, b⟩ := c
  have F := F0 (a, oe) cls d hz hd
  refine ⟨fun pins s σ H Q I h => ?_⟩
  refine wpAny_Call_Name_kw (ld_glob I hg hm ?_ hdb)
  refine PySem.W.callWith_K (h₀ := X.base) I.ok.mod.kin kp (thn (ha.run pos pins s σ H _ I h) fun us s1 ⟨vs, H1, I1, r, h1⟩ => ⟨I1.kIn, ?_⟩) he hpl
  have h1 : sp a cls d (vs ++ []) H1 Q E0 := h1
  rw [List.append_nil] at h1
  have hl : us.length = ps.length := by rw [← r.length]; exact F.len _ _ _ _ h1
  have b1 := b s1 us I1.kIn (by rw [List.append_nil]; exact hl)
  rw [List.append_nil] at b1
  have P1 := I1.pin (a, oe) (List.mem_append_left _ hq)
  refine wpAny_call (codeAny_mono (F.run X.A X.stack s1 H1 ⟨us, []⟩ us vs Q E0 (hr.mono hk) ⟨P1.1, P1.2.1, fun hm => (List.mem_cons.mp (I1.stkSub a hm)).elim P1.2.2.1 P1.2.2.2.1, P1.2.2.2.2⟩ I1.env0 b1 r h1) fun r s' hq => ?_)
  match r, hq with
  | .error e, hq => exact False.elim hq
  | .ok (.ret u), hq => exact I1.after hq
  | .ok .next, hq => exact False.elim hq
  | .ok .brk, hq => exact False.elim hq
  | .ok .cont, hq => exact False.elim hq
theorem roomH_mark {k : Nat} {A : Around} {o : Option Value} (r : Room k A) : L2H.RoomH k (A.mark o) := ⟨r.dp, r.un⟩
/-- isinstance(e, c) where e's object is pinned -/
theorem call_isP {a D : Addr} {oe : Obj} (hp : (a, oe) ∈ X.pn) (C : ExcC X.K D) (hz : Zc (.ref D) none oe) (hf : ∃ vs, oe.data = .fields vs) : CallR X (.builtin "isinstance") (rIsE X.K D a) := by
  intro pins s σ H xs us Q I r h
  obtain ⟨c, cv, b, rfl, hcv, e, q⟩ := h
  cases r with
  | cons rx rr =>
  cases rr with
  | cons rt rr =>
    cases rr
    cases rx
    have ec := hcv _ rt
    subst ec
    obtain ⟨hget, _⟩ := I.pin (a, oe) (List.mem_append.mpr (.inl hp))
    obtain ⟨vs, hv⟩ := hf
    have J : PySem.W.InstAt s.heap a oe D none := by
      obtain ⟨oc, od, oda, osl⟩ := oe
      obtain ⟨h1, h2⟩ := hz
      dsimp only at h1 h2 hv
      subst h1 h2 hv
      exact ⟨hget, rfl, rfl, trivial⟩
    exact PySem.W.kia_one (PySem.W.handS_kitx_exc C.hg C.hk C.hs C.hd C.ha C.hn C.ht C.hm) I.kIn J e (fun z => nomatch z) fun tk => ⟨.bl b, H, I.kept (t' := tk) fun _ _ z => z, rfl, q⟩
/-- xs.count(y) of flat values -/
def rCntF (K : PySem.W.Frag) : V → List V → Hp → VK → Prop := fun x xs H Q => ∃ (a : Addr) (ys : List V) (y : V), x = V.ref a ∧ xs = [y] ∧ SqL K H a ys ∧ flatV y = true ∧ ys.all flatV = true ∧ Q (.int ((ys.countP fun z => eqV z y : Nat) : Int)) H
theorem cnt_eqU {y : V} : ∀ {ys : List V} {us : List Value}, Vals ys us → ys.all flatV = true → us.countP (eqU y) = ys.countP fun z => eqV z y
  | _, _, .nil, _ => rfl
  | z :: ys, u :: us, .cons r t, f => by
    rw [List.all_cons, Bool.and_eq_true] at f
    rw [List.countP_cons, List.countP_cons, eqU_of r f.1, cnt_eqU t f.2]
theorem mt_countF : MtR X "list.count" (rCntF X.K) := by
  intro pins s σ H x xs v us Q I rx rxs h
  obtain ⟨a, ys, y, rfl, rfl, hs, fy, fys, q⟩ := h
  cases rx
  obtain ⟨u, rfl, ru⟩ := rxs.one
  obtain ⟨its, rv, ⟨⟨cls, dd, data, sl⟩, n, ho, hc, hdn, hd⟩, hlen⟩ := I.list hs
  simp only at hc hd
  subst hc hd
  refine call_meets PySem.F.slot_list_count ⟨_, ho, rfl⟩ PySem.F.entry_list_count (PySem.F.args_list_count_2 _ _)
    (SeqAt.list_countAt a its.toArray n dd sl u (eqU y)) ⟨ho, fun z hz => mem_eqAt ru fy rv fys z (by simpa using hz), ?_⟩
  refine ⟨.int ((ys.countP fun z => eqV z y : Nat) : Int), H, I.tok _, ⟨s.toks, ?_⟩, q⟩
  rw [List.toList_toArray, cnt_eqU rv fys]
end
section
variable {K : PySem.W.Frag} {σ : L2.St} {H : Hp} {Q : VK} {ta : TA} {v : V} {D : Ends}
theorem d_ifU {tt : TT} {ts us : TS} (q : tt σ H fun b H1 => if b = true then ts D σ H1 else us D σ H1) : tIfS tt ts us D σ H := q
theorem d_testU {te : TE} {Q : Bool → Hp → Prop} (q : te σ H fun x H' => ∃ k, x = .bl k ∧ Q k H') : tTest te σ H Q := q
theorem d_callS {sp : Sp} {E : L2.St → XK} (q : ta σ H fun vs H1 => sp vs H1 Q (E σ)) : tCallS sp E ta σ H Q := q
theorem d_rCntF {p : Addr} {ys : List V} {y : V} (h : SqL K H p ys) (fy : flatV y = true) (fys : ys.all flatV = true) (q : Q (.int ((ys.countP fun z => eqV z y : Nat) : Int)) H) : rCntF K (.ref p) [y] H Q := ⟨p, ys, y, rfl, rfl, h, fy, fys, q⟩
theorem d_rIndex {p : Addr} {ys : List V} {y z : V} (j : Nat) (h : SqL K H p ys) (fy : flatV y = true) (fys : ys.all flatV = true) (hj : ys[j]? = some z) (he : eqV z y = true) (hno : ∀ (m : Nat) (z' : V), m < j → ys[m]? = some z' → eqV z' y = false) (q : Q (.int (j : Int)) H) : rIndex K (.ref p) [y] H Q :=
  ⟨p, ys, y, j, z, rfl, rfl, h, fy, fys, hj, he, hno, q⟩
/-- isinstance of the error that is held -/
theorem d_isE {D a C : Addr} {b : Bool} (h : PySem.W.kitOne K (.ref D) (.ref C) = some b) (q : Q (.bl b) H) : rIsE K D a [.ref a, .ref C] H Q := ⟨_, .ref C, b, rfl, fun _ r => r, h, q⟩
theorem d_isEV {D a : Addr} {b : Bool} {n : String} (h : PySem.W.kitOne K (.ref D) (.type n) = some b) (q : Q (.bl b) H) : rIsE K D a [.ref a, .ty n] H Q := ⟨_, .type n, b, rfl, fun _ r => r, h, q⟩
theorem et_orT {t1 t2 : TT} (h : EvT t1 σ H true) : EvT (tOr t1 t2) σ H true := et_or (b := false) h (fun z => nomatch z)
theorem et_andF {t1 t2 : TT} (h : EvT t1 σ H false) : EvT (tAnd t1 t2) σ H false := et_and (b := false) h (fun z => nomatch z)
theorem d_gSub {to ti : TE} {t : TSet} {Q : L2.St → Hp → Prop} (q : to σ H fun o H1 => ti σ H1 fun i H2 => t o i v H2 fun H3 => Q σ H3) : gSub to ti t v σ H Q := q
theorem d_rSetL {o : Addr} {xs : List V} {k : Int} {j : Nat} {Q : Hp → Prop} (h : H o = some (.lst xs)) (hj : ixN xs.length k = some j) (q : ∀ H2, Exb o H H2 → H2 o = some (.lst (xs.set j v)) → Q H2) : rSetL (.ref o) (.int k) v H Q :=
  ⟨o, xs, k, j, rfl, rfl, h, hj, q _ Exb.upd upd_same⟩
theorem d_for1z {tu : TS} {j : Nat} {n : Int} (h : EvA ta σ H [.int n]) (hn : -100000 ≤ n ∧ n ≤ 100000) (Pv : Nat → L2.St → Hp → Prop) (h0 : ∀ H1, Ex H H1 → Pv 0 σ H1)
    (hs : ∀ (i : Nat) σ' H', (i : Int) < n → Pv i σ' H' → tu { D with nx := Pv (i + 1), ct := Pv (i + 1), bk := D.nx } (σ'.set j (some (.int (i : Int)))) H') (hd : ∀ σ' H', Pv n.toNat σ' H' → D.nx σ' H') : tFor (iRng1 ta) (gName j) tu D σ H :=
  h H (Ex.refl H) _ fun H1 e => ⟨n, rfl, by omega, by omega, for_range (lo := 0) (n := n.toNat) Pv (h0 H1 e) (fun i σ' H' hi p => by
    have e0 : (0 : Int) + (i : Int) = (i : Int) := Int.zero_add _
    show tu { D with nx := Pv (i + 1), ct := Pv (i + 1), bk := D.nx } (σ'.set j (some (.int ((0 : Int) + (i : Int))))) H'
    rw [e0]
    exact hs i σ' H' (by omega) p) hd⟩
theorem d_rLcL {tt : TT} {te : TE} {a : Addr} {xs : List V} {j : Nat} {vs : List Nat} (hx : SqL K H a xs) (hz : xs.length ≤ 100000) (R : Nat → List V → Hp → Prop)
    (hR : ∀ D i acc acc' H1 H2, Exb D H1 H2 → H1 D = some (.lst acc') → R i acc H1 → R i acc H2) (hw : ∀ x, wipe ((wipe σ vs).set j (some x)) vs = wipe σ vs) (h0 : ∀ H1, Ex H H1 → R 0 [] H1)
    (hs : ∀ i x acc H', xs[i]? = some x → Ex H H' → acc.length ≤ i → R i acc H' → ∃ b, EvT tt ((wipe σ vs).set j (some x)) H' b ∧ (b = true → ∀ H3, Ex H' H3 → EvR te ((wipe σ vs).set j (some x)) H3 (R (i + 1) <| acc ++ [·])) ∧ (b = false → ∀ H3, Ex H' H3 → R (i + 1) acc H3))
    (q : ∀ p H2 acc, H p = none → Ex H H2 → H2 p = some (.lst acc) → R xs.length acc H2 → Q (.ref p) H2) : rLc K (gName j) tt te vs σ (.ref a) H Q := ⟨a, rfl, ⟨xs, hx⟩, fun D hD =>
  lc_list (xs := xs) (Lcv R H D) ⟨[], hD, Ex.new hD, upd_same, Nat.le_refl _, h0 _ (Ex.new hD)⟩ (fun i H' _ p => ex_l p.choose_spec.2.1 hx)
    (fun i x H' hi p => ⟨hw x, lc_turn p (by have := (List.getElem?_eq_some_iff.mp hi).1; omega) hR fun acc e g r => hs i x acc H' hi e g r⟩)
    fun H' p => by
      obtain ⟨acc, p1, p2, p3, p4, p5⟩ := p
      exact q D H' acc p1 p2 p3 p5⟩
end

/-! ### texts, as lists of signs -/
open SX (S)
abbrev tV (l : List Nat) : V := .str (S l)
theorem lit_e : (Str.ofString "" : Str) = S [] := by decide +kernel
theorem lit_b : (Str.ofString " " : Str) = S [32] := by decide +kernel
theorem lit_s : (Str.ofString "/" : Str) = S [47] := by decide +kernel
theorem lit_0 : (Str.ofString "0" : Str) = S [48] := by decide +kernel
theorem lit_sig : (Str.ofString "0123456789/ \t\n.-+_a" : Str) = S [48, 49, 50, 51, 52, 53, 54, 55, 56, 57, 47, 32, 9, 10, 46, 45, 43, 95, 97] := by decide +kernel
theorem lit_52 : (Str.ofString "5/2" : Str) = S [53, 47, 50] := by decide +kernel
theorem lit_bb : (Str.ofString "  " : Str) = S [32, 32] := by decide +kernel
theorem lit_t : (Str.ofString "\t" : Str) = S [9] := by decide +kernel
theorem lit_n : (Str.ofString "\n" : Str) = S [10] := by decide +kernel
theorem lit_bn : (Str.ofString " \n" : Str) = S [32, 10] := by decide +kernel
theorem lit_00 : (Str.ofString "00" : Str) = S [48, 48] := by decide +kernel
theorem lit_1 : (Str.ofString "1" : Str) = S [49] := by decide +kernel
theorem lit_f : (Str.ofString "0123456789" : Str) = S [48, 49, 50, 51, 52, 53, 54, 55, 56, 57] := by decide +kernel
section
variable {X : Cx} {o e : Expr} {to te : TE} {apos pos : Pos}
def rAddT : R2 := fun x y H Q => ∃ i j, x = .str i ∧ y = .str j ∧ i.length + j.length ≤ sizeLine ∧ Q (.str (i ++ j)) H
theorem op_addT : OpR X (binaryOp .Add) rAddT := op_add_str
def rLenT : List V → Hp → VK → Prop := fun xs H Q => ∃ z, xs = [.str z] ∧ z.length ≤ sizeLine ∧ Q (.int z.length) H
theorem call_lenT : CallR X (.builtin "len") rLenT := call_len_str
def rStrI : List V → Hp → VK → Prop := fun xs H Q => ∃ i, xs = [.int i] ∧ i.natAbs.log2 < 1920 ∧ Q (.str (toString i)) H
theorem call_strI : CallR X (.type "str") rStrI := call_str_int
def rIntT : List V → Hp → VK → Prop := fun xs H Q => ∃ a n, xs = [.str a] ∧ PySem.intText? a = some n ∧ a.length ≤ 640 ∧ Q (.int n) H
theorem call_intT : CallR X (.type "int") rIntT := call_int_str
def rSplitT : V → List V → Hp → VK → Prop := fun x xs H Q => ∃ a b, x = .str a ∧ xs = [.str b] ∧ (b.length == 0) = false ∧ a.length + 2 ≤ sizeLine ∧ rNewStrs (Txt.split a b) H Q
theorem pe_splitT (ho : PE X o to) (he : PE X e te) (hs : starEach [e] X.env = [(false, eval e X.env)] := by rfl) (hbase : attributeBase o "split" X.env (eval o X.env) = eval o X.env := by rfl) (hline : (apos.endLine == pos.line) = true := by rfl) :
    PE X (.Call (.Attribute o "split" apos) [e] [] pos) (tM1 rSplitT to te) := pe_split ho he hs hbase hline
def rJoinT (K : PySem.W.Frag) : V → List V → Hp → VK → Prop := fun x xs H Q => ∃ a p, ∃ ys : List Str, x = .str a ∧ xs = [.ref p] ∧ (SqL K H p (ys.map V.str) ∨ SqT K H p (ys.map V.str)) ∧ (ys.map (·.length)).sum + ys.length * a.length ≤ 16777216 ∧ Q (.str (Txt.join a ys)) H
theorem pe_joinT (ho : PE X o to) (he : PE X e te) (hs : starEach [e] X.env = [(false, eval e X.env)] := by rfl) (hbase : attributeBase o "join" X.env (eval o X.env) = eval o X.env := by rfl) (hline : (apos.endLine == pos.line) = true := by rfl) :
    PE X (.Call (.Attribute o "join" apos) [e] [] pos) (tM1 (rJoinT X.K) to te) := pe_join ho he hs hbase hline
end
section
variable {K : PySem.W.Frag} {σ : L2.St} {H H0 : Hp} {Q : VK} {te tl to : TE} {D : Ends} {ts : TS} {a b : List Nat} {v x y : V} {i n : Int}
theorem d_cT {s : Str} {l : List Nat} (h : s = S l) (q : Q (tV l) H) : tC (.str s) σ H Q := by
  subst h
  exact q
theorem d_addT (hl : a.length + b.length ≤ 100000) (q : Q (tV (a ++ b)) H) : rAddT (tV a) (tV b) H Q := by
  have e : V.str (S a ++ S b) = tV (a ++ b) := congrArg V.str (SX.S_cat a b)
  exact ⟨_, _, rfl, rfl, sz_of (by rw [SX.S_len, SX.S_len]; exact hl), by rw [e]; exact q⟩
theorem d_lenStr (hl : a.length ≤ 100000) (q : Q (.int (a.length : Int)) H) : rLenT [tV a] H Q := ⟨_, rfl, sz_of (by rw [SX.S_len]; exact hl), by rw [SX.S_len]; exact q⟩
theorem d_strI (h0 : 0 ≤ n) (h1 : n ≤ 1000000000000000000000000000000) (q : Q (tV (TL.numL n.toNat)) H) : rStrI [.int n] H Q := by
  obtain ⟨m, rfl⟩ := Int.eq_ofNat_of_zero_le h0
  refine ⟨_, rfl, ?_, ?_⟩
  · show m.log2 < 1920
    by_cases c : m = 0
    · rw [c]; decide
    · rw [Nat.log2_lt c]
      have h2 : m ≤ 1000000000000000000000000000000 := by omega
      have h3 : 1000000000000000000000000000000 < 2 ^ 100 := by decide
      have h4 : 2 ^ 100 ≤ 2 ^ 1920 := Nat.pow_le_pow_right (by decide) (by decide)
      exact Nat.lt_of_le_of_lt h2 (Nat.lt_of_lt_of_le h3 h4)
  · rw [show (Str.ofString (toString ((m : Nat) : Int)) : Str) = S (TL.numL m) from SX.num_S m]
    exact q
theorem d_intT (h : PySem.intText? (S a) = some n) (hl : a.length ≤ 640) (q : Q (.int n) H) : rIntT [tV a] H Q := ⟨_, n, rfl, h, by rw [SX.S_len]; exact hl, q⟩
theorem d_ixS {c : Nat} (hl : a.length ≤ 100000) (ha : atI a i = some c) (q : Q (tV [c]) H) : rIxS (tV a) (.int i) H Q := ⟨_, i, c, rfl, rfl, sz_of (by rw [SX.S_len]; exact hl), ha, q⟩
theorem d_inS {c : Nat} (q : Q (.bl (decide (c ∈ b))) H) : rInS (tV [c]) (tV b) H Q := ⟨c, _, rfl, rfl, q⟩
theorem d_notInS {c : Nat} (q : Q (.bl (!decide (c ∈ b))) H) : rNotInS (tV [c]) (tV b) H Q := ⟨c, _, rfl, rfl, q⟩
theorem str_tl {a b : Str} : a.cps.toList = b.cps.toList ↔ a = b := ⟨fun h => TL.ext_tl h, fun h => by rw [h]⟩
theorem dec_S (a b : List Nat) : decide (S a = S b) = decide (a = b) := by
  rw [Bool.eq_iff_iff, decide_eq_true_eq, decide_eq_true_eq]
  exact ⟨SX.S_inj, fun e => by rw [e]⟩
theorem d_eqSS (q : Q (.bl (decide (a = b))) H) : rEq (tV a) (tV b) H Q := d_eqS (by rw [dec_S]; exact q)
theorem d_neSS (q : Q (.bl (!decide (a = b))) H) : rNe (tV a) (tV b) H Q := d_neS (by rw [dec_S]; exact q)
def rM1 (r : V → List V → Hp → VK → Prop) (te : TE) (σ : L2.St) (x : V) (H : Hp) (Q : VK) : Prop := (∃ a, x = .str a) ∧ te σ H fun y H2 => r x [y] H2 Q
theorem d_m1 {r : V → List V → Hp → VK → Prop} (q : to σ H fun x H1 => rM1 r te σ x H1 Q) : tM1 r to te σ H Q := q
theorem d_rM1 {r : V → List V → Hp → VK → Prop} {z : Str} (q : te σ H fun y H2 => r (.str z) [y] H2 Q) : rM1 r te σ (.str z) H Q := ⟨⟨_, rfl⟩, q⟩
theorem d_rSplit {c : Nat} (hc : c < 256) (hl : a.length ≤ 100000) (q : ∀ p H2, H p = none → Ex H H2 → H2 p = some (.lst ((TL.spl [c] 0 [] a).map tV)) → Q (.ref p) H2) : rSplitT (tV a) [tV [c]] H Q := by
  refine ⟨_, _, rfl, rfl, rfl, ?_, fun p hp => ?_⟩
  · rw [SX.S_len, sizeLine_eq]; omega
  · refine q p _ hp (Ex.new hp) ?_
    rw [upd_same, SX.split_S (by simp) (by simp; exact hc), List.map_map]
    rfl
theorem d_rJoin {p : Addr} {ys : List (List Nat)} (h : SqL K H p (ys.map tV)) (hz : (ys.map (·.length)).sum + ys.length * a.length ≤ 100000) (q : Q (tV (TL.joinL a ys)) H) : rJoinT K (tV a) [.ref p] H Q := by
  refine ⟨_, p, ys.map S, rfl, rfl, .inl ?_, ?_, ?_⟩
  · rw [List.map_map]
    exact h
  · rw [SX.lens, List.length_map, SX.S_len]
    omega
  · rw [SX.join_S]
    exact q
/-- for over a text -/
theorem d_forStr {j : Nat} (h : Ev tl σ H (tV a)) (Pv : Nat → L2.St → Hp → Prop) (h0 : ∀ H1, Ex H H1 → Pv 0 σ H1)
    (hs : ∀ i c σ' H', a[i]? = some c → Pv i σ' H' → ts { D with nx := Pv (i + 1), ct := Pv (i + 1), bk := D.nx } (σ'.set j (some (tV [c]))) H') (hd : ∀ σ' H', Pv a.length σ' H' → D.nx σ' H') : tFor (iStr tl) (gName j) ts D σ H :=
  h H (Ex.refl H) _ fun H1 e => ⟨_, rfl, for_it (walk_str (z := S a)) Pv (h0 H1 e) (fun _ _ _ _ _ => trivial) (fun i x σ' H' H2 _ p y => by
    obtain ⟨rfl, c, hc, rfl⟩ := y
    exact hs i c σ' _ (by rw [← hc]; simp) p) (fun σ' H' p => hd σ' H' (by have e : (S a).cps.size = a.length := by simp
                                                                           rw [← e]; exact p))⟩
end
section
variable {K : PySem.W.Frag} {σ : L2.St} {H H0 : Hp} {Q : VK} {te tl to : TE} {D : Ends} {ts : TS} {a b : List Nat} {v x y : V} {i n : Int}
theorem el_splitT {c : Nat} (h1 : Ev to σ H (tV a)) (h2 : Ev te σ H (tV [c])) (hc : c < 256) (hl : a.length ≤ 100000) : EvL (tM1 rSplitT to te) σ H ((TL.spl [c] 0 [] a).map tV) := fun H1 e Q q =>
  d_m1 (h1 H1 e _ fun H2 e2 => d_rM1 (h2 H2 (e.trans e2) _ fun H3 e3 => d_rSplit hc hl fun p H4 n f g => q p H4 (fresh_back (e2.trans e3) n) ((e2.trans e3).trans f) g))
theorem d_min2L {p : Addr} {m n : Int} (h : SqL K H p [.int m, .int n]) (q : Q (.int (min m n)) H) : rMin K [.ref p] H Q := ⟨p, [m, n], rfl, h, by show 0 < 2; decide, fun k hk hm => by
  have h1 := hm m (by simp)
  have h2 := hm n (by simp)
  have : k = min m n := by
    rcases List.mem_cons.mp hk with e | e
    · omega
    · have e := List.mem_singleton.mp e
      omega
  rw [this]
  exact q⟩
theorem d_slL {p : Addr} {xs : List V} {lo hi : Option Int} (h : SqL K H p xs) (q : ∀ l H2, H l = none → Ex H H2 → H2 l = some (.lst (cutV xs lo hi)) → Q (.ref l) H2) : rSlL K (.ref p) lo hi H Q := ⟨p, xs, rfl, h, fun l hl => q l _ hl (Ex.new hl) upd_same⟩
/-- a slice of a text: no longer than the text -/
theorem d_slS {lo hi : Option Int} (hl : a.length ≤ 100000) (q : ∀ b : List Nat, b.length ≤ a.length → Q (tV b) H) : rSlS (tV a) lo hi H Q := by
  refine ⟨_, rfl, sz_of (by rw [SX.S_len]; exact hl), ?_⟩
  have := q (cutS (S a) lo hi).cps.toList (by
    have h1 := cutS_length (S a) lo hi
    rw [SX.S_len] at h1
    rw [show (cutS (S a) lo hi).cps.toList.length = (cutS (S a) lo hi).length from Array.length_toList]
    exact h1)
  rw [show tV (cutS (S a) lo hi).cps.toList = .str (cutS (S a) lo hi) from congrArg V.str (SX.S_tl _)] at this
  exact this
theorem shaped_str {z : Str} (h : PyData.canLay0 (.str z) = true) : SeqAt.shaped (.str z) = true := by
  unfold SeqAt.shaped
  rw [h]
  rfl
theorem d_eqDS {z u : Str} (hz : PyData.canLay0 (.str z) = true) (hu : PyData.canLay0 (.str u) = true) (q : Q (.bl (decide (z = u))) H) : rEqD K (.str z) (.str u) H Q := ⟨_, _, .str z, .str u, shaped_str hz, shaped_str hu, by
  have e : PyData.eqv (.str z) (.str u) = decide (z = u) := by
    show (z == u) = _
    cases h : decide (z = u) with
    | true => rw [of_decide_eq_true h]; simp
    | false => simpa using of_decide_eq_false h
  rw [e]; exact q⟩
theorem d_eqDI {m n : Int} (q : Q (.bl (decide (m = n))) H) : rEqD K (.int m) (.int n) H Q := ⟨_, _, .int m, .int n, rfl, rfl, by
  have e : PyData.eqv (.int m) (.int n) = decide (m = n) := by
    show (m == n) = _
    cases h : decide (m = n) with
    | true => rw [of_decide_eq_true h]; simp
    | false => simpa using of_decide_eq_false h
  rw [e]; exact q⟩
/-- a list == [] -/
def rEqNil (K : PySem.W.Frag) : R2 := fun x y H Q => ∃ (p p' : Addr) (xs : List V), x = .ref p ∧ y = .ref p' ∧ SqL K H p xs ∧ SqL K H p' [] ∧ Q (.bl (decide (xs = []))) H
theorem op_eqNil {X : Cx} (hu : X.A.units + 65 < cLine) : OpR X (compareOp .Eq) (rEqNil X.K) := by
  intro pins s σ H x y v u Q I rx ry h
  obtain ⟨p, p', xs, rfl, rfl, h1, h2, q⟩ := h
  by_cases c : xs = []
  · subst c
    exact op_eqD (by omega) pins s σ H _ _ v u Q I rx ry ⟨.list [], .list [], .lst h1 .nil, .lst h2 .nil, rfl, rfl, q⟩
  · cases rx
    cases ry
    obtain ⟨its, rv, pl, _⟩ := I.list h1
    obtain ⟨its2, rv2, pl2, _⟩ := I.list h2
    have l1 := rv.length
    have l2 := rv2.length
    have hx : 0 < xs.length := List.length_pos_iff.mpr c
    have h0 : ([] : List V).length = 0 := rfl
    have hne : its.toArray.size ≠ its2.toArray.size := by
      rw [List.size_toArray, List.size_toArray]
      omega
    refine SeqAt.eq_list_lengthsAt pl.isList pl2.isList (by simpa using hne) (by omega) ?_
    rw [decide_eq_false c] at q
    exact ⟨.bl false, H, I, rfl, q⟩
theorem d_eqNil {p p' : Addr} {xs : List V} (h1 : SqL K H p xs) (h2 : SqL K H p' []) (q : Q (.bl (decide (xs = []))) H) : rEqNil K (.ref p) (.ref p') H Q := ⟨p, p', xs, rfl, rfl, h1, h2, q⟩
/-- for x, y in a table -/
theorem d_forTP {T : List (Int × Int)} {ii jj : Nat} (h : Ev tl σ H v) (hT : Tb K H0 v T) (e0 : Ex H0 H) (Pv : Nat → L2.St → Hp → Prop) (h0 : ∀ H1, Ex H H1 → Pv 0 σ H1) (hl : ∀ i σ' H', Pv i σ' H' → Ex H0 H')
    (hs : ∀ i p σ' H', T[i]? = some p → Pv i σ' H' → ts { D with nx := Pv (i + 1), ct := Pv (i + 1), bk := D.nx } ((σ'.set ii (some (.int p.1))).set jj (some (.int p.2))) H') (hd : ∀ σ' H', Pv T.length σ' H' → D.nx σ' H') :
    tFor (iList K tl) (gTup K 2 (gCons (gName ii) (gCons (gName jj) gNil))) ts D σ H := by
  obtain ⟨a, ws, rfl, h1, h2⟩ := hT
  refine h H (Ex.refl H) _ fun H1 e1 => ⟨a, rfl, ⟨ws, ex_l (e0.trans e1) h1⟩, for_list Pv (h0 H1 e1) (fun i σ' H' _ p => ex_l (hl i σ' H' p) h1) (fun i w σ' H' e p => ?_) (fun σ' H' p => hd σ' H' (by rw [← h2.len]; exact p))⟩
  obtain ⟨q, e2, h3⟩ := h2.get e
  exact d_gTupP (h3.mono (hl i σ' H' p)) (hs i q σ' H' e2 p)
end
end Tk

namespace Tk
open PySem PySem.Spec PyProof.Rows L2 Evl

/-! ### the quotients -/
def euN (g s : Nat) : List Int := if h : s = 0 then [] else ((g / s : Nat) : Int) :: euN s (g % s)
termination_by s
decreasing_by exact Nat.mod_lt _ (Nat.pos_of_ne_zero h)
def eu (g s : Int) : List Int := euN g.toNat s.toNat
theorem euN_zero (g : Nat) : euN g 0 = [] := by rw [euN]; rfl
theorem euN_step {g s : Nat} (h : 0 < s) : euN g s = ((g / s : Nat) : Int) :: euN s (g % s) := by
  rw [euN, dif_neg (by omega)]
theorem eu_zero {g s : Int} (h : s ≤ 0) : eu g s = [] := by
  unfold eu
  rw [show s.toNat = 0 by omega]
  exact euN_zero _
theorem eu_step {g s : Int} (hg : 0 ≤ g) (hs : 0 < s) : eu g s = g / s :: eu s (g % s) := by
  obtain ⟨a, rfl⟩ := Int.eq_ofNat_of_zero_le hg
  obtain ⟨b, rfl⟩ := Int.eq_ofNat_of_zero_le (Int.le_of_lt hs)
  have hb : 0 < b := by omega
  show euN a b = _ :: euN b (((a : Int) % (b : Int)).toNat)
  rw [euN_step hb]
  rfl
theorem half_mod {s r : Nat} (h0 : 0 < r) (h : r < s) : s % r < (s + 1) / 2 := by
  by_cases c : 2 * r ≤ s
  · have := Nat.mod_lt s h0
    omega
  · have e : s % r = s - r := by
      rw [Nat.mod_eq_sub_mod (by omega), Nat.mod_eq_of_lt (by omega)]
    omega
theorem euN_len : ∀ (k g s : Nat), s < 2 ^ k → (euN g s).length ≤ 2 * k
  | 0, g, s, h => by
    have e : s = 0 := by simpa using h
    rw [e, euN_zero]
    exact Nat.le_refl _
  | k + 1, g, s, h => by
    by_cases c : s = 0
    · rw [c, euN_zero]; simp
    · rw [euN_step (by omega)]
      by_cases d : g % s = 0
      · rw [d, euN_zero]; simp; omega
      · rw [euN_step (by omega)]
        have h1 : g % s < s := Nat.mod_lt _ (by omega)
        have h2 := half_mod (by omega : 0 < g % s) h1
        have h3 : s % (g % s) < 2 ^ k := by
          rw [Nat.pow_succ] at h
          omega
        have := euN_len k (g % s) (s % (g % s)) h3
        simp only [List.length_cons]
        omega
theorem eu_len {g s : Int} (h : s ≤ 1000000000000000000000000000000) : (eu g s).length ≤ 200 := by
  refine euN_len 100 _ _ ?_
  have e : (2 : Nat) ^ 100 = 1267650600228229401496703205376 := by decide
  rw [e]
  omega
/-- the quotients of the pair x, y -/
def qs (x y : Int) : List Int := eu (max x y) (min x y)
theorem qs_comm (x y : Int) : qs x y = qs y x := by
  unfold qs
  rw [Int.max_comm, Int.min_comm]
theorem qs_len {x y : Int} (h : x ≤ 1000000000000000000000000000000) : (qs x y).length ≤ 200 := eu_len (by omega)
theorem take_succ' {α : Type} {l : List α} {i : Nat} {x : α} (h : l[i]? = some x) : l.take (i + 1) = l.take i ++ [x] := by
  rw [List.take_succ, h]
  rfl

/-! ### a comprehension whose element lets an error out of a call -/
section
open HandSPX
/-- a call's error, still in flight, in our air -/
theorem call_flies {X : Cx} {pins : List (Addr × Obj)} {σ : L2.St} {H : Hp} {s s' : Shared} {E : XK} {u : Value} (I : Inv X pins σ H s) (c : L2.CX X.prog X.w X.stack H s E u s') :
    ∃ (a : Addr) (B : Heap) (sI : Shared) (H' : Hp) (cls : Value) (d : Option Addr), u = .ref a ∧ Inv X pins σ H' sI ∧ (∀ b o, sI.heap.get? b = some o → b ∉ frs X.stack → B.get? b = some o) ∧ sI.heap.UpToSlots s'.heap ∧
      FlyingZ B X.stack a (Zc cls d) s'.heap ∧ H' a = none ∧ s'.os = sI.os ∧ AllBare s'.gens ∧ E cls d H' := by
  obtain ⟨a, B, H', cls, d, rfl, fl, hok, ub, na, os, ag, hE⟩ := c
  obtain ⟨G, g1, g2⟩ := restrict s'.heap fun b => (B.get? b).isSome || decide (b ∈ frs X.stack)
  have gB : ∀ b o, B.get? b = some o → G.get? b = some o := fun b o e => by
    rw [g1 b (by simp [e])]
    exact fl.1 b o e
  have gF : ∀ b, b ∈ frs X.stack → G.get? b = s'.heap.get? b := fun b hb => g1 b (by simp [hb])
  have og : ∀ b o, G.get? b = some o → s'.heap.get? b = some o ∧ ((B.get? b).isSome = true ∨ b ∈ frs X.stack) := fun b o e => by
    cases q : ((B.get? b).isSome || decide (b ∈ frs X.stack)) with
    | false => rw [g2 b q] at e; cases e
    | true =>
      rw [g1 b q] at e
      exact ⟨e, by simpa [Bool.or_eq_true] using q⟩
  have J : Inv X pins σ H' { s with heap := G, gens := s'.gens, drawn := s'.drawn, toks := s'.toks } := by
    refine I.call (ch := []) ⟨fun b o e n hb _ => gB b o (ub.keep b o e n hb), fun b o e n hb _ => ?_, fun b o e n _ => ub.free b o e n, fun b o e _ => ?_, ub.tups, ub.frzs, ub.tbls⟩ (hok.kept gB) ag (fun _ z => nomatch z)
    · obtain ⟨sl, q⟩ := ub.slot b o e hb
      exact ⟨sl, by rw [gF b hb]; exact q⟩
    · by_cases hb : b ∈ frs X.stack
      · obtain ⟨sl, q⟩ := ub.slot b o e hb
        exact ⟨_, by rw [gF b hb]; exact q⟩
      · obtain ⟨o', q⟩ := ub.there b o e hb
        exact ⟨o', gB b o' q⟩
  refine ⟨a, B, _, H', cls, d, rfl, J, fun b o e hb => ?_, Heap.UpToSlots.of_keeps fun b o e => (og b o e).1, fl, na, os, ag, hE⟩
  obtain ⟨e', h⟩ := og b o e
  rcases h with h | h
  · obtain ⟨o', q⟩ := Option.isSome_iff_exists.mp h
    have z := fl.1 b o' q
    rw [e'] at z; cases z
    exact q
  · exact absurd h hb
/-- what stands when one untracked object is forgotten -/
theorem inv_hide {X : Cx} {pins : List (Addr × Obj)} {σ : L2.St} {H : Hp} {s : Shared} {C : Addr} (I : Inv X pins σ H s) (f : FpOk X pins H C) : Inv X pins σ H { s with heap := PySem.W.hideAll s.heap [C] } := by
  refine I.call' (ch := [C]) rfl ⟨fun b o e _ _ hc => PySem.W.hideAll_get _ e hc, fun b o e _ _ hc => ⟨o.slots, PySem.W.hideAll_get _ e hc⟩, fun _ _ _ n _ => n, fun b o e hc => ⟨o, PySem.W.hideAll_get _ e hc⟩, fun _ _ e => e, fun _ _ _ e => e, fun b ps e => ⟨#[], by rw [e]; simp⟩⟩ ?_ I.bare fun b hb => ?_
  · intro b o q
    refine (I.hok b o q).stay (fun c u hc r => PySem.W.hideAll_get _ r fun hm => ?_) (fun _ r => r) fun _ _ r => r
    have hm : c = C := List.mem_singleton.mp hm
    have f0 := f.1
    rw [← hm] at f0
    rcases hc with hc | hc
    · rw [hc, q] at f0; cases f0
    · rw [hc] at f0; cases f0
  · have hb : b = C := List.mem_singleton.mp hb
    subst hb
    exact ⟨f.2.2.2.1, f.2.1, f.2.2.2.2.1, f.2.2.2.2.2⟩
/-- the error leaves the comprehension's block -/
theorem lc_raise {X : Cx} {E : XK} {scope : Scope} {fp : List Addr} {s3 : Shared} {H3 : Hp} {pins pn : List (Addr × Obj)} {σ : L2.St} (hs : X.stack = X.env :: X.outer) (hf : X.env.frame = some X.env.locals) (tk : Takes X (fun cls d _ H => E cls d H)) (I3 : Inv X pins σ H3 s3)
    (f3 : ∀ b ∈ fp, FpOk X pins H3 b) {ce : Env} (hce : ce.frame = X.env.frame) (hcl : ce.locals = s3.heap.objs.size) (σ' : L2.St) :
    PassesAt (L2.CX X.prog X.w) ((X.blk s3 H3 scope ce fp).tr pn (notedBy (model X.prog X.w) X.A ce (CompFails (model X.prog X.w) X.A X.xe ce))) σ' E := by
  intro pins' H s e s' I c
  obtain ⟨a, B, sI, H', cls, d, rfl, Ib, nb, up, fl, na, os, ag, hE⟩ := call_flies I c
  have I7 : Inv X pins σ H' sI := I3.call' (ch := fp) Ib.os Ib.base Ib.hok Ib.bare fun b hb => ⟨(f3 b hb).2.2.2.1, (f3 b hb).2.1, (f3 b hb).2.2.2.2.1, (f3 b hb).2.2.2.2.2⟩
  have nC : H' ce.locals = none := Ib.free
  have fC : FpOk X pins H' ce.locals := I3.fpOk (by rw [hcl]; exact Nat.le_refl _) nC
  have I8 := inv_hide I7 fC
  obtain ⟨m, hn, _⟩ := Ib.loc
  have hn : sI.heap.Ns ce.locals m := hn
  show wpAny _ X.A (noteFrame (.ref a) ce) _ _ s'
  rw [noteFrame_env _ hce]
  have hfr : X.A.frames = some (X.env :: X.outer) := by rw [I3.ok.frames, hs]
  have fl' : FlyingZ B (X.env :: X.outer) a (Zc cls d) s'.heap := by rw [← hs]; exact fl
  refine HandSPX.looks_onZ Zc.steady hfr hf fl' fun h1 hh up1 => ?_
  have hn1 : h1.Ns ce.locals m := up1.ns (up.ns hn)
  refine ⟨m, hn1, fun h2 m2 hn2 sb => ?_⟩
  obtain ⟨b1, b0, f1, oe, vs, T, oT, ts, he, hz, hd, hv, hnT, hTe, hT, hdT, h3⟩ := hh
  obtain ⟨oC, es, ep, hoC, hdC, _⟩ := hn1
  have notC : ∀ {b : Addr} {o : Obj} {vs : Array Value}, h1.get? b = some o → o.data = .fields vs → b ≠ ce.locals := fun {b o vs} e1 e2 z => by
    rw [z, hoC] at e1
    cases e1
    rw [hdC] at e2
    cases e2
  have hideN : ∀ {b : Addr}, B.get? b = none → (PySem.W.hideAll B [ce.locals]).get? b = none := fun {b} e => by
    cases q : (PySem.W.hideAll B [ce.locals]).get? b with
    | none => rfl
    | some o =>
      have z := PySem.W.of_hideAll _ q
      rw [e] at z; cases z
  have hideE : ∀ {b : Addr} {o : Obj} {G : Heap}, (PySem.W.hideAll G [ce.locals]).get? b = some o → b ≠ ce.locals ∧ G.get? b = some o := fun {b o G} e => by
    refine ⟨fun z => ?_, PySem.W.of_hideAll _ e⟩
    rw [PySem.W.hideAll_none [ce.locals] (by rw [z]; exact List.mem_singleton.mpr rfl)] at e
    cases e
  have held : HeldZ (PySem.W.hideAll B [ce.locals]) (X.env :: X.outer) a (Zc cls d) X.env.locals h2 := by
    refine ⟨fun b o e => ?_, hideN b0, funFrames_none (Heap.FunFrames.sameBut sb hn2 f1) fun L hL => hideN (f1.mem hL).1, oe, vs, T, oT, ts, (sb.2 a (notC he hd)).trans he, hz, hd, hv, hideN hnT, hTe, (sb.2 T (notC hT hdT)).trans hT, hdT, h3⟩
    obtain ⟨e1, e2⟩ := hideE e
    exact (sb.2 b e1).trans (b1 b o e2)
  unfold PySem.passOn
  refine wpAny_bind (wpAny_field ((sb.2 a (notC he hd)).trans he) hd hv ?_)
  rw [if_neg (show ¬ ((Value.ref T == Value.none) = true) from by simp)]
  have fin : wpAny (model X.prog X.w) X.A (setFlight (.ref a) ce.frame) (fun _ s4 => wpAny (model X.prog X.w) X.A (throw (.ref a) : Sem Value) (fun _ _ => False) X.xe s4) X.xe { s' with heap := h2 } := by
    rw [hce, hf]
    refine HandSPX.setFlight_onZ held fun h4 hh4 up4 => wpAny_throw (tk _ _ ?_)
    refine ⟨a, PySem.W.hideAll B [ce.locals], { sI with heap := PySem.W.hideAll sI.heap [ce.locals] }, pins, σ, H', cls, d, rfl, I8, fun b o e hb => ?_, fun b o e hnf => ?_, .inr (.inr (by rw [hs]; exact hh4)), na, os, ag, hE⟩
    · obtain ⟨e1, e2⟩ := hideE e
      exact PySem.W.hideAll_get _ (nb b o e2 hb) fun z => e1 (List.mem_singleton.mp z)
    · obtain ⟨e1, e2⟩ := hideE e
      obtain ⟨sl1, q1⟩ := up b o e2 hnf
      obtain ⟨sl2, q2⟩ := up1 b _ q1 hnf
      obtain ⟨sl3, q3⟩ := up4 b _ ((sb.2 b e1).trans q2) hnf
      exact ⟨sl3, q3⟩
  first
    | exact wpAny_bind (wpAny_pure (wpAny_bind fin))
    | exact wpAny_bind fin
/-- name = [f(x) for x in ..], f a def that may let errors out -/
theorem ps_setLcX {X : Cx} {E : XK} {i : Nat} {y : Str} {py : Pos} {elt tg iter : Expr} {scope : Scope} {own : List (Str × Nat)} {pos spos : Pos} {wi : TI} {g : TG} {te : TE} (hst : X.stack = X.env :: X.outer) (hf : X.env.frame = some X.env.locals) (tk : Takes X (fun cls d _ H => E cls d H))
    (hc : X.calm = true) (hN : X.N.Nodup) (hy : X.N[i]? = some y) (hyl : X.env.scope.names.lookup y = some .local)
    (hsw : swapsWith (.ListComp elt [⟨tg, iter, [], 0⟩] scope pos) (some (.Name y py)) spos.line X.env = pure true) (hi : PI X tg iter wi) (ok : BlkOk X.N X.env.scope scope own)
    (hg : ∀ (s : Shared) (H : Hp) (C : Addr) (cl : List (Str × Addr)) (fp : List Addr), PG (X.blk s H scope (compEnvC scope cl C X.env) fp) tg g)
    (he : ∀ (s : Shared) (H : Hp) (C : Addr) (cl : List (Str × Addr)) (fp : List Addr) (pn : List (Addr × Obj)) (xe : Value → Shared → Prop), (∀ σ', PassesAt (L2.CX X.prog X.w) ((X.blk s H scope (compEnvC scope cl C X.env) fp).tr pn xe) σ' E) → PE ((X.blk s H scope (compEnvC scope cl C X.env) fp).tr pn xe) elt te)
    (hs : ∀ x, foldedSetIterable iter X.env x = pure x := by intro _; rfl) :
    PS X (.Assign [.Name y py] (.ListComp elt [⟨tg, iter, [], 0⟩] scope pos) spos) (tAsg (tLc wi g tYes te (own.map (·.2))) (gName i)) := by
  refine ⟨fun pins s σ H Dn I h => ?_⟩
  rw [exec_Assign_Name_used _ _ _ _ hsw]
  refine wpAny_bind (wpAny_standAt (wpAny_bind ?_))
  show wpAny _ X.A (do let _ ← comprehension (.ListComp elt [⟨tg, iter, [], 0⟩] scope pos) scope X.env (firstIterPos [⟨tg, iter, [], 0⟩] pos) (newList []) false (eval iter X.env) (some (assign (.Name y py) X.env))) _ _ s
  have h : tLc wi g tYes te (own.map (·.2)) σ H (fun x H1 => gName i x σ H1 Dn.nx) := h
  have hfree : ∀ y ∈ scope.names, y.2 = .free → ∃ c, X.env.cells.lookup y.1 = some c := fun y hy e => by
    rcases ok.free y hy e with k | k
    · exact I.ok.has _ (.inl k)
    · exact I.ok.has _ (.inr k)
  refine wpAny_bind (thn (Q := fun _ s' => SP X pins Dn .next s') ?_ fun _ s' hq => wpAny_pure (wpAny_pure hq))
  refine comprehension_at (use := some (assign (.Name y py) X.env)) rfl hs (closure_ok hfree) ok.kind (fun y hy e => by rw [ok.uniq y hy, e])
    (thn (hi.run pins s σ H _ I h) fun xv s1 hx => thn hx fun itv s2 h2 => ?_)
  obtain ⟨it, fp, tn, J, H2, rfl, I2, T, st2, f2, q⟩ := h2
  refine wpAny_newObj_type (newEnv_comp ?_) (by show 0 ≤ sizeLine; decide)
  generalize hD : s2.heap.objs.size = D
  have hDn : H2 D = none := I2.hok.fresh (Nat.le_of_eq hD)
  obtain ⟨W, ⟨m0, w0⟩, turn⟩ := q D hDn
  generalize hs3 : ({ s2 with heap := s2.heap.push { cls := .type "list", data := .seq ([] : List Value).toArray } } : Shared) = s3
  have I3 : Inv X pins σ (upd H2 D (.lst [])) s3 := by
    rw [← hs3]
    refine I2.laid (t' := s2.toks) (fun b o e => Heap.get?_push_of_some _ e) (Nat.le_of_eq hD) ⟨Nat.zero_le _, [], 0, .nil, ?_⟩
    rw [← hD]
    exact Heap.get?_push_size _ rfl
  have h3 : s3.heap = s2.heap.push { cls := .type "list", data := .seq ([] : List Value).toArray } := by rw [← hs3]
  have f3 : ∀ b ∈ fp, FpOk X pins (upd H2 D (.lst [])) b ∧ b < s3.heap.objs.size := fun b hb => by
    obtain ⟨o, e, _⟩ := T.obj _ _ st2 b hb
    have hlt := Heap.lt_size e
    refine ⟨⟨?_, (f2 b hb).2⟩, by rw [h3, Heap.size_push]; exact Nat.lt_succ_of_lt hlt⟩
    rw [upd_ne (by rw [← hD]; exact Nat.ne_of_lt hlt)]
    exact (f2 b hb).1
  have st3 : tn 0 s3.heap := T.keep _ _ _ st2 fun b _ o e => by rw [h3]; exact Heap.get?_push_of_some _ e
  have I4 := block_start I3 ok hN f3
  generalize hH3 : upd H2 D (.lst []) = H3 at I3 I4 w0 f3
  have nfp : ∀ b ∈ fp, H3 b = none := fun b hb => (f3 b hb).1.1
  have pg := hg s3 H3 s3.heap.objs.size (cellsFrom (s3.heap.objs.size + 1) scope.names (cloFrom X.env.cells scope.names [])) fp
  have pe := fun pn xe => he s3 H3 s3.heap.objs.size (cellsFrom (s3.heap.objs.size + 1) scope.names (cloFrom X.env.cells scope.names [])) fp pn xe
  show codeAny _ _ (.compStart (.ListComp elt [⟨tg, iter, [], 0⟩] scope pos) 0 (.ref it) (.ref D) (compEnvC scope (cellsFrom (s3.heap.objs.size + 1) scope.names (cloFrom X.env.cells scope.names [])) s3.heap.objs.size X.env))
    (compEnds (model X.prog X.w) X.A X.xe (some (assign (.Name y py) X.env)) (fun _ s' => SP X pins Dn .next s') (.ref D) (compEnvC scope (cellsFrom (s3.heap.objs.size + 1) scope.names (cloFrom X.env.cells scope.names [])) s3.heap.objs.size X.env)) { s3 with heap := pushCells (s3.heap.push { cls := .type "dict", data := .dict #[] }) scope.names }
  have cF : (compEnvC scope (cellsFrom (s3.heap.objs.size + 1) scope.names (cloFrom X.env.cells scope.names [])) s3.heap.objs.size X.env).frame = X.env.frame := rfl
  generalize hce : compEnvC scope (cellsFrom (s3.heap.objs.size + 1) scope.names (cloFrom X.env.cells scope.names [])) s3.heap.objs.size X.env = ce at I4 pg pe cF ⊢
  have cL : ce.locals = s3.heap.objs.size := by subst hce; rfl
  generalize hs4 : ({ s3 with heap := pushCells (s3.heap.push { cls := .type "dict", data := .dict #[] }) scope.names } : Shared) = s4 at I4 ⊢
  have st4 : tn 0 s4.heap := T.keep _ _ _ st3 fun b _ o e => by rw [← hs4]; exact pushCells_keeps _ _ _ _ (Heap.get?_push_of_some _ e)
  have stat : ∀ {σ' : L2.St} {H' : Hp} {s' : Shared}, Inv (X.blk s3 H3 scope ce fp) [] σ' H' s' → (∀ b ∈ fp, H' b = none) → ∀ b ∈ fp, FpOk (X.blk s3 H3 scope ce fp) [] H' b := fun {σ' H' s'} I' hn b hb =>
    ⟨hn b hb, (I'.ok.exf b hb).1, I'.ok.exfs b hb, .inl hb, fun x c e => (I'.ok.exf b hb).2 x c e, fun p hp => absurd (show p ∈ ([] : List (Addr × Obj)) ++ [] from hp) (by simp)⟩
  have loop : codeAny (model X.prog X.w) X.A (.compLoop (.ListComp elt [⟨tg, iter, [], 0⟩] scope pos) 0 (.ref it) (.ref D) ce) (compEnds (model X.prog X.w) X.A X.xe (some (assign (.Name y py) X.env)) (fun _ s' => SP X pins Dn .next s') (.ref D) ce) s4 := by
    refine compLoop_any (fun n s' => ∃ i H', Inv (X.blk s3 H3 scope ce fp) [] (wipe σ (own.map (·.2))) H' s' ∧ tn i s'.heap ∧ (∀ b ∈ fp, H' b = none) ∧ W i n H') ?_ m0 ⟨0, H3, I4, st4, nfp, w0⟩
    rintro n s5 ⟨j, H5, I5, st5, n5, w5⟩
    rcases turn j n H5 w5 with ⟨stop, qq⟩ | ⟨go, Nx, hNx, step⟩
    · -- the end: the list goes to its name
      refine thnF (T.done (X.blk s3 H3 scope ce fp) rfl rfl rfl hc j [] s5 _ H5 (fun _ _ => False) I5 (stat I5 n5) st5 stop) fun r s6 ⟨hr, I6⟩ => ?_
      subst hr
      have I7 : Inv X pins σ H5 s6 := I3.call' (ch := fp) I6.os I6.base I6.hok I6.bare fun b hb => ⟨(f3 b hb).1.2.2.2.1, (f3 b hb).1.2.1, (f3 b hb).1.2.2.2.2.1, (f3 b hb).1.2.2.2.2.2⟩
      have nC : H5 ce.locals = none := I6.free
      obtain ⟨m, hn, _⟩ := I6.loc
      have hn : s6.heap.Ns ce.locals m := hn
      show wpAny _ _ (assign (.Name y py) X.env (.ref D)) _ _ _
      obtain ⟨g0, g1, g2, g3, g4, g5⟩ := I3.fpOk (b := ce.locals) (H' := H5) (by rw [cL]; exact Nat.le_refl _) nC
      refine wpAny_assign_Name (store_ok2 (v := V.ref D) I7 hN hy (.inl hyl) rfl (fun s7 I8 ⟨b, sb, hb⟩ => ?_) (.inr hyl))
      have hbC : ce.locals ≠ b := by
        rcases hb with z | z
        · rw [z]; exact g1
        · exact fun e => g4 y b z e.symm
      refine ⟨m, hn.sameBut sb hbC, fun h8 sb8 => ?_⟩
      exact ⟨_, H5, I8.turned (t' := s7.toks) (fun b o hb e => (sb8.2 b hb).trans e) g0 g1 g3 g4 g5, qq⟩
    · refine thnF (T.item (X.blk s3 H3 scope ce fp) rfl rfl rfl hc j [] s5 _ H5 (fun _ _ => False) I5 (stat I5 n5) st5 go) fun r s6 ⟨u, hr, h6⟩ => ?_
      subst hr
      refine thnF h6 fun _ s7 ⟨x, H7, I7, r7, y7, st7, n7⟩ => ?_
      have I7' := I7.pinned (stat I7 n7) (T.obj _ _ st7)
      refine thnF (pg.run _ s7 _ H7 x u _ I7' r7 (step x H7 y7)) fun _ s8 ⟨σ8, H8, I8, hw8, q8⟩ => ?_
      have q8 : te σ8 H8 fun z H4 => ∃ acc, H4 D = some (.lst acc) ∧ acc.length < sizeLine ∧ Nx (upd H4 D (.lst (acc ++ [z]))) := by
        have q9 := q8
        simp only [tYes, if_true] at q9
        exact q9
      refine wpAny_tests_nil ?_
      rw [if_pos rfl]
      have fin : ∀ {s' : Shared} {H' : Hp}, Inv (X.blk s3 H3 scope ce fp) ([] ++ pinsAt fp s7.heap) σ8 H' s' → Nx H' → ∃ m, m < n ∧ ∃ i H', Inv (X.blk s3 H3 scope ce fp) [] (wipe σ (own.map (·.2))) H' s' ∧ tn i s'.heap ∧ (∀ b ∈ fp, H' b = none) ∧ W i m H' := fun {s' H'} I' nx => by
        obtain ⟨m', hm, w'⟩ := hNx H' nx
        have pin' : ∀ b ∈ fp, ∀ o, s7.heap.get? b = some o → s'.heap.get? b = some o ∧ H' b = none := fun b hb o e =>
          let z := I'.pin (b, o) (List.mem_append_right _ (List.mem_append_right _ (mem_pinsAt hb e)))
          ⟨z.1, z.2.1⟩
        have hl : (wipe σ (own.map (·.2))).length = σ8.length := by rw [← hw8, wipe_length]
        refine ⟨m', hm, j + 1, H', (I'.unpinned (pins := [])).weak hl (fun k v e => ?_), T.keep _ _ _ st7 fun b hb o e => (pin' b hb o e).1, fun b hb => ?_, w'⟩
        · rw [← hw8] at e
          exact (wipe_some e).1
        · obtain ⟨o, e, _⟩ := T.obj _ _ st7 b hb
          exact (pin' b hb o e).2
      -- the element, in a context that takes its error
      have okB := I8.ok
      refine wpAny_mono ((pe _ (notedBy (model X.prog X.w) X.A ce (CompFails (model X.prog X.w) X.A X.xe ce)) (fun σ' => lc_raise hst hf tk I3 (fun b hb => (f3 b hb).1) cF cL σ')).run [] s8 σ8 H8 _ (I8.toTry _) q8) (fun z s10 hz => ?_) fun _ _ z => z
      obtain ⟨yv, H10, I10, r10, acc, hD10, hz10, nx⟩ := hz
      exact app_ok (X := X.blk s3 H3 scope ce fp) (I10.ofTry okB) hD10 hz10 r10 fun s11 I11 => fin I11 nx
  exact codeAny_compStart_list loop (T.self X.A 0 _ _ _ st4 loop)
end

/-! ### a text so many times -/
def rRepS : R2 := fun x y H Q => ∃ (z : Str) (k : Int), x = .str z ∧ y = .int k ∧ z.length ≤ 10 ∧ z.length ≠ 0 ∧ 2 ≤ k ∧ k ≤ 1000 ∧ ∀ z' : Str, z'.length = z.length * k.toNat → Q (.str z') H
theorem foldl_size (a : Array Nat) : ∀ (n : Nat) (acc : Array Nat), ((List.replicate n a).foldl (· ++ ·) acc).size = acc.size + n * a.size
  | 0, acc => by simp
  | n + 1, acc => by
    rw [List.replicate_succ, List.foldl_cons, foldl_size a n, Array.size_append, Nat.add_mul]
    omega
theorem op_rep_str {X : Cx} : OpR X (binaryOp .Mult) rRepS := by
  intro pins s σ H x y v u Q I rx ry h
  obtain ⟨z, k, rfl, rfl, hz, hz0, h1, h2, q⟩ := h
  obtain ⟨t, rfl⟩ := rx
  obtain ⟨t', rfl⟩ := ry
  have hk1 : (k == 1) = false := by simp; omega
  have hz1 : (z.length == 0) = false := by simpa using hz0
  have hlen : ((List.replicate k.toNat z.cps).foldl (· ++ ·) #[]).size = z.length * k.toNat := by
    rw [foldl_size]
    show 0 + k.toNat * z.length = _
    rw [Nat.zero_add, Nat.mul_comm]
  have hb : z.length * k.toNat ≤ 10 * 1000 := Nat.mul_le_mul hz (by omega)
  refine PySem.P.mul_str ?_ (fun _ _ => ?_) (fun _ _ => ?_) ?_
  · rw [decide_eq_false (by omega), decide_eq_false (by omega)]
    rfl
  · have : 10 ≤ (2 ^ 63 - 1) / k := (Int.le_ediv_iff_mul_le (by omega)).mpr (by omega)
    omega
  · show decide (_ > _) = false
    exact decide_eq_false (by have := sizeLine_eq; omega)
  · rw [if_neg (by omega), hk1, hz1, if_neg (by decide)]
    refine ⟨?_, ⟨.str ⟨(List.replicate k.toNat z.cps).foldl (· ++ ·) #[]⟩, H, I.tok _, ⟨_, rfl⟩, q _ hlen⟩⟩
    show ((List.replicate k.toNat z.cps).foldl (· ++ ·) #[]).size ≤ _
    rw [hlen, sizeLine_eq]
    omega
theorem d_repS {c : Nat} {k : Int} {H : Hp} {Q : VK} (h3 : 2 ≤ k) (h4 : k ≤ 1000) (q : ∀ b : List Nat, (b.length : Int) = k → Q (tV b) H) : rRepS (tV [c]) (.int k) H Q :=
  ⟨_, k, rfl, rfl, by rw [SX.S_len]; show 1 ≤ 10; decide, by rw [SX.S_len]; show 1 ≠ 0; decide, h3, h4, fun z hz => by
    rw [SX.S_len] at hz
    have hz : z.length = 1 * k.toNat := hz
    have := q z.cps.toList (by rw [show z.cps.toList.length = z.length from Array.length_toList, hz]; omega)
    rw [show tV z.cps.toList = .str z from congrArg V.str (SX.S_tl _)] at this
    exact this⟩

local macro_rules | `(tactic| walk_at "ps") => `(tactic| first
  | assumption
  | (apply PrS.mono; (· assumption); walk_at "ps")
  | fail "ps")
local macro_rules | `(tactic| walk_at "pr") => `(tactic| first
  | assumption
  | (apply PrS.pr; assumption)
  | exact Pr.of (by assumption)
  | (apply Pr.mono; (· assumption); walk_at "pr")
  | (apply Exb.pr; (· assumption); (· walk_at "hl"); walk_at "pr")
  | fail "pr")
local macro_rules | `(tactic| walk_at "ex") => `(tactic| first
  | exact Ex.refl _
  | assumption
  | exact Ex.new (by assumption)
  | (refine Ex.trans ?_ (by assumption); walk_at "ex")
  | (apply Exb.base; (· assumption); (· walk_at "fr"); walk_at "ex")
  | fail "ex")
local macro_rules | `(tactic| walk_at "fr") => `(tactic| first
  | assumption
  | (apply fresh_back; rotate_left; (· assumption); walk_at "ex")
  | fail "fr")
local macro_rules | `(tactic| walk_at "hl") => `(tactic| first
  | assumption
  | (apply Ex.at; (· assumption); walk_at "hl")
  | fail "hl")
local macro_rules | `(tactic| walk_at "len") => `(tactic| first
  | (exact sz_lt (by omega))
  | (exact sz_lt (by simp; omega))
  | (exact sz_lt (by simp))
  | assumption
  | fail "len")
local macro_rules | `(tactic| walk_at "sz") => `(tactic| first
  | omega
  | (simp; omega)
  | (simp; done)
  | fail "sz")
local macro_rules | `(tactic| walk_at "at") => `(tactic| first
  | assumption
  | exact rfl
  | exact at_int (by assumption)
  | fail "at")
local macro_rules | `(tactic| walk_at "sl") => `(tactic| first
  | assumption
  | exact sq_of (by assumption)
  | (apply ex_l; (· assumption); walk_at "sl")
  | fail "sl")
local macro_rules | `(tactic| walk_at "st") => `(tactic| first
  | assumption
  | exact st_of (by assumption)
  | (apply ex_t; (· assumption); walk_at "st")
  | fail "st")
local macro_rules | `(tactic| walk_at "tb") => `(tactic| first
  | assumption
  | exact ⟨_, _, rfl, sq_of (by assumption), by assumption⟩
  | exact Tb.nil (by assumption)
  | (apply Tb.mono; (· assumption); walk_at "tb")
  | fail "tb")
local macro_rules | `(tactic| walk_at "nx") => `(tactic| ((try with_reducible refine d_gName ?_); (try dsimp only [List.set, wipe])))
local macro_rules | `(tactic| walk_at "side") => `(tactic| first
  | assumption
  | exact divW (by omega) (by omega)
  | (show (0 : Int) < _; omega)
  | exact mulW ⟨by omega, by omega⟩ ⟨by omega, by omega⟩
  | exact ⟨by decide, by decide, by decide⟩
  | decide
  | omega
  | fail "side")
local macro_rules | `(tactic| walk_at "bd") => `(tactic| first
  | assumption
  | exact ⟨by omega, by omega⟩
  | fail "bd")
local macro_rules | `(tactic| walk_at "gd") => `(tactic| first
  | assumption
  | exact ⟨by omega, by omega⟩
  | fail "gd")
local macro_rules | `(tactic| walk_at "ty") => `(tactic| first
  | exact ty_int
  | exact ty_bl
  | exact ty_str
  | exact ty_non
  | (apply ty_list; walk_at "sl")
  | (apply ty_pr; walk_at "pr")
  | (apply ty_tup; walk_at "st")
  | fail "ty")
local macro_rules | `(tactic| walk_at "lit") => `(tactic| first
  | (with_reducible exact lit_e)
  | (with_reducible exact lit_b)
  | (with_reducible exact lit_s)
  | (with_reducible exact lit_0)
  | (with_reducible exact lit_f)
  | (with_reducible exact lit_sig)
  | (with_reducible exact lit_52)
  | (with_reducible exact lit_bb)
  | (with_reducible exact lit_t)
  | (with_reducible exact lit_n)
  | (with_reducible exact lit_bn)
  | (with_reducible exact lit_00)
  | (with_reducible exact lit_1)
  | fail "lit")
local macro_rules | `(tactic| walk_at "spcall") => `(tactic| fail)
local macro_rules | `(tactic| walk_at "go1") => `(tactic| (first
  | ((with_reducible apply d_var); (· exact rfl))
  | ((with_reducible apply d_cT); (· walk_at "lit"))
  | (with_reducible refine d_c ?_)
  | (with_reducible refine d_op ?_)
  | (with_reducible refine d_un ?_)
  | (with_reducible refine d_pow30 ?_)
  | (with_reducible refine d_pow20 ?_)
  | (with_reducible refine d_pow9 ?_)
  | (with_reducible refine d_rI0 ?_)
  | ((with_reducible refine d_rI ?_ ?_); (· walk_at "side"))
  | (with_reducible refine d_rU ?_)
  | (with_reducible refine d_eqI ?_)
  | (with_reducible refine d_neI ?_)
  | (with_reducible refine d_eqSS ?_)
  | (with_reducible refine d_neSS ?_)
  | ((with_reducible apply d_addT); (· walk_at "sz"))
  | ((with_reducible apply d_lenStr); (· walk_at "sz"))
  | ((with_reducible apply d_strI); (· omega); (· omega))
  | ((with_reducible apply d_ixS); (· walk_at "sz"); (· walk_at "at"))
  | (with_reducible refine d_inS ?_)
  | (with_reducible refine d_notInS ?_)
  | ((with_reducible apply d_eqDS); (· decide +kernel); (· decide +kernel))
  | (with_reducible refine d_eqDI ?_)
  | ((with_reducible apply d_min2L); (· walk_at "sl"))
  | ((with_reducible apply d_eqNil); (· walk_at "sl"); (· walk_at "sl"))
  | (with_reducible refine d_m1 ?_)
  | (with_reducible refine d_rM1 ?_)
  | ((with_reducible apply d_rSplit); (· decide); (· walk_at "sz"); intro _ _ _ _ _)
  | (with_reducible refine d_eqS ?_)
  | (with_reducible refine d_neS ?_)
  | (with_reducible refine d_eqB ?_)
  | (with_reducible refine d_nil ?_)
  | (with_reducible refine d_cons ?_)
  | (with_reducible refine d_tup ?_)
  | (with_reducible refine d_lst ?_)
  | ((with_reducible refine d_newP ?_); intro _ _ _ _)
  | ((with_reducible refine d_newT ?_ ?_); (· (simp; done)); intro _ _ _ _ _)
  | ((with_reducible refine d_newL ?_ ?_); (· (simp; done)); intro _ _ _ _ _)
  | (with_reducible refine d_call ?_)
  | (with_reducible refine d_cb ?_)
  | ((with_reducible apply d_maxT); (· walk_at "pr"))
  | ((with_reducible apply d_minT); (· walk_at "pr"))
  | (with_reducible refine d_max2 ?_)
  | (with_reducible refine d_min2 ?_)
  | ((with_reducible apply d_ixP0); (· walk_at "pr"))
  | ((with_reducible apply d_ixP1); (· walk_at "pr"))
  | ((with_reducible apply d_ixL); (· walk_at "sl"); (· walk_at "at"))
  | ((with_reducible apply d_ixT); (· walk_at "st"); (· walk_at "at"))
  | ((with_reducible apply d_eqP); (· walk_at "pr"); (· walk_at "pr"))
  | ((with_reducible apply d_neP); (· walk_at "pr"); (· walk_at "pr"))
  | ((with_reducible apply d_eqT); (· walk_at "tb"); (· walk_at "tb"))
  | ((with_reducible apply d_neT); (· walk_at "tb"); (· walk_at "tb"))
  | ((with_reducible apply d_listT); (· walk_at "tb"); intro _ _ _ _ _ _ _ _)
  | ((with_reducible apply d_listL); (· walk_at "sl"); intro _ _ _ _ _)
  | ((with_reducible apply d_lenT); (· walk_at "tb"))
  | ((with_reducible apply d_ixTb); (· walk_at "tb"); (· assumption); intro _ _)
  | ((with_reducible apply d_len); (· walk_at "sl"))
  | ((with_reducible apply d_lenP); (· walk_at "pr"))
  | ((with_reducible apply d_sum); (· walk_at "sl"))
  | (with_reducible refine d_dnot ?_)
  | (with_reducible refine d_dget ?_)
  | (with_reducible refine d_dput ?_)
  | ((with_reducible refine d_dnew ?_); intro _ _ _ _ _)
  | ((with_reducible apply d_rDNot); (· walk_at "hl"); (· walk_at "ps"))
  | (with_reducible refine d_neB ?_)
  | (with_reducible refine d_sl ?_)
  | (with_reducible refine d_noPart ?_)
  | (with_reducible refine d_part ?_)
  | (with_reducible refine d_rPart ?_)
  | ((with_reducible apply d_slTake); (· walk_at "tb"); (· omega); intro _ _ _ _ _ _ _)
  | ((with_reducible apply d_slDrop); (· walk_at "tb"); (· omega); intro _ _ _ _ _ _ _)
  | ((with_reducible apply d_slL); (· walk_at "sl"); intro _ _ _ _ _)
  | ((with_reducible apply d_slS); (· walk_at "sz"); intro _ _)
  | ((with_reducible apply d_cat); (· walk_at "hl"); (· walk_at "hl"); (· walk_at "sz"); intro _ _ _ _ _)
  | ((with_reducible apply d_inP); (· walk_at "pr"); (· walk_at "tb"))
  | ((with_reducible apply d_notInP); (· walk_at "pr"); (· walk_at "tb"))
  | (with_reducible refine d_lenSet ?_)
  | ((with_reducible apply d_rLenSet); (· walk_at "sl"); (· assumption); (· assumption))
  | ((with_reducible apply d_inI); (· walk_at "sl"))
  | ((with_reducible apply d_notInI); (· walk_at "sl"))
  | (with_reducible refine d_isNn ?_)
  | (with_reducible refine d_notNn ?_)
  | (with_reducible refine d_intB ?_)
  | ((with_reducible apply d_isi); (· walk_at "ty"); (· first | exact k_ii | exact k_ib | exact k_bb | exact k_ll | exact k_tt | exact k_ss | exact k_ls))
  | (with_reducible refine d_callS ?_)
  | ((with_reducible apply d_isE); (· assumption))
  | ((with_reducible apply d_isEV); (· assumption))
  | ((with_reducible apply d_rCntF); (· walk_at "sl"); (· exact rfl); (· exact rfl))
  | walk_at "spcall"
  | (with_reducible refine d_bmL ?_)
  | ((with_reducible apply d_rBmL); (· walk_at "sl"))
  | ((with_reducible apply d_append); (· walk_at "hl"); (· walk_at "len"); intro _ _ _)
  | (with_reducible refine d_seq ?_)
  | (with_reducible refine d_asg ?_)
  | (with_reducible refine d_asgG ?_)
  | ((with_reducible apply d_gTupP); (· walk_at "pr"))
  | (with_reducible refine d_gSub ?_)
  | ((with_reducible apply d_gTup2); (· walk_at "st"))
  | (with_reducible refine d_ret ?_)
  | (with_reducible refine d_retN ?_)
  | (with_reducible refine d_drop ?_)
  | (with_reducible refine d_next ?_)
  | (with_reducible refine d_par ?_)
  | (with_reducible refine d_rPar ?_)
  | fail "go1"); walk_at "nx")
local macro_rules | `(tactic| walk_at "go") => `(tactic| repeat walk_at "go1")
/- an expression's value -/
local macro_rules | `(tactic| walk_at "ev") => `(tactic| first
  | ((with_reducible apply ev_andV); (· walk_at "ev"); (· intro hb; (try simp only [Bool.and_eq_true, Bool.or_eq_true, decide_eq_true_eq, Bool.not_eq_true', decide_eq_false_iff_not, Bool.or_eq_false_iff, Bool.not_eq_false', Bool.not_eq_false, Bool.not_eq_true] at hb) ; walk_at "ev"))
  | ((with_reducible apply ev_orV); (· walk_at "ev"); (· intro hb; (try simp only [Bool.and_eq_true, Bool.or_eq_true, decide_eq_true_eq, Bool.not_eq_true', decide_eq_false_iff_not, Bool.or_eq_false_iff, Bool.not_eq_false', Bool.not_eq_false, Bool.not_eq_true] at hb) ; walk_at "ev"))
  | ((with_reducible apply ev_notV); walk_at "ev")
  | ((with_reducible apply ev_chain); (· walk_at "ev"); (· walk_at "ev"); (· walk_at "ev"))
  | ((with_reducible apply ev_intro); intro _ _ _ q; walk_at "nx"; walk_at "go"; exact q _ (by walk_at "ex"))
  | fail "ev")
/- a test's -/
local macro_rules | `(tactic| walk_at "et") => `(tactic| first
  | ((with_reducible apply et_and); (· walk_at "et"); (· intro hb; (try simp only [Bool.and_eq_true, Bool.or_eq_true, decide_eq_true_eq, Bool.not_eq_true', decide_eq_false_iff_not, Bool.or_eq_false_iff, Bool.not_eq_false', Bool.not_eq_false, Bool.not_eq_true] at hb) ; walk_at "et"))
  | ((with_reducible apply et_or); (· walk_at "et"); (· intro hb; (try simp only [Bool.and_eq_true, Bool.or_eq_true, decide_eq_true_eq, Bool.not_eq_true', decide_eq_false_iff_not, Bool.or_eq_false_iff, Bool.not_eq_false', Bool.not_eq_false, Bool.not_eq_true] at hb) ; walk_at "et"))
  | ((with_reducible apply et_not); walk_at "et")
  | ((with_reducible apply et_test); walk_at "ev")
  | ((with_reducible apply et_B); walk_at "ev")
  | fail "et")
local macro_rules | `(tactic| walk_at "if") => `(tactic| ((with_reducible apply d_if); (· walk_at "et")))
local macro_rules | `(tactic| walk_at "ea") => `(tactic| first
  | exact ea_nil
  | ((with_reducible apply ea_cons); (· walk_at "ev"); walk_at "ea")
  | fail "ea")
local macro_rules | `(tactic| walk_at "eu") => `(tactic| (apply eu_tup; (· walk_at "ea"); (· simp)))
local macro_rules | `(tactic| walk_at "el") => `(tactic| (apply el_lst; (· walk_at "ea"); (· simp)))

def topS (i : Nat) : Stmt := PySem.Challenge.pw_takepairs_k16_read.main.body.getD i (.Pass ⟨0, 0, 0, 0⟩)
abbrev s_asked_pair : Stmt := topS 9
abbrev s_number_of : Stmt := topS 15
abbrev s__law_cell_at : Stmt := topS 19
abbrev s__law_word_of : Stmt := topS 20
abbrev s__law_pile_by : Stmt := topS 21
abbrev s__law_spoilt : Stmt := topS 24
abbrev s__law_number : Stmt := topS 25
abbrev s_asked_table : Stmt := topS 12
abbrev s_pair_of : Stmt := topS 16
abbrev s__law_pair_by : Stmt := topS 22
abbrev s__law_due : Stmt := topS 26
abbrev s_read : Stmt := topS 17
abbrev s__law_table_by : Stmt := topS 23
abbrev s__law_tried : Stmt := topS 27
abbrev s_law : Stmt := topS 28
structure Txt (K : PySem.W.Frag) (mg : Str → Option Value) (cs : Cs) : Prop where
  x_TakeError : Xc K mg "TakeError" cs.TakeError
  x_NoPair : Xc K mg "NoPair" cs.NoPair
  x_NoTable : Xc K mg "NoTable" cs.NoTable
  x_NoMove : Xc K mg "NoMove" cs.NoMove
  x_TooLong : Xc K mg "TooLong" cs.TooLong
  x_NoNote : Xc K mg "NoNote" cs.NoNote
  m_NoPair : PySem.W.exmOne K (.ref cs.NoPair) (.ref cs.TakeError) = some true
  m_NoTable : PySem.W.exmOne K (.ref cs.NoTable) (.ref cs.TakeError) = some true
  m_NoMove : PySem.W.exmOne K (.ref cs.NoMove) (.ref cs.TakeError) = some true
  m_TooLong : PySem.W.exmOne K (.ref cs.TooLong) (.ref cs.TakeError) = some true
  m_NoNote : PySem.W.exmOne K (.ref cs.NoNote) (.ref cs.TakeError) = some true
  k_NoPair_NoPair : PySem.W.kitOne K (.ref cs.NoPair) (.ref cs.NoPair) = some true
  k_NoPair_NoTable : PySem.W.kitOne K (.ref cs.NoPair) (.ref cs.NoTable) = some false
  k_NoPair_NoMove : PySem.W.kitOne K (.ref cs.NoPair) (.ref cs.NoMove) = some false
  k_NoPair_TooLong : PySem.W.kitOne K (.ref cs.NoPair) (.ref cs.TooLong) = some false
  k_NoPair_NoNote : PySem.W.kitOne K (.ref cs.NoPair) (.ref cs.NoNote) = some false
  k_NoTable_NoPair : PySem.W.kitOne K (.ref cs.NoTable) (.ref cs.NoPair) = some false
  k_NoTable_NoTable : PySem.W.kitOne K (.ref cs.NoTable) (.ref cs.NoTable) = some true
  k_NoTable_NoMove : PySem.W.kitOne K (.ref cs.NoTable) (.ref cs.NoMove) = some false
  k_NoTable_TooLong : PySem.W.kitOne K (.ref cs.NoTable) (.ref cs.TooLong) = some false
  k_NoTable_NoNote : PySem.W.kitOne K (.ref cs.NoTable) (.ref cs.NoNote) = some false
  k_NoMove_NoPair : PySem.W.kitOne K (.ref cs.NoMove) (.ref cs.NoPair) = some false
  k_NoMove_NoTable : PySem.W.kitOne K (.ref cs.NoMove) (.ref cs.NoTable) = some false
  k_NoMove_NoMove : PySem.W.kitOne K (.ref cs.NoMove) (.ref cs.NoMove) = some true
  k_NoMove_TooLong : PySem.W.kitOne K (.ref cs.NoMove) (.ref cs.TooLong) = some false
  k_NoMove_NoNote : PySem.W.kitOne K (.ref cs.NoMove) (.ref cs.NoNote) = some false
  k_TooLong_NoPair : PySem.W.kitOne K (.ref cs.TooLong) (.ref cs.NoPair) = some false
  k_TooLong_NoTable : PySem.W.kitOne K (.ref cs.TooLong) (.ref cs.NoTable) = some false
  k_TooLong_NoMove : PySem.W.kitOne K (.ref cs.TooLong) (.ref cs.NoMove) = some false
  k_TooLong_TooLong : PySem.W.kitOne K (.ref cs.TooLong) (.ref cs.TooLong) = some true
  k_TooLong_NoNote : PySem.W.kitOne K (.ref cs.TooLong) (.ref cs.NoNote) = some false
  k_NoNote_NoPair : PySem.W.kitOne K (.ref cs.NoNote) (.ref cs.NoPair) = some false
  k_NoNote_NoTable : PySem.W.kitOne K (.ref cs.NoNote) (.ref cs.NoTable) = some false
  k_NoNote_NoMove : PySem.W.kitOne K (.ref cs.NoNote) (.ref cs.NoMove) = some false
  k_NoNote_TooLong : PySem.W.kitOne K (.ref cs.NoNote) (.ref cs.TooLong) = some false
  k_NoNote_NoNote : PySem.W.kitOne K (.ref cs.NoNote) (.ref cs.NoNote) = some true
  b_ValueError : mg "ValueError" = none
  b_int : mg "int" = none
  b_isinstance : mg "isinstance" = none
  b_len : mg "len" = none
  b_list : mg "list" = none
  b_max : mg "max" = none
  b_min : mg "min" = none
  b_range : mg "range" = none
  b_str : mg "str" = none
  g_GREATEST : ∃ u, mg "GREATEST" = some u ∧ RelV (.int 1000000000000000000000000000000) u
  g_MOST : ∃ u, mg "MOST" = some u ∧ RelV (.int 6) u
  g_FIGURES : ∃ u, mg "FIGURES" = some u ∧ RelV (.str "0123456789") u
theorem sc_asked_pair : FnScope ["pair", "pile"] ["pair"] (defScope s_asked_pair) := ⟨rfl, rfl, rfl, by decide +kernel, rfl, by decide +kernel, by decide +kernel⟩
theorem sc_number_of : FnScope ["word", "sign"] ["word"] (defScope s_number_of) := ⟨rfl, rfl, rfl, by decide +kernel, rfl, by decide +kernel, by decide +kernel⟩
theorem sc__law_cell_at : FnScope ["script", "k"] ["script", "k"] (defScope s__law_cell_at) := ⟨rfl, rfl, rfl, by decide +kernel, rfl, by decide +kernel, by decide +kernel⟩
theorem sc__law_word_of : FnScope ["e", "kinds"] ["e"] (defScope s__law_word_of) := ⟨rfl, rfl, rfl, by decide +kernel, rfl, by decide +kernel, by decide +kernel⟩
theorem sc__law_pile_by : FnScope ["cell", "kind"] ["cell"] (defScope s__law_pile_by) := ⟨rfl, rfl, rfl, by decide +kernel, rfl, by decide +kernel, by decide +kernel⟩
theorem sc__law_spoilt : FnScope ["words", "kind", "cell", "text", "place", "sign", "at", "odd", "piles", "k"] ["words", "kind", "cell"] (defScope s__law_spoilt) := ⟨rfl, rfl, rfl, by decide +kernel, rfl, by decide +kernel, by decide +kernel⟩
theorem sc__law_number : FnScope ["word", "sign"] ["word"] (defScope s__law_number) := ⟨rfl, rfl, rfl, by decide +kernel, rfl, by decide +kernel, by decide +kernel⟩
theorem sc_asked_table : FnScope ["table", "pair"] ["table"] (defScope s_asked_table) := ⟨rfl, rfl, rfl, by decide +kernel, rfl, by decide +kernel, by decide +kernel⟩
theorem sc_pair_of : FnScope ["word", "piles"] ["word"] (defScope s_pair_of) := ⟨rfl, rfl, rfl, by decide +kernel, rfl, by decide +kernel, by decide +kernel⟩
theorem sc__law_pair_by : FnScope ["script", "at", "one", "other", "cell", "k"] ["script", "at"] (defScope s__law_pair_by) := ⟨rfl, rfl, rfl, by decide +kernel, rfl, by decide +kernel, by decide +kernel⟩
theorem sc__law_due : FnScope ["text", "found", "word", "piles", "one", "other", "part"] ["text"] (defScope s__law_due) := ⟨rfl, rfl, rfl, by decide +kernel, rfl, by decide +kernel, by decide +kernel⟩
theorem sc_read : FnScope ["text", "found", "word"] ["text"] (defScope s_read) := ⟨rfl, rfl, rfl, by decide +kernel, rfl, by decide +kernel, by decide +kernel⟩
theorem sc__law_table_by : FnScope ["script", "at", "k"] ["script", "at"] (defScope s__law_table_by) := ⟨rfl, rfl, rfl, by decide +kernel, rfl, by decide +kernel, by decide +kernel⟩
theorem sc__law_tried : FnScope ["text", "e"] ["text"] (defScope s__law_tried) := ⟨rfl, rfl, rfl, by decide +kernel, rfl, by decide +kernel, by decide +kernel⟩
theorem sc_law : FnScope ["script", "table", "words", "text", "kind", "due", "found", "pair"] ["script"] (defScope s_law) := ⟨rfl, rfl, rfl, by decide +kernel, rfl, by decide +kernel, by decide +kernel⟩
section
variable {P : Program} {w : World} {K : PySem.W.Frag} {mg : Str → Option Value} {base : Heap} {cs : Cs}
/-! ### asked_pair -/
def sp_asked_pair (K : PySem.W.Frag) (cs : Cs) : Sp := fun vs H Q E => ∃ v x y, vs = [v] ∧ Pr K H v x y ∧ (Gd x → Gd y → RetV .non H Q) ∧ (¬ (Gd x ∧ Gd y) → ∀ H', Ex H H' → E (.ref cs.NoPair) none H')
theorem ok_asked_pair (F : Df K mg "asked_pair" s_asked_pair) (T : Txt K mg cs)  : ClX P w K mg base 1 "asked_pair" (sp_asked_pair K cs) := by
  refine clX_of (N := ["pair", "pile"]) (ps := ["pair"]) F (fun _ _ _ _ _ _ us hl => match us, hl with | [_], _ => rfl) sc_asked_pair (fun vs H Q E h => by obtain ⟨_, _, _, rfl, _⟩ := h; rfl) (fun f cdv A outer s H vs Q E hr h => ⟨_, (pss_one (ps_for (passes_of rfl) rfl (pi_tup (pv 0)) (pg_name (i := 1) sc_asked_pair.nd rfl (.inl rfl)) (pss_one (ps_if (PW.pt (pw_or (pt_cmpR op_lt (pv 1) pe_int (nomark _)) (pw_or1 (pt_cmpR op_gt (pv 1) (pe_gc (by rfl) T.g_GREATEST) (nomark _))))) (pss_one (ps_raise rfl (takes_of rfl rfl rfl rfl) (pmk_own PySem.F.excBase_ValueError T.x_NoPair.xC T.x_NoPair.gC T.x_NoPair.kC (raises_own T.x_NoPair.bC T.x_NoPair.tC) (by exact rfl)))) pss_nil)))), ?_⟩)
  obtain ⟨v, x, y, rfl, hp, q, qe⟩ := h
  obtain ⟨a, rfl, hq⟩ := id hp
  rw [show start ["pair", "pile"] [.ref a] = [some (.ref a), none] from rfl]
  refine ⟨_, rfl, a, rfl, ⟨_, hq⟩, for_tup (K := K) (a := a) (xs := [.int x, .int y]) (fun i σ H' => Ex H H' ∧ (∃ z, σ = [some (.ref a), z]) ∧ (0 < i → Gd x) ∧ (1 < i → Gd y))
    ⟨Ex.refl _, ⟨none, rfl⟩, fun z => absurd z (Nat.lt_irrefl 0), fun z => absurd z (by decide)⟩ (fun i σ H' _ h => ex_t h.1 hq) ?_ ?_⟩
  · rintro i z σ H' hi ⟨e, ⟨z', rfl⟩, k1, k2⟩
    have hz : ∃ n, z = .int n ∧ (Gd n → (0 < i + 1 → Gd x) ∧ (1 < i + 1 → Gd y)) ∧ (¬ Gd n → ¬ (Gd x ∧ Gd y)) := by
      match i, hi with
      | 0, hi => exact ⟨x, (Option.some.inj hi).symm, fun g => ⟨fun _ => g, fun z => absurd z (by decide)⟩, fun g w => g w.1⟩
      | 1, hi => exact ⟨y, (Option.some.inj hi).symm, fun g => ⟨fun _ => k1 (by decide), fun _ => g⟩, fun g w => g w.2⟩
    obtain ⟨n, rfl, hn1, hn2⟩ := hz
    walk_at "nx"
    walk_at "if"
    · intro hb H1 e1
      simp at hb
      exact qe (hn2 (fun g => by have := g.1; have := g.2; omega)) _ (e.trans e1)
    · intro hb H1 e1
      simp at hb
      exact ⟨e.trans e1, ⟨some (.int n), rfl⟩, hn1 ⟨by omega, by omega⟩⟩
  · rintro σ H' ⟨e, ⟨z, rfl⟩, k1, k2⟩
    exact q (k1 (by show 0 < 2; decide)) (k2 (by show 1 < 2; decide)) _ e
theorem u_asked_pair {cs : Cs} {H : Hp} {Q : VK} {E : XK} {v : V} {x y : Int} (hp : Pr K H v x y) (hx : Gd x) (hy : Gd y) (q : ∀ H2, Ex H H2 → Q .non H2) : sp_asked_pair K cs [v] H Q E := ⟨v, x, y, rfl, hp, fun _ _ => q, fun z => absurd ⟨hx, hy⟩ z⟩
local macro_rules | `(tactic| walk_at "spcall") => `(tactic| ((with_reducible apply u_asked_pair); (· walk_at "pr"); (· walk_at "gd"); (· walk_at "gd"); intro _ _))

/-! ### number_of -/
/-! ### numbers and pairs as texts -/
/-- what writes a number -/
def NumOk (a : List Nat) : Prop := a ≠ [] ∧ a.length ≤ 31 ∧ ¬ (a.head? = some 48 ∧ a ≠ [48]) ∧ ∀ c ∈ a, 48 ≤ c ∧ c ≤ 57
def digV (a : List Nat) : Int := ((NumText.digitsVal a : Nat) : Int)
theorem num_int {a : List Nat} (h : NumOk a) : PySem.intText? (SX.S a) = some (digV a) := by
  refine SX.int_S (List.all_eq_true.mpr fun c hc => ?_) h.1 (by have := h.2.1; omega)
  have := h.2.2.2 c hc
  simp [this.1, this.2]
theorem numL_head (n : Nat) (h : 1 ≤ n) : (TL.numL n).head? ≠ some 48 := by
  induction n using Nat.strongRecOn with
  | _ n ih =>
    by_cases c : n < 10
    · rw [TL.numL_lt c]
      intro e
      have : 48 + n = 48 := by simpa using e
      omega
    · rw [TL.numL_step (by omega)]
      have := ih (n / 10) (by omega) (by omega)
      have hn := TL.numL_ne (n / 10)
      cases e : TL.numL (n / 10) with
      | nil => exact absurd e hn
      | cons d r =>
        rw [e] at this
        simpa using this
theorem numL_len {n : Nat} (h : n ≤ 1000000000000000000000000000000) : (TL.numL n).length ≤ 31 := TL.numL_len (by decide) (by
  have : (10 : Nat) ^ 31 = 10000000000000000000000000000000 := by decide
  omega)
theorem numL_ok {n : Nat} (h1 : 1 ≤ n) (h2 : n ≤ 1000000000000000000000000000000) : NumOk (TL.numL n) :=
  ⟨TL.numL_ne n, numL_len h2, fun z => numL_head n h1 z.1, fun c hc => TL.numL_digits n c hc⟩
theorem numL_digV {x : Int} (h : 0 ≤ x) : digV (TL.numL x.toNat) = x := by
  unfold digV
  rw [TL.numL_val]
  omega
/-- a pair's text -/
def ptL (p : Int × Int) : List Nat := TL.numL p.1.toNat ++ [47] ++ TL.numL p.2.toNat
theorem ptL_len {p : Int × Int} (h1 : Gd p.1) (h2 : Gd p.2) : (ptL p).length ≤ 63 := by
  unfold ptL
  have := numL_len (n := p.1.toNat) (by have := h1.2; omega)
  have := numL_len (n := p.2.toNat) (by have := h2.2; omega)
  simp
  omega
theorem ptL_free (p : Int × Int) : 32 ∉ ptL p := by
  unfold ptL
  intro h
  rcases List.mem_append.mp h with h | h
  · rcases List.mem_append.mp h with h | h
    · exact TL.numL_free (by omega) h
    · simp at h
  · exact TL.numL_free (by omega) h
theorem ptL_spl (p : Int × Int) : TL.spl [47] 0 [] (ptL p) = [TL.numL p.1.toNat, TL.numL p.2.toNat] := by
  have e : ptL p = TL.joinL [47] [TL.numL p.1.toNat, TL.numL p.2.toNat] := by
    unfold ptL
    rw [List.append_assoc]
    rfl
  rw [e]
  refine TL.spl_join (by simp) fun q hq => ?_
  rcases List.mem_cons.mp hq with rfl | hq
  · exact TL.numL_free (by omega)
  · rw [List.mem_singleton.mp hq]
    exact TL.numL_free (by omega)
/-- a table's text -/
def txL (T : List (Int × Int)) : List Nat := TL.joinL [32] (T.map ptL)
theorem txL_spl {T : List (Int × Int)} (h : T ≠ []) : TL.spl [32] 0 [] (txL T) = T.map ptL := by
  refine TL.spl_join (fun e => h (List.map_eq_nil_iff.mp e)) fun q hq => ?_
  obtain ⟨p, _, rfl⟩ := List.mem_map.mp hq
  exact ptL_free p
theorem ptL_ne (p : Int × Int) : ptL p ≠ [] := by
  unfold ptL
  simp
theorem joinL_ne {s : List Nat} : ∀ {ps : List (List Nat)}, ps ≠ [] → (∀ p ∈ ps, p ≠ []) → TL.joinL s ps ≠ []
  | [], h, _ => absurd rfl h
  | [p], _, h => h p (List.mem_singleton.mpr rfl)
  | p :: q :: r, _, h => by
    show p ++ (s ++ TL.joinL s (q :: r)) ≠ []
    intro e
    exact h p List.mem_cons_self (List.append_eq_nil_iff.mp e).1
theorem txL_ne {T : List (Int × Int)} (h : T ≠ []) : txL T ≠ [] := joinL_ne (fun e => h (List.map_eq_nil_iff.mp e)) fun q hq => by
  obtain ⟨p, _, rfl⟩ := List.mem_map.mp hq
  exact ptL_ne p
theorem joinL_snoc {s : List Nat} : ∀ {ps : List (List Nat)} (q : List Nat), ps ≠ [] → TL.joinL s (ps ++ [q]) = TL.joinL s ps ++ (s ++ q)
  | [], _, h => absurd rfl h
  | [p], q, _ => rfl
  | p :: p2 :: r, q, _ => by
    show p ++ (s ++ TL.joinL s ((p2 :: r) ++ [q])) = (p ++ (s ++ TL.joinL s (p2 :: r))) ++ (s ++ q)
    rw [joinL_snoc q (by simp)]
    simp
theorem txL_take {T : List (Int × Int)} {i : Nat} {p : Int × Int} (h : T[i]? = some p) : txL (T.take (i + 1)) = (if 0 < i then txL (T.take i) ++ [32] else txL (T.take i)) ++ ptL p := by
  unfold txL
  rw [take_succ' h, List.map_append]
  by_cases c : 0 < i
  · rw [if_pos c]
    have hne : (T.take i).map ptL ≠ [] := by
      intro e
      have := congrArg List.length e
      have h2 := (List.getElem?_eq_some_iff.mp h).1
      rw [List.length_map, List.length_take] at this
      have : min i T.length = 0 := this
      omega
    rw [show ([p] : List (Int × Int)).map ptL = [ptL p] from rfl, joinL_snoc _ hne, List.append_assoc]
  · have e : i = 0 := by omega
    subst e
    rfl
theorem joinL_len {s : List Nat} : ∀ {ps : List (List Nat)}, (TL.joinL s ps).length ≤ (ps.map (·.length)).sum + ps.length * s.length
  | [] => Nat.zero_le _
  | [p] => by show p.length ≤ _; simp
  | p :: q :: r => by
    have := joinL_len (s := s) (ps := q :: r)
    show (p ++ (s ++ TL.joinL s (q :: r))).length ≤ _
    rw [List.length_append, List.length_append, List.map_cons, List.sum_cons, List.length_cons, Nat.add_mul]
    omega
theorem sum_le_mul {m : Nat} : ∀ {l : List Nat}, (∀ n ∈ l, n ≤ m) → l.sum ≤ l.length * m
  | [], _ => Nat.zero_le _
  | a :: l, h => by
    have := sum_le_mul (l := l) fun n hn => h n (List.mem_cons_of_mem _ hn)
    have := h a List.mem_cons_self
    rw [List.sum_cons, List.length_cons, Nat.add_mul]
    omega
theorem pts_sum {T : List (Int × Int)} (g : GdT T) : ((T.map ptL).map (·.length)).sum ≤ T.length * 63 := by
  have := sum_le_mul (m := 63) (l := (T.map ptL).map (·.length)) fun n hn => by
    obtain ⟨q, hq, rfl⟩ := List.mem_map.mp hn
    obtain ⟨p, hp, rfl⟩ := List.mem_map.mp hq
    exact ptL_len (g p hp).1 (g p hp).2
  rw [List.length_map, List.length_map] at this
  exact this
theorem txL_len {T : List (Int × Int)} (g : GdT T) : (txL T).length ≤ T.length * 64 := by
  have h1 := joinL_len (s := [32]) (ps := T.map ptL)
  have h2 := pts_sum g
  rw [List.length_map] at h1
  have e : ([32] : List Nat).length = 1 := rfl
  rw [e] at h1
  unfold txL
  omega
/-- what writes a pair -/
def PairOk (w : List Nat) : Prop := ∃ a b, TL.spl [47] 0 [] w = [a, b] ∧ NumOk a ∧ NumOk b
theorem spl_nil1 (s : Nat) (acc : List Nat) : TL.spl [s] 0 acc [] = [acc] := rfl
theorem spl_cons1 (s : Nat) (acc : List Nat) (c : Nat) (r : List Nat) : TL.spl [s] 0 acc (c :: r) = acc :: TL.spl [s] 0 [] r ∨ TL.spl [s] 0 acc (c :: r) = TL.spl [s] 0 (acc ++ [c]) r := by
  cases h : TL.pre [s] (c :: r) with
  | true => exact .inl (TL.spl_hit h)
  | false => exact .inr (TL.spl_miss h)
theorem spl_sum (s : Nat) : ∀ (l acc : List Nat), ((TL.spl [s] 0 acc l).map (·.length)).sum + (TL.spl [s] 0 acc l).length = acc.length + l.length + 1
  | [], acc => by rw [spl_nil1]; simp
  | c :: r, acc => by
    rcases spl_cons1 s acc c r with h | h
    · have := spl_sum s r []
      rw [h, List.map_cons, List.sum_cons, List.length_cons, List.length_cons]
      simp only [List.length_nil] at this
      omega
    · have := spl_sum s r (acc ++ [c])
      rw [h, this, List.length_append, List.length_cons, List.length_cons, List.length_nil]
      omega
theorem len_le_sum {m : List Nat} : ∀ {l : List (List Nat)}, m ∈ l → m.length ≤ (l.map (·.length)).sum
  | [], h => nomatch h
  | a :: l, h => by
    rw [List.map_cons, List.sum_cons]
    rcases List.mem_cons.mp h with rfl | h
    · omega
    · have := len_le_sum h
      omega
theorem spl_ne (s : Nat) (l : List Nat) : TL.spl [s] 0 [] l ≠ [] := fun e => by
  have := spl_sum s l []
  rw [e] at this
  simp at this
theorem spl_len {s : Nat} {w : List Nat} : (TL.spl [s] 0 [] w).length ≤ w.length + 1 := by
  have := spl_sum s w []
  simp only [List.length_nil] at this
  omega
theorem spl_part_len {s : Nat} {w : List Nat} : ∀ m ∈ TL.spl [s] 0 [] w, m.length ≤ w.length := fun m hm => by
  have h1 := spl_sum s w []
  have h2 := len_le_sum hm
  have h3 : 0 < (TL.spl [s] 0 [] w).length := List.length_pos_iff.mpr (List.ne_nil_of_mem hm)
  simp only [List.length_nil] at h1
  omega

def sp_number_of (K : PySem.W.Frag) (cs : Cs) : Sp := fun vs H Q E => ∃ a : List Nat, vs = [tV a] ∧ a.length ≤ 50000 ∧ (NumOk a → ∀ H', Ex H H' → Q (.int (digV a)) H') ∧ (¬ NumOk a → ∀ H', Ex H H' → E (.ref cs.NoNote) none H')
theorem ok_number_of (F : Df K mg "number_of" s_number_of) (T : Txt K mg cs)  : ClX P w K mg base 1 "number_of" (sp_number_of K cs) := by
  refine clX_of (N := ["word", "sign"]) (ps := ["word"]) F (fun _ _ _ _ _ _ us hl => match us, hl with | [_], _ => rfl) sc_number_of (fun vs H Q E h => by obtain ⟨_, rfl, _⟩ := h; rfl) (fun f cdv A outer s H vs Q E hr h => ⟨_, (pss_cons (ps_if (PW.pt (pw_or (pt_cmpR op_eq (pv 0) pe_str (nomark _)) (pw_or (pt_cmpR op_gt (pe_callB call_lenT (by rfl) T.b_len (by decide +kernel) (pa_cons (pv 0) pa_nil)) pe_int (nomark _)) (pw_or1 (PW.pt (pw_and (pt_cmpR op_eq (pe_ix ix_str (pv 0) pe_int (fun _ _ => rfl)) pe_str (nomark _)) (pw_and1 (pt_cmpR op_ne (pv 0) pe_str (nomark _))))))))) (pss_one (ps_raise rfl (takes_of rfl rfl rfl rfl) (pmk_own PySem.F.excBase_ValueError T.x_NoNote.xC T.x_NoNote.gC T.x_NoNote.kC (raises_own T.x_NoNote.bC T.x_NoNote.tC) (by exact rfl)))) pss_nil)
    (pss_cons (ps_for (passes_of rfl) rfl (pi_str (pv 0)) (pg_name (i := 1) sc_number_of.nd rfl (.inl rfl)) (pss_one (ps_if (pt_cmpR op_notInS (pv 1) (pe_gc (by rfl) T.g_FIGURES) rfl) (pss_one (ps_raise rfl (takes_of rfl rfl rfl rfl) (pmk_own PySem.F.excBase_ValueError T.x_NoNote.xC T.x_NoNote.gC T.x_NoNote.kC (raises_own T.x_NoNote.bC T.x_NoNote.tC) (by exact rfl)))) pss_nil)))
    (pss_one (ps_ret (pe_callTy call_intT (by rfl) T.b_int (by decide +kernel) (pa_cons (pv 0) pa_nil)))))), ?_⟩)
  obtain ⟨a, rfl, hl, q, qe⟩ := h
  rw [show start ["word", "sign"] [tV a] = [some (tV a), none] from rfl]
  walk_at "go"
  match a, hl, q, qe with
  | [], hl, q, qe =>
    refine d_if (b := true) ?_ (fun _ H1 e1 => ?_) (fun z => nomatch z)
    · apply et_orT
      apply et_is
      · walk_at "et"
      · rfl
    · exact qe (fun z => z.1 rfl) _ (by walk_at "ex")
  | c :: r, hl, q, qe =>
    have hat : atI (c :: r) 0 = some c := atI_nat (j := 0) rfl
    walk_at "if"
    · intro hb H1 e1
      refine qe (fun z => ?_) _ (by walk_at "ex")
      obtain ⟨z1, z2, z3, z4⟩ := z
      simp at hb
      rcases hb with hb | hb
      · simp at z2
        omega
      · refine z3 ⟨by simp [hb.1], fun z => ?_⟩
        simp at z
        rcases hb.2 with w | w
        · exact w z.1
        · exact w z.2
    · intro hb H1 e1
      simp at hb
      have b1 : (c :: r).length ≤ 31 := by simp; omega
      have b2 : ¬ ((c :: r).head? = some 48 ∧ c :: r ≠ [48]) := fun z => by
        have z1 : c = 48 := by simpa using z.1
        have := hb.2 z1
        exact z.2 (by simp [z1, this])
      walk_at "go"
      refine d_forStr (a := c :: r) (by walk_at "ev") (fun i σ' H' => Ex H1 H' ∧ (∃ z, σ' = [some (tV (c :: r)), z]) ∧ ∀ j < i, ∀ d, (c :: r)[j]? = some d → 48 ≤ d ∧ d ≤ 57)
        (fun H2 e2 => ⟨e2, ⟨_, rfl⟩, fun j hj => absurd hj (Nat.not_lt_zero j)⟩) ?_ ?_
      · rintro i d σ' H2 hi ⟨e2, ⟨z, rfl⟩, hj⟩
        walk_at "nx"
        have hd : d ∈ [48, 49, 50, 51, 52, 53, 54, 55, 56, 57] ↔ 48 ≤ d ∧ d ≤ 57 := by
          simp only [List.mem_cons, List.not_mem_nil, or_false]
          omega
        walk_at "if"
        · intro hb2 H3 e3
          refine qe (fun z => ?_) _ (by walk_at "ex")
          have := z.2.2.2 d (List.mem_of_getElem? hi)
          simp only [Bool.not_eq_true', decide_eq_false_iff_not] at hb2
          exact hb2 (hd.mpr this)
        · intro hb2 H3 e3
          have hb2 : d ∈ [48, 49, 50, 51, 52, 53, 54, 55, 56, 57] := by
            simp only [Bool.not_eq_false', decide_eq_true_eq] at hb2
            exact hb2
          walk_at "go"
          refine ⟨by walk_at "ex", ⟨_, rfl⟩, fun j hj2 d' hd' => ?_⟩
          by_cases c2 : j = i
          · subst c2
            rw [hi] at hd'
            cases hd'
            exact hd.mp hb2
          · exact hj j (by omega) d' hd'
      · rintro σ' H2 ⟨e2, ⟨z, rfl⟩, hj⟩
        have hok : NumOk (c :: r) := ⟨by simp, b1, b2, fun d hd => by
          obtain ⟨j, hj1, rfl⟩ := List.getElem_of_mem hd
          exact hj j hj1 _ (List.getElem?_eq_getElem hj1)⟩
        walk_at "go"
        refine d_intT (num_int hok) (by omega) ?_
        exact q hok _ (by walk_at "ex")
theorem u_number_of {cs : Cs} {H : Hp} {Q : VK} {E : XK} {a : List Nat} (hl : a.length ≤ 50000) (hok : NumOk a) (q : ∀ H', Ex H H' → Q (.int (digV a)) H') : sp_number_of K cs [tV a] H Q E := ⟨a, rfl, hl, fun _ => q, fun z => absurd hok z⟩
local macro_rules | `(tactic| walk_at "spcall") => `(tactic| ((with_reducible apply u_number_of); (· walk_at "sz"); (· assumption); intro _ _))

/-! ### _law_cell_at -/
def cellL (ns : List Int) (k : Nat) : Int := ns.getD k 0
def sp__law_cell_at (K : PySem.W.Frag) : Sp := fun vs H Q _ => ∃ (a : Addr) (ns : List Int) (k : Nat), vs = [.ref a, .int (k : Int)] ∧ SqL K H a (ns.map V.int) ∧ RetV (.int (cellL ns k)) H Q
theorem ok__law_cell_at (F : Df K mg "_law_cell_at" s__law_cell_at) (T : Txt K mg cs)  : Cl P w K mg base 1 "_law_cell_at" (sp__law_cell_at K) := by
  refine cl_of (N := ["script", "k"]) (ps := ["script", "k"]) F (fun _ _ _ _ _ _ us hl => match us, hl with | [_, _], _ => rfl) sc__law_cell_at (fun vs H Q E h => by obtain ⟨_, _, _, rfl, _⟩ := h; rfl) (fun f cdv A outer s H vs Q E hr h => ⟨_, (pss_cons (ps_if (pt_cmpR op_lt (pv 1) (pe_callB call_lenL (by rfl) T.b_len (by decide +kernel) (pa_cons (pv 0) pa_nil)) (nomark _)) (pss_one (ps_ret (pe_ix ix_list (pv 0) (pv 1) (fun _ _ => rfl)))) pss_nil)
    (pss_one (ps_ret pe_int))), ?_⟩)
  obtain ⟨a, ns, k, rfl, hs, q⟩ := h
  rw [show start ["script", "k"] [.ref a, .int (k : Int)] = [some (.ref a), some (.int (k : Int))] from rfl]
  walk_at "go"
  walk_at "if"
  · intro hb H1 e1
    simp at hb
    walk_at "go"
    have hk : ns[k]? = some ns[k] := List.getElem?_eq_getElem hb
    refine d_ixL (xs := ns.map V.int) (v := .int (cellL ns k)) (by walk_at "sl") ?_ ?_
    · refine atI_nat ?_
      rw [List.getElem?_map, hk]
      unfold cellL
      rw [List.getD_eq_getElem?_getD, hk]
      rfl
    · exact q _ (by walk_at "ex")
  · intro hb H1 e1
    simp at hb
    walk_at "go"
    have e : cellL ns k = 0 := by
      unfold cellL
      rw [List.getD_eq_getElem?_getD, List.getElem?_eq_none (by omega)]
      rfl
    rw [e] at q
    exact q _ (by walk_at "ex")
theorem u_cell {H : Hp} {Q : VK} {E : XK} {a : Addr} {ns : List Int} {k : Int} (hs : SqL K H a (ns.map V.int)) (hk : 0 ≤ k) (q : ∀ H2, Ex H H2 → Q (.int (cellL ns k.toNat)) H2) : sp__law_cell_at K [.ref a, .int k] H Q E :=
  ⟨a, ns, k.toNat, by rw [Int.toNat_of_nonneg hk], hs, q⟩
local macro_rules | `(tactic| walk_at "spcall") => `(tactic| ((with_reducible apply u_cell); (· walk_at "sl"); (· omega); intro _ _))

/-! ### _law_word_of -/
def wordC (cs : Cs) : List (Addr × Str) := [(cs.NoPair, "pair"), (cs.NoTable, "table"), (cs.NoMove, "move"), (cs.TooLong, "long"), (cs.NoNote, "note")]
def sp__law_word_of (K : PySem.W.Frag) (cs : Cs) (a : Addr) (cls : Value) (d : Option Addr) : Sp := fun vs H Q _ => vs = [.ref a] ∧ d = none ∧ ∃ (j : Nat) (D : Addr) (s : Str), (wordC cs)[j]? = some (D, s) ∧ cls = .ref D ∧ RetV (.str s) H Q
theorem ok__law_word_of (F : Df K mg "_law_word_of" s__law_word_of) (T : Txt K mg cs) : ClP P w K mg base 1 "_law_word_of" (sp__law_word_of K cs) := by
  refine clP_of (N := ["e", "kinds"]) (ps := ["e"]) F (fun _ _ _ _ _ _ us hl => match us, hl with | [_], _ => rfl) sc__law_word_of (fun a cls d vs H Q E h => by obtain ⟨rfl, _⟩ := h; rfl) (fun a oe cls d f cdv A outer s H vs Q E hz hd hr h => ?_)
  obtain ⟨rfl, rfl, j, D, s, hj, rfl, q⟩ := h
  have f00 := T.k_NoPair_NoPair
  have f01 := T.k_NoPair_NoTable
  have f02 := T.k_NoPair_NoMove
  have f03 := T.k_NoPair_TooLong
  have f04 := T.k_NoPair_NoNote
  have f10 := T.k_NoTable_NoPair
  have f11 := T.k_NoTable_NoTable
  have f12 := T.k_NoTable_NoMove
  have f13 := T.k_NoTable_TooLong
  have f14 := T.k_NoTable_NoNote
  have f20 := T.k_NoMove_NoPair
  have f21 := T.k_NoMove_NoTable
  have f22 := T.k_NoMove_NoMove
  have f23 := T.k_NoMove_TooLong
  have f24 := T.k_NoMove_NoNote
  have f30 := T.k_TooLong_NoPair
  have f31 := T.k_TooLong_NoTable
  have f32 := T.k_TooLong_NoMove
  have f33 := T.k_TooLong_TooLong
  have f34 := T.k_TooLong_NoNote
  have f40 := T.k_NoNote_NoPair
  have f41 := T.k_NoNote_NoTable
  have f42 := T.k_NoNote_NoMove
  have f43 := T.k_NoNote_TooLong
  have f44 := T.k_NoNote_NoNote
  have v0 := T.x_NoPair.vC
  have v1 := T.x_NoTable.vC
  have v2 := T.x_NoMove.vC
  have v3 := T.x_TooLong.vC
  have v4 := T.x_NoNote.vC
  match j, hj with
  | 0, hj =>
    cases hj
    have hC := T.x_NoPair.eC
    refine ⟨_, (pss_cons (ps_set (i := 1) sc__law_word_of.nd rfl (.inl rfl) (pe_lst (pa_cons (pe_callB (call_isP List.mem_cons_self hC hz hd) (by rfl) T.b_isinstance (by decide +kernel) (pa_cons (pv 0) (pa_cons (pe_glob (v := .ref cs.NoPair) (by rfl) T.x_NoPair.gC rfl) pa_nil))) (pa_cons (pe_callB (call_isP List.mem_cons_self hC hz hd) (by rfl) T.b_isinstance (by decide +kernel) (pa_cons (pv 0) (pa_cons (pe_glob (v := .ref cs.NoTable) (by rfl) T.x_NoTable.gC rfl) pa_nil))) (pa_cons (pe_callB (call_isP List.mem_cons_self hC hz hd) (by rfl) T.b_isinstance (by decide +kernel) (pa_cons (pv 0) (pa_cons (pe_glob (v := .ref cs.NoMove) (by rfl) T.x_NoMove.gC rfl) pa_nil))) (pa_cons (pe_callB (call_isP List.mem_cons_self hC hz hd) (by rfl) T.b_isinstance (by decide +kernel) (pa_cons (pv 0) (pa_cons (pe_glob (v := .ref cs.TooLong) (by rfl) T.x_TooLong.gC rfl) pa_nil))) pa_nil))))))
    (pss_cons (ps_expr (pe_bm PySem.F.plainAttrs_list PySem.F.slot_list_append PySem.F.type_list_append mt_append (pv 1) (pa_cons (pe_callB (call_isP List.mem_cons_self hC hz hd) (by rfl) T.b_isinstance (by decide +kernel) (pa_cons (pv 0) (pa_cons (pe_glob (v := .ref cs.NoNote) (by rfl) T.x_NoNote.gC rfl) pa_nil))) pa_nil)))
    (pss_cons (ps_if (PW.pt (pw_or (pt_cmpR op_ne (pe_bm PySem.F.plainAttrs_list PySem.F.slot_list_count PySem.F.type_list_count mt_countF (pv 1) (pa_cons pe_bl pa_nil)) pe_int (nomark _)) (pw_or1 (pt_not (pt_val (pe_callB (call_isP List.mem_cons_self hC hz hd) (by rfl) T.b_isinstance (by decide +kernel) (pa_cons (pv 0) (pa_cons (pe_bltn (v := .ty "ValueError") (by rfl) T.b_ValueError (by decide +kernel) rfl) pa_nil)))))))) (pss_one (ps_ret pe_str)) pss_nil)
    (pss_one (ps_ret (pe_ix ix_list (pe_lst (pa_cons pe_str (pa_cons pe_str (pa_cons pe_str (pa_cons pe_str (pa_cons pe_str pa_nil)))))) (pe_bm PySem.F.plainAttrs_list PySem.F.slot_list_index PySem.F.type_list_index mt_index (pv 1) (pa_cons pe_bl pa_nil)) (fun _ _ => rfl))))))), ?_⟩
    rw [show start ["e", "kinds"] [.ref a] = [some (.ref a), none] from rfl]
    walk_at "go"
    walk_at "if"
    · intro hb
      exact absurd hb (by decide)
    · intro hb H1 e1
      walk_at "go"
      refine d_rIndex 0 (by walk_at "sl") rfl rfl rfl rfl (fun m z hm => absurd hm (Nat.not_lt_zero m)) ?_
      walk_at "go"
      exact q _ (by walk_at "ex")
  | 1, hj =>
    cases hj
    have hC := T.x_NoTable.eC
    refine ⟨_, (pss_cons (ps_set (i := 1) sc__law_word_of.nd rfl (.inl rfl) (pe_lst (pa_cons (pe_callB (call_isP List.mem_cons_self hC hz hd) (by rfl) T.b_isinstance (by decide +kernel) (pa_cons (pv 0) (pa_cons (pe_glob (v := .ref cs.NoPair) (by rfl) T.x_NoPair.gC rfl) pa_nil))) (pa_cons (pe_callB (call_isP List.mem_cons_self hC hz hd) (by rfl) T.b_isinstance (by decide +kernel) (pa_cons (pv 0) (pa_cons (pe_glob (v := .ref cs.NoTable) (by rfl) T.x_NoTable.gC rfl) pa_nil))) (pa_cons (pe_callB (call_isP List.mem_cons_self hC hz hd) (by rfl) T.b_isinstance (by decide +kernel) (pa_cons (pv 0) (pa_cons (pe_glob (v := .ref cs.NoMove) (by rfl) T.x_NoMove.gC rfl) pa_nil))) (pa_cons (pe_callB (call_isP List.mem_cons_self hC hz hd) (by rfl) T.b_isinstance (by decide +kernel) (pa_cons (pv 0) (pa_cons (pe_glob (v := .ref cs.TooLong) (by rfl) T.x_TooLong.gC rfl) pa_nil))) pa_nil))))))
    (pss_cons (ps_expr (pe_bm PySem.F.plainAttrs_list PySem.F.slot_list_append PySem.F.type_list_append mt_append (pv 1) (pa_cons (pe_callB (call_isP List.mem_cons_self hC hz hd) (by rfl) T.b_isinstance (by decide +kernel) (pa_cons (pv 0) (pa_cons (pe_glob (v := .ref cs.NoNote) (by rfl) T.x_NoNote.gC rfl) pa_nil))) pa_nil)))
    (pss_cons (ps_if (PW.pt (pw_or (pt_cmpR op_ne (pe_bm PySem.F.plainAttrs_list PySem.F.slot_list_count PySem.F.type_list_count mt_countF (pv 1) (pa_cons pe_bl pa_nil)) pe_int (nomark _)) (pw_or1 (pt_not (pt_val (pe_callB (call_isP List.mem_cons_self hC hz hd) (by rfl) T.b_isinstance (by decide +kernel) (pa_cons (pv 0) (pa_cons (pe_bltn (v := .ty "ValueError") (by rfl) T.b_ValueError (by decide +kernel) rfl) pa_nil)))))))) (pss_one (ps_ret pe_str)) pss_nil)
    (pss_one (ps_ret (pe_ix ix_list (pe_lst (pa_cons pe_str (pa_cons pe_str (pa_cons pe_str (pa_cons pe_str (pa_cons pe_str pa_nil)))))) (pe_bm PySem.F.plainAttrs_list PySem.F.slot_list_index PySem.F.type_list_index mt_index (pv 1) (pa_cons pe_bl pa_nil)) (fun _ _ => rfl))))))), ?_⟩
    rw [show start ["e", "kinds"] [.ref a] = [some (.ref a), none] from rfl]
    walk_at "go"
    walk_at "if"
    · intro hb
      exact absurd hb (by decide)
    · intro hb H1 e1
      walk_at "go"
      refine d_rIndex 1 (by walk_at "sl") rfl rfl rfl rfl (fun m z hm hz => ?_) ?_
      · match m, hm, hz with
        | 0, _, rfl => rfl
      walk_at "go"
      exact q _ (by walk_at "ex")
  | 2, hj =>
    cases hj
    have hC := T.x_NoMove.eC
    refine ⟨_, (pss_cons (ps_set (i := 1) sc__law_word_of.nd rfl (.inl rfl) (pe_lst (pa_cons (pe_callB (call_isP List.mem_cons_self hC hz hd) (by rfl) T.b_isinstance (by decide +kernel) (pa_cons (pv 0) (pa_cons (pe_glob (v := .ref cs.NoPair) (by rfl) T.x_NoPair.gC rfl) pa_nil))) (pa_cons (pe_callB (call_isP List.mem_cons_self hC hz hd) (by rfl) T.b_isinstance (by decide +kernel) (pa_cons (pv 0) (pa_cons (pe_glob (v := .ref cs.NoTable) (by rfl) T.x_NoTable.gC rfl) pa_nil))) (pa_cons (pe_callB (call_isP List.mem_cons_self hC hz hd) (by rfl) T.b_isinstance (by decide +kernel) (pa_cons (pv 0) (pa_cons (pe_glob (v := .ref cs.NoMove) (by rfl) T.x_NoMove.gC rfl) pa_nil))) (pa_cons (pe_callB (call_isP List.mem_cons_self hC hz hd) (by rfl) T.b_isinstance (by decide +kernel) (pa_cons (pv 0) (pa_cons (pe_glob (v := .ref cs.TooLong) (by rfl) T.x_TooLong.gC rfl) pa_nil))) pa_nil))))))
    (pss_cons (ps_expr (pe_bm PySem.F.plainAttrs_list PySem.F.slot_list_append PySem.F.type_list_append mt_append (pv 1) (pa_cons (pe_callB (call_isP List.mem_cons_self hC hz hd) (by rfl) T.b_isinstance (by decide +kernel) (pa_cons (pv 0) (pa_cons (pe_glob (v := .ref cs.NoNote) (by rfl) T.x_NoNote.gC rfl) pa_nil))) pa_nil)))
    (pss_cons (ps_if (PW.pt (pw_or (pt_cmpR op_ne (pe_bm PySem.F.plainAttrs_list PySem.F.slot_list_count PySem.F.type_list_count mt_countF (pv 1) (pa_cons pe_bl pa_nil)) pe_int (nomark _)) (pw_or1 (pt_not (pt_val (pe_callB (call_isP List.mem_cons_self hC hz hd) (by rfl) T.b_isinstance (by decide +kernel) (pa_cons (pv 0) (pa_cons (pe_bltn (v := .ty "ValueError") (by rfl) T.b_ValueError (by decide +kernel) rfl) pa_nil)))))))) (pss_one (ps_ret pe_str)) pss_nil)
    (pss_one (ps_ret (pe_ix ix_list (pe_lst (pa_cons pe_str (pa_cons pe_str (pa_cons pe_str (pa_cons pe_str (pa_cons pe_str pa_nil)))))) (pe_bm PySem.F.plainAttrs_list PySem.F.slot_list_index PySem.F.type_list_index mt_index (pv 1) (pa_cons pe_bl pa_nil)) (fun _ _ => rfl))))))), ?_⟩
    rw [show start ["e", "kinds"] [.ref a] = [some (.ref a), none] from rfl]
    walk_at "go"
    walk_at "if"
    · intro hb
      exact absurd hb (by decide)
    · intro hb H1 e1
      walk_at "go"
      refine d_rIndex 2 (by walk_at "sl") rfl rfl rfl rfl (fun m z hm hz => ?_) ?_
      · match m, hm, hz with
        | 0, _, rfl => rfl
        | 1, _, rfl => rfl
      walk_at "go"
      exact q _ (by walk_at "ex")
  | 3, hj =>
    cases hj
    have hC := T.x_TooLong.eC
    refine ⟨_, (pss_cons (ps_set (i := 1) sc__law_word_of.nd rfl (.inl rfl) (pe_lst (pa_cons (pe_callB (call_isP List.mem_cons_self hC hz hd) (by rfl) T.b_isinstance (by decide +kernel) (pa_cons (pv 0) (pa_cons (pe_glob (v := .ref cs.NoPair) (by rfl) T.x_NoPair.gC rfl) pa_nil))) (pa_cons (pe_callB (call_isP List.mem_cons_self hC hz hd) (by rfl) T.b_isinstance (by decide +kernel) (pa_cons (pv 0) (pa_cons (pe_glob (v := .ref cs.NoTable) (by rfl) T.x_NoTable.gC rfl) pa_nil))) (pa_cons (pe_callB (call_isP List.mem_cons_self hC hz hd) (by rfl) T.b_isinstance (by decide +kernel) (pa_cons (pv 0) (pa_cons (pe_glob (v := .ref cs.NoMove) (by rfl) T.x_NoMove.gC rfl) pa_nil))) (pa_cons (pe_callB (call_isP List.mem_cons_self hC hz hd) (by rfl) T.b_isinstance (by decide +kernel) (pa_cons (pv 0) (pa_cons (pe_glob (v := .ref cs.TooLong) (by rfl) T.x_TooLong.gC rfl) pa_nil))) pa_nil))))))
    (pss_cons (ps_expr (pe_bm PySem.F.plainAttrs_list PySem.F.slot_list_append PySem.F.type_list_append mt_append (pv 1) (pa_cons (pe_callB (call_isP List.mem_cons_self hC hz hd) (by rfl) T.b_isinstance (by decide +kernel) (pa_cons (pv 0) (pa_cons (pe_glob (v := .ref cs.NoNote) (by rfl) T.x_NoNote.gC rfl) pa_nil))) pa_nil)))
    (pss_cons (ps_if (PW.pt (pw_or (pt_cmpR op_ne (pe_bm PySem.F.plainAttrs_list PySem.F.slot_list_count PySem.F.type_list_count mt_countF (pv 1) (pa_cons pe_bl pa_nil)) pe_int (nomark _)) (pw_or1 (pt_not (pt_val (pe_callB (call_isP List.mem_cons_self hC hz hd) (by rfl) T.b_isinstance (by decide +kernel) (pa_cons (pv 0) (pa_cons (pe_bltn (v := .ty "ValueError") (by rfl) T.b_ValueError (by decide +kernel) rfl) pa_nil)))))))) (pss_one (ps_ret pe_str)) pss_nil)
    (pss_one (ps_ret (pe_ix ix_list (pe_lst (pa_cons pe_str (pa_cons pe_str (pa_cons pe_str (pa_cons pe_str (pa_cons pe_str pa_nil)))))) (pe_bm PySem.F.plainAttrs_list PySem.F.slot_list_index PySem.F.type_list_index mt_index (pv 1) (pa_cons pe_bl pa_nil)) (fun _ _ => rfl))))))), ?_⟩
    rw [show start ["e", "kinds"] [.ref a] = [some (.ref a), none] from rfl]
    walk_at "go"
    walk_at "if"
    · intro hb
      exact absurd hb (by decide)
    · intro hb H1 e1
      walk_at "go"
      refine d_rIndex 3 (by walk_at "sl") rfl rfl rfl rfl (fun m z hm hz => ?_) ?_
      · match m, hm, hz with
        | 0, _, rfl => rfl
        | 1, _, rfl => rfl
        | 2, _, rfl => rfl
      walk_at "go"
      exact q _ (by walk_at "ex")
  | 4, hj =>
    cases hj
    have hC := T.x_NoNote.eC
    refine ⟨_, (pss_cons (ps_set (i := 1) sc__law_word_of.nd rfl (.inl rfl) (pe_lst (pa_cons (pe_callB (call_isP List.mem_cons_self hC hz hd) (by rfl) T.b_isinstance (by decide +kernel) (pa_cons (pv 0) (pa_cons (pe_glob (v := .ref cs.NoPair) (by rfl) T.x_NoPair.gC rfl) pa_nil))) (pa_cons (pe_callB (call_isP List.mem_cons_self hC hz hd) (by rfl) T.b_isinstance (by decide +kernel) (pa_cons (pv 0) (pa_cons (pe_glob (v := .ref cs.NoTable) (by rfl) T.x_NoTable.gC rfl) pa_nil))) (pa_cons (pe_callB (call_isP List.mem_cons_self hC hz hd) (by rfl) T.b_isinstance (by decide +kernel) (pa_cons (pv 0) (pa_cons (pe_glob (v := .ref cs.NoMove) (by rfl) T.x_NoMove.gC rfl) pa_nil))) (pa_cons (pe_callB (call_isP List.mem_cons_self hC hz hd) (by rfl) T.b_isinstance (by decide +kernel) (pa_cons (pv 0) (pa_cons (pe_glob (v := .ref cs.TooLong) (by rfl) T.x_TooLong.gC rfl) pa_nil))) pa_nil))))))
    (pss_cons (ps_expr (pe_bm PySem.F.plainAttrs_list PySem.F.slot_list_append PySem.F.type_list_append mt_append (pv 1) (pa_cons (pe_callB (call_isP List.mem_cons_self hC hz hd) (by rfl) T.b_isinstance (by decide +kernel) (pa_cons (pv 0) (pa_cons (pe_glob (v := .ref cs.NoNote) (by rfl) T.x_NoNote.gC rfl) pa_nil))) pa_nil)))
    (pss_cons (ps_if (PW.pt (pw_or (pt_cmpR op_ne (pe_bm PySem.F.plainAttrs_list PySem.F.slot_list_count PySem.F.type_list_count mt_countF (pv 1) (pa_cons pe_bl pa_nil)) pe_int (nomark _)) (pw_or1 (pt_not (pt_val (pe_callB (call_isP List.mem_cons_self hC hz hd) (by rfl) T.b_isinstance (by decide +kernel) (pa_cons (pv 0) (pa_cons (pe_bltn (v := .ty "ValueError") (by rfl) T.b_ValueError (by decide +kernel) rfl) pa_nil)))))))) (pss_one (ps_ret pe_str)) pss_nil)
    (pss_one (ps_ret (pe_ix ix_list (pe_lst (pa_cons pe_str (pa_cons pe_str (pa_cons pe_str (pa_cons pe_str (pa_cons pe_str pa_nil)))))) (pe_bm PySem.F.plainAttrs_list PySem.F.slot_list_index PySem.F.type_list_index mt_index (pv 1) (pa_cons pe_bl pa_nil)) (fun _ _ => rfl))))))), ?_⟩
    rw [show start ["e", "kinds"] [.ref a] = [some (.ref a), none] from rfl]
    walk_at "go"
    walk_at "if"
    · intro hb
      exact absurd hb (by decide)
    · intro hb H1 e1
      walk_at "go"
      refine d_rIndex 4 (by walk_at "sl") rfl rfl rfl rfl (fun m z hm hz => ?_) ?_
      · match m, hm, hz with
        | 0, _, rfl => rfl
        | 1, _, rfl => rfl
        | 2, _, rfl => rfl
        | 3, _, rfl => rfl
      walk_at "go"
      exact q _ (by walk_at "ex")
theorem u_word_of {cs : Cs} {H : Hp} {Q : VK} {E : XK} {a D : Addr} {s : Str} {j : Nat} (hj : (wordC cs)[j]? = some (D, s)) (q : ∀ H2, Ex H H2 → Q (.str s) H2) : sp__law_word_of K cs a (.ref D) none [.ref a] H Q E := ⟨rfl, rfl, j, D, s, hj, rfl, q⟩

/-! ### _law_pile_by -/
def sp__law_pile_by (K : PySem.W.Frag) : Sp := fun vs H Q _ => ∃ c, vs = [.int c] ∧ ∀ n, Gd n → RetV (.int n) H Q
theorem ok__law_pile_by (F : Df K mg "_law_pile_by" s__law_pile_by) (T : Txt K mg cs)  : Cl P w K mg base 1 "_law_pile_by" (sp__law_pile_by K) := by
  refine cl_of (N := ["cell", "kind"]) (ps := ["cell"]) F (fun _ _ _ _ _ _ us hl => match us, hl with | [_], _ => rfl) sc__law_pile_by (fun vs H Q E h => by obtain ⟨_, rfl, _⟩ := h; rfl) (fun f cdv A outer s H vs Q E hr h => ⟨_, (pss_cons (ps_set (i := 1) sc__law_pile_by.nd rfl (.inl rfl) (pe_op op_mod (pv 0) pe_int))
    (pss_cons (ps_if (pt_cmpR op_eq (pv 1) pe_int (nomark _)) (pss_one (ps_ret (pe_op op_add pe_int (pe_op op_mod (pe_op op_fdivW (pv 0) pe_int) (pe_op op_pow pe_int pe_int))))) pss_nil)
    (pss_one (ps_ret (pe_op op_add pe_int (pe_op op_mod (pe_op op_fdivW (pv 0) pe_int) (pe_ix ix_list (pe_lst (pa_cons pe_int (pa_cons pe_int (pa_cons pe_int (pa_cons pe_int pa_nil))))) (pv 1) (fun _ _ => rfl)))))))), ?_⟩)
  obtain ⟨c, rfl, q⟩ := h
  rw [show start ["cell", "kind"] [.int c] = [some (.int c), none] from rfl]
  walk_at "go"
  walk_at "if"
  · intro hb H1 e1
    walk_at "go"
    refine q _ ⟨?_, ?_⟩ _ (by walk_at "ex") <;> omega
  · intro hb H1 e1
    have hb := of_decide_eq_false hb
    walk_at "go"
    have hk : c % 4 = 0 ∨ c % 4 = 1 ∨ c % 4 = 3 := by omega
    obtain ⟨n, hn, h0, h1⟩ : ∃ n : Int, atI [V.int 12, .int 1000, .int 1, .int 40] (c % 4) = some (.int n) ∧ 1 ≤ n ∧ n ≤ 1000 := by
      rcases hk with e | e | e <;> rw [e]
      · exact ⟨12, rfl, by decide, by decide⟩
      · exact ⟨1000, rfl, by decide, by decide⟩
      · exact ⟨40, rfl, by decide, by decide⟩
    refine d_ixL (v := .int n) (by walk_at "sl") hn ?_
    walk_at "go"
    refine q _ ⟨?_, ?_⟩ _ (by walk_at "ex")
    · have := Int.emod_nonneg (c / 4) (by omega : n ≠ 0); omega
    · have := Int.emod_lt_of_pos (c / 4) (by omega : 0 < n); omega
theorem u_pile_by {H : Hp} {Q : VK} {E : XK} {c : Int} (q : ∀ n, Gd n → ∀ H2, Ex H H2 → Q (.int n) H2) : sp__law_pile_by K [.int c] H Q E := ⟨c, rfl, q⟩
local macro_rules | `(tactic| walk_at "spcall") => `(tactic| ((with_reducible refine u_pile_by ?_); intro _ _ _ _))

/-! ### _law_spoilt -/
def szW (W : List (List Nat)) : Nat := (W.map (·.length)).sum + W.length
theorem szW_app (A B : List (List Nat)) : szW (A ++ B) = szW A + szW B := by
  unfold szW
  rw [List.map_append, List.sum_append, List.length_append]
  omega
theorem szW_one (w : List Nat) : szW [w] = w.length + 1 := by
  unfold szW
  simp
theorem szW_at {W : List (List Nat)} {m : Nat} {w : List Nat} (h : W[m]? = some w) : szW (W.take m) + (w.length + 1) + szW (W.drop (m + 1)) = szW W := by
  obtain ⟨hm, e⟩ := List.getElem?_eq_some_iff.mp h
  subst e
  have e : W = W.take m ++ ([W[m]] ++ W.drop (m + 1)) := by
    rw [List.singleton_append, ← List.drop_eq_getElem_cons hm, List.take_append_drop]
  have := congrArg szW e
  rw [szW_app, szW_app, szW_one] at this
  omega
theorem join_sz (W : List (List Nat)) (c : Nat) : (TL.joinL [c] W).length ≤ szW W := by
  have := joinL_len (s := [c]) (ps := W)
  rw [show ([c] : List Nat).length = 1 from rfl, Nat.mul_one] at this
  exact this
theorem atI_in {α : Type} {L : List α} {k : Int} (h0 : 0 ≤ k) (h1 : k < L.length) : ∃ c, atI L k = some c := by
  obtain ⟨m, rfl⟩ := Int.eq_ofNat_of_zero_le h0
  have hm : m < L.length := by omega
  exact ⟨L[m], atI_nat (List.getElem?_eq_getElem hm)⟩
local macro_rules | `(tactic| walk_at "spcall") => `(tactic| ((with_reducible apply d_repS); (· decide); (· decide); intro _ _))
def sp__law_spoilt (K : PySem.W.Frag) : Sp := fun vs H Q _ => ∃ (p : Addr) (W : List (List Nat)) (k c : Int), vs = [.ref p, .int k, .int c] ∧ H p = some (.lst (W.map tV)) ∧ 0 ≤ k ∧ 0 ≤ c ∧ szW W ≤ 8000 ∧ ∀ l H', Ex H H' → l.length ≤ 2 * szW W + 200 → Q (tV l) H'
theorem ok__law_spoilt (F : Df K mg "_law_spoilt" s__law_spoilt) (T : Txt K mg cs)  : Cl P w K mg base 1 "_law_spoilt" (sp__law_spoilt K) := by
  refine cl_of (N := ["words", "kind", "cell", "text", "place", "sign", "at", "odd", "piles", "k"]) (ps := ["words", "kind", "cell"]) F (fun _ _ _ _ _ _ us hl => match us, hl with | [_, _, _], _ => rfl) sc__law_spoilt (fun vs H Q E h => by obtain ⟨_, _, _, _, rfl, _⟩ := h; rfl) (fun f cdv A outer s H vs Q E hr h => ⟨_, (pss_cons (ps_set (i := 3) sc__law_spoilt.nd rfl (.inl rfl) (pe_joinT pe_str (pv 0)))
    (pss_cons (ps_set (i := 4) sc__law_spoilt.nd rfl (.inl rfl) (pe_op op_mod (pv 2) (pe_op op_add (pe_callB call_lenT (by rfl) T.b_len (by decide +kernel) (pa_cons (pv 3) pa_nil)) pe_int)))
    (pss_cons (ps_set (i := 5) sc__law_spoilt.nd rfl (.inl rfl) (pe_ix ix_str pe_str (pe_op op_mod (pe_op op_fdivW (pv 2) pe_int) pe_int) (fun _ _ => rfl)))
    (pss_cons (ps_if (pt_cmpR op_eq (pv 1) pe_int (nomark _)) (pss_one (ps_ret (pe_op op_addT (pe_op op_addT (pe_slice sl_str (pv 3) po_none (po_some (pv 4))) (pv 5)) (pe_slice sl_str (pv 3) (po_some (pv 4)) po_none)))) pss_nil)
    (pss_cons (ps_if (pt_cmpR op_eq (pv 1) pe_int (nomark _)) (pss_one (ps_ret (pe_op op_addT (pe_slice sl_str (pv 3) po_none (po_some (pv 4))) (pe_slice sl_str (pv 3) (po_some (pe_op op_add (pv 4) pe_int)) po_none)))) pss_nil)
    (pss_cons (ps_if (pt_cmpR op_eq (pv 1) pe_int (nomark _)) (pss_one (ps_ret (pe_op op_addT (pe_op op_addT (pe_slice sl_str (pv 3) po_none (po_some (pv 4))) (pv 5)) (pe_slice sl_str (pv 3) (po_some (pe_op op_add (pv 4) pe_int)) po_none)))) pss_nil)
    (pss_cons (ps_if (pt_cmpR op_eq (pv 1) pe_int (nomark _)) (pss_one (ps_ret (pe_joinT pe_str (pe_op op_cat (pv 0) (pe_lc (own := [("k", 9)]) (g := gName 9) rfl sc__law_spoilt.nd (pi_range1 (by rfl) T.b_range (pa_cons (pe_op op_add pe_int (pe_op op_mod (pv 2) pe_int)) pa_nil)) (blkOk_by (own := [("k", 9)]) (N := ["words", "kind", "cell", "text", "place", "sign", "at", "odd", "piles", "k"]) (sc := defScope s__law_spoilt) (by decide +kernel)) (fun _ _ _ _ _ => (pg_name (i := 9) sc__law_spoilt.nd rfl (.inl rfl))) (fun _ _ _ _ _ => pts_nil) (fun _ _ _ _ _ => pe_str)))))) pss_nil)
    (pss_cons (ps_if (pt_cmpR op_eq (pv 1) pe_int (nomark _)) (pss_one (ps_ret (pe_ix ix_list (pe_lst (pa_cons pe_str (pa_cons pe_str (pa_cons pe_str (pa_cons pe_str (pa_cons pe_str (pa_cons pe_str (pa_cons pe_str (pa_cons pe_str pa_nil))))))))) (pe_op op_mod (pv 2) pe_int) (fun _ _ => rfl)))) pss_nil)
    (pss_cons (ps_if (PW.pt (pw_or (pt_cmpR op_gt (pv 1) pe_int (nomark _)) (pw_or1 (pt_cmpR (op_eqNil (u65 hr)) (pv 0) (pe_lst pa_nil) (nomark _))))) (pss_one (ps_ret (pv 3))) pss_nil)
    (pss_cons (ps_set (i := 6) sc__law_spoilt.nd rfl (.inl rfl) (pe_op op_mod (pv 2) (pe_callB call_lenL (by rfl) T.b_len (by decide +kernel) (pa_cons (pv 0) pa_nil))))
    (pss_cons (ps_set (i := 7) sc__law_spoilt.nd rfl (.inl rfl) (pe_ix ix_list (pe_lst (pa_cons pe_str (pa_cons pe_str (pa_cons (pe_op op_addT pe_str (pe_op op_rep_str pe_str pe_int)) (pa_cons (pe_op op_addT (pe_op op_addT pe_str (pe_op op_rep_str pe_str pe_int)) pe_str) (pa_cons pe_str pa_nil)))))) (pe_op op_sub (pv 1) pe_int) (fun _ _ => rfl)))
    (pss_cons (ps_set (i := 8) sc__law_spoilt.nd rfl (.inl rfl) (pe_splitT (pe_ix ix_list (pv 0) (pv 6) (fun _ _ => rfl)) pe_str))
    (pss_cons (ps_if (pt_cmpR op_ne (pe_callB call_lenL (by rfl) T.b_len (by decide +kernel) (pa_cons (pv 8) pa_nil)) pe_int (nomark _)) (pss_one (ps_ret (pv 3))) pss_nil)
    (pss_cons (ps_asg (pv 7) (pg_sub (pv 8) (pe_op op_mod (pe_op op_fdivW (pv 2) pe_int) pe_int) set_list))
    (pss_one (ps_ret (pe_joinT pe_str (pe_op op_cat (pe_op op_cat (pe_slice sl_list (pv 0) po_none (po_some (pv 6))) (pe_lst (pa_cons (pe_joinT pe_str (pv 8)) pa_nil))) (pe_slice sl_list (pv 0) (po_some (pe_op op_add (pv 6) pe_int)) po_none))))))))))))))))))), ?_⟩)
  obtain ⟨p, W, k, c, rfl, hp, k0, c0, hz, q⟩ := h
  rw [show start ["words", "kind", "cell", "text", "place", "sign", "at", "odd", "piles", "k"] [.ref p, .int k, .int c] = [some (.ref p), some (.int k), some (.int c), none, none, none, none, none, none, none] from rfl]
  have hjl := join_sz W 32
  have hWl : W.length ≤ szW W := by unfold szW; omega
  walk_at "go"
  refine d_rJoin (ys := W) (by walk_at "sl") (by show _ + W.length * 1 ≤ _; unfold szW at hz; omega) ?_
  generalize hL : TL.joinL [32] W = L at *
  walk_at "go"
  have s0 := Int.emod_nonneg (c / 997) (by decide : (19 : Int) ≠ 0)
  have s1 := Int.emod_lt_of_pos (c / 997) (by decide : (0 : Int) < 19)
  obtain ⟨sg, hsg⟩ := atI_in (L := [48, 49, 50, 51, 52, 53, 54, 55, 56, 57, 47, 32, 9, 10, 46, 45, 43, 95, 97]) s0 s1
  refine d_ixS (by decide) hsg ?_
  clear hsg s0 s1
  walk_at "go"
  walk_at "if"
  · intro hb H1 e1
    walk_at "go"
    exact q _ _ (by walk_at "ex") (by simp; omega)
  · intro hb0 H1 e1
    walk_at "go"
    walk_at "if"
    · intro hb H2 e2
      walk_at "go"
      exact q _ _ (by walk_at "ex") (by simp; omega)
    · intro hb1 H2 e2
      walk_at "go"
      walk_at "if"
      · intro hb H3 e3
        walk_at "go"
        exact q _ _ (by walk_at "ex") (by simp; omega)
      · intro hb2 H3 e3
        walk_at "go"
        walk_at "if"
        · intro hb H4 e4
          have m0 := Int.emod_nonneg c (by decide : (3 : Int) ≠ 0)
          have m1 := Int.emod_lt_of_pos c (by decide : (0 : Int) < 3)
          walk_at "go"
          refine d_lcR (n := 1 + c % 3) (by walk_at "ea") (by omega) (fun i acc _ => acc = (List.replicate i [53, 47, 50]).map tV) (fun _ _ _ _ _ _ _ _ r => r) (fun _ => rfl) (fun _ _ => rfl) ?_ ?_
          · rintro i acc H5 hi e5 hl5 rfl
            refine ⟨true, et_yes, fun _ H6 e6 => ?_, fun z => nomatch z⟩
            refine er_ev (v := tV [53, 47, 50]) (by walk_at "ev") fun H7 e7 => ?_
            rw [List.replicate_succ', List.map_append]
            rfl
          · rintro l5 H5 acc n5 e5 f5 rfl
            generalize hn : (1 + c % 3).toNat = n at *
            have hsz : szW (List.replicate n [53, 47, 50]) ≤ 12 := by
              have : n = 1 ∨ n = 2 ∨ n = 3 := by omega
              rcases this with e | e | e <;> rw [e] <;> decide
            walk_at "go"
            rename_i l6 H6 n6 e6 f6
            rw [← List.map_append] at f6
            have hs := szW_app W (List.replicate n [53, 47, 50])
            have hj := join_sz (W ++ List.replicate n [53, 47, 50]) 32
            refine d_rJoin (ys := W ++ List.replicate n [53, 47, 50]) (by walk_at "sl") (by show _ + _ * 1 ≤ _; unfold szW at hs hz hsz; omega) ?_
            exact q _ _ (by walk_at "ex") (by omega)
        · intro hb3 H4 e4
          walk_at "go"
          walk_at "if"
          · intro hb H5 e5
            walk_at "go"
            rename_i l6 H6 n6 e6 f6
            have m0 := Int.emod_nonneg c (by decide : (8 : Int) ≠ 0)
            have m1 := Int.emod_lt_of_pos c (by decide : (0 : Int) < 8)
            generalize c % 8 = kk at *
            obtain ⟨r, hat, hr⟩ : ∃ r, atI [tV [], tV [32], tV [32, 32], tV [9], tV [10], tV [32, 10], tV [47], tV [48]] kk = some (tV r) ∧ r.length ≤ 2 := by
              have hk : kk = 0 ∨ kk = 1 ∨ kk = 2 ∨ kk = 3 ∨ kk = 4 ∨ kk = 5 ∨ kk = 6 ∨ kk = 7 := by omega
              rcases hk with e | e | e | e | e | e | e | e <;> rw [e] <;> exact ⟨_, rfl, by decide⟩
            refine d_ixL (by walk_at "sl") hat ?_
            exact q _ _ (by walk_at "ex") (by omega)
          · intro hb4 H5 e5
            walk_at "go"
            walk_at "if"
            · intro hb H6 e6
              walk_at "go"
              exact q _ _ (by walk_at "ex") (by omega)
            · intro hb5 H6 e6
              simp at hb0 hb1 hb2 hb3 hb4 hb5
              have hW0 : 0 < (W.map tV).length := by
                rw [List.length_map]
                exact List.length_pos_iff.mpr hb5.2
              have hW1 : 0 < W.length := by rw [List.length_map] at hW0; exact hW0
              walk_at "go"
              rename_i b1 hb1l b2 hb2l lo H7 n7 e7 f7
              obtain ⟨o, hat, ho⟩ : ∃ o, atI [tV [48], tV [48, 48], tV ([49] ++ b1), tV ([49] ++ b2 ++ [49]), tV []] (k - 5) = some (tV o) ∧ o.length ≤ 33 := by
                have hk : k = 5 ∨ k = 6 ∨ k = 7 ∨ k = 8 ∨ k = 9 := by omega
                have h1 : b1.length = 31 := by omega
                have h2 : b2.length = 29 := by omega
                rcases hk with e | e | e | e | e <;> rw [e]
                · exact ⟨_, rfl, by decide⟩
                · exact ⟨_, rfl, by decide⟩
                · exact ⟨_, rfl, by simp [h1]⟩
                · exact ⟨_, rfl, by simp [h2]⟩
                · exact ⟨_, rfl, by decide⟩
              refine d_ixL (by walk_at "sl") hat ?_
              clear hat
              walk_at "go"
              have a0 := Int.emod_nonneg c (show ((W.map tV).length : Int) ≠ 0 by omega)
              have a1 := Int.emod_lt_of_pos c (show 0 < ((W.map tV).length : Int) by omega)
              obtain ⟨m, hm⟩ := Int.eq_ofNat_of_zero_le a0
              rw [hm] at a1
              rw [List.length_map] at a1
              have hm2 : m < W.length := by omega
              have hmw : W[m]? = some (W[m]) := List.getElem?_eq_getElem hm2
              generalize W[m] = w at hmw
              have hsw := szW_at hmw
              have hatw : atI (W.map tV) (c % ((W.map tV).length : Int)) = some (tV w) := by
                rw [hm]
                exact atI_nat (by rw [List.getElem?_map, hmw]; rfl)
              refine d_ixL (by walk_at "sl") hatw ?_
              rw [hm]
              clear hatw
              walk_at "go"
              rename_i ps H8 n8 e8 f8
              have hss := spl_sum 47 w []
              generalize TL.spl [47] 0 [] w = P at *
              walk_at "if"
              · intro hb H9 e9
                walk_at "go"
                exact q _ _ (by walk_at "ex") (by omega)
              · intro hb6 H9 e9
                have hP2 : P.length = 2 := by simp at hb6; omega
                obtain ⟨x, y, rfl⟩ : ∃ x y, P = [x, y] := by
                  match P, hP2 with
                  | [x, y], _ => exact ⟨x, y, rfl⟩
                have hxy : x.length + y.length + 1 = w.length := by
                  simp at hss
                  omega
                have f9 : H9 ps = some (.lst [tV x, tV y]) := e9 _ _ f8
                walk_at "go"
                have j0 := Int.emod_nonneg (c / 7) (by decide : (2 : Int) ≠ 0)
                have j1 := Int.emod_lt_of_pos (c / 7) (by decide : (0 : Int) < 2)
                generalize c / 7 % 2 = jj at *
                obtain ⟨j, x', y', hj, hset, hlen⟩ : ∃ (j : Nat) (x' y' : List Nat), ixN ([tV x, tV y] : List V).length jj = some j ∧ ([tV x, tV y] : List V).set j (tV o) = [tV x', tV y'] ∧ x'.length + y'.length ≤ w.length + 33 := by
                  have hk : jj = 0 ∨ jj = 1 := by omega
                  rcases hk with e | e <;> rw [e]
                  · exact ⟨0, o, y, rfl, rfl, by omega⟩
                  · exact ⟨1, x, o, rfl, rfl, by omega⟩
                refine d_rSetL f9 hj fun H10 b10 f10 => ?_
                rw [hset] at f10
                have np9 : p ≠ ps := fun z => by
                  have hp8 : H p = some (.lst (W.map tV)) := hp
                  have : Ex H H7 := by walk_at "ex"
                  rw [z] at hp8
                  have := this _ _ hp8
                  rw [this] at n8
                  cases n8
                have hp10 : H10 p = some (.lst (W.map tV)) := b10 _ _ (by walk_at "hl") np9
                have ex10 : Ex H H10 := Exb.base b10 (show H ps = none from fresh_back (show Ex H H7 by walk_at "ex") n8) (by walk_at "ex")
                clear b10
                walk_at "nx"
                walk_at "go"
                rename_i l1 H11 n11 e11 f11
                rw [cut_take _ (by omega), Int.toNat_natCast, ← List.map_take] at f11
                have hj2 := join_sz [x', y'] 47
                have hsz2 : szW [x', y'] = x'.length + y'.length + 2 := by unfold szW; simp
                refine d_rJoin (ys := [x', y']) (by walk_at "sl") (by show _ + 2 * 1 ≤ _; simp; omega) ?_
                generalize TL.joinL [47] [x', y'] = J at *
                walk_at "go"
                rename_i l2 H12 n12 e12 f12 l3 H13 n13 e13 f13 l4 H14 n14 e14 f14
                have e1m : ((m : Int) + 1).toNat = m + 1 := by omega
                rw [cut_drop _ (by omega), e1m, ← List.map_drop] at f14
                have hl4 : ((W.drop (m + 1)).map tV).length ≤ 8000 := by rw [List.length_map, List.length_drop]; omega
                walk_at "go"
                rename_i l5 H15 n15 e15 f15
                have hs1 := szW_app (W.take m ++ [J]) (W.drop (m + 1))
                have hs2 := szW_app (W.take m) [J]
                have hs3 := szW_one J
                have f15 : H15 l5 = some (.lst ((W.take m ++ [J] ++ W.drop (m + 1)).map tV)) := by
                  rw [f15]
                  simp
                have hjj := join_sz (W.take m ++ [J] ++ W.drop (m + 1)) 32
                generalize W.take m ++ [J] ++ W.drop (m + 1) = U at *
                refine d_rJoin (ys := U) (by walk_at "sl") (by show _ + U.length * 1 ≤ _; unfold szW at *; omega) ?_
                exact q _ _ (by walk_at "ex") (by omega)
theorem u_spoilt {H : Hp} {Q : VK} {E : XK} {p : Addr} {W : List (List Nat)} {k c : Int} (hp : H p = some (.lst (W.map tV))) (k0 : 0 ≤ k) (c0 : 0 ≤ c) (hz : szW W ≤ 8000) (q : ∀ l H', Ex H H' → l.length ≤ 2 * szW W + 200 → Q (tV l) H') : sp__law_spoilt K [.ref p, .int k, .int c] H Q E := ⟨p, W, k, c, rfl, hp, k0, c0, hz, q⟩

/-! ### _law_number -/

def sp__law_number (K : PySem.W.Frag) : Sp := fun vs H Q _ => ∃ a : List Nat, vs = [tV a] ∧ a.length ≤ 50000 ∧ (NumOk a → ∀ H', Ex H H' → Q (.int (digV a)) H') ∧ (¬ NumOk a → ∀ H', Ex H H' → Q (.int (-1)) H')
theorem ok__law_number (F : Df K mg "_law_number" s__law_number) (T : Txt K mg cs)  : Cl P w K mg base 1 "_law_number" (sp__law_number K) := by
  refine cl_of (N := ["word", "sign"]) (ps := ["word"]) F (fun _ _ _ _ _ _ us hl => match us, hl with | [_], _ => rfl) sc__law_number (fun vs H Q E h => by obtain ⟨_, rfl, _⟩ := h; rfl) (fun f cdv A outer s H vs Q E hr h => ⟨_, (pss_cons (ps_if (PW.pt (pw_or (pt_cmpR op_lt (pe_callB call_lenT (by rfl) T.b_len (by decide +kernel) (pa_cons (pv 0) pa_nil)) pe_int (nomark _)) (pw_or (pt_cmpR op_gt (pe_callB call_lenT (by rfl) T.b_len (by decide +kernel) (pa_cons (pv 0) pa_nil)) pe_int (nomark _)) (pw_or1 (PW.pt (pw_and (pt_cmpR op_gt (pe_callB call_lenT (by rfl) T.b_len (by decide +kernel) (pa_cons (pv 0) pa_nil)) pe_int (nomark _)) (pw_and1 (pt_cmpR op_eq (pe_ix ix_str (pv 0) pe_int (fun _ _ => rfl)) pe_str (nomark _))))))))) (pss_one (ps_ret (pe_un un_neg pe_int))) pss_nil)
    (pss_cons (ps_for PassesOwn.never rfl (pi_str (pv 0)) (pg_name (i := 1) sc__law_number.nd rfl (.inl rfl)) (pss_one (ps_if (pt_cmpR op_notInS (pv 1) pe_str rfl) (pss_one (ps_ret (pe_un un_neg pe_int))) pss_nil)))
    (pss_one (ps_ret (pe_callTy call_intT (by rfl) T.b_int (by decide +kernel) (pa_cons (pv 0) pa_nil)))))), ?_⟩)
  obtain ⟨a, rfl, hl, q, qe⟩ := h
  rw [show start ["word", "sign"] [tV a] = [some (tV a), none] from rfl]
  walk_at "go"
  match a, hl, q, qe with
  | [], hl, q, qe =>
    refine d_if (b := true) ?_ (fun _ H1 e1 => ?_) (fun z => nomatch z)
    · apply et_orT
      apply et_is
      · walk_at "et"
      · rfl
    · walk_at "go"
      exact qe (fun z => z.1 rfl) _ (by walk_at "ex")
  | c :: r, hl, q, qe =>
    have hat : atI (c :: r) 0 = some c := atI_nat (j := 0) rfl
    walk_at "if"
    · intro hb H1 e1
      walk_at "go"
      refine qe (fun z => ?_) _ (by walk_at "ex")
      obtain ⟨z1, z2, z3, z4⟩ := z
      have hz : (c :: r).length = r.length + 1 := rfl
      simp only [Bool.or_eq_true, Bool.and_eq_true, decide_eq_true_eq, hz] at hb
      rw [hz] at z2
      rcases hb with hb | hb | ⟨hb, hb2⟩
      · omega
      · omega
      · refine z3 ⟨?_, fun z => ?_⟩
        · have : c = 48 := by simpa using hb2
          rw [this]; rfl
        · have := congrArg List.length z
          rw [hz] at this
          have : r.length + 1 = 1 := this
          omega
    · intro hb H1 e1
      have hz : (c :: r).length = r.length + 1 := rfl
      have b1 : (c :: r).length ≤ 31 := by
        simp only [Bool.or_eq_false_iff, decide_eq_false_iff_not, hz] at hb
        rw [hz]
        omega
      have b2 : ¬ ((c :: r).head? = some 48 ∧ c :: r ≠ [48]) := fun z => by
        have z1 : c = 48 := by simpa using z.1
        subst z1
        by_cases cr : r = []
        · subst cr
          exact z.2 rfl
        · have : 0 < r.length := List.length_pos_iff.mpr cr
          simp only [Bool.or_eq_false_iff, Bool.and_eq_false_iff, decide_eq_false_iff_not, hz] at hb
          rcases hb.2.2 with w | w
          · omega
          · first | exact w trivial | exact w rfl
      walk_at "go"
      refine d_forStr (a := c :: r) (by walk_at "ev") (fun i σ' H' => Ex H1 H' ∧ (∃ z, σ' = [some (tV (c :: r)), z]) ∧ ∀ j < i, ∀ d, (c :: r)[j]? = some d → 48 ≤ d ∧ d ≤ 57)
        (fun H2 e2 => ⟨e2, ⟨_, rfl⟩, fun j hj => absurd hj (Nat.not_lt_zero j)⟩) ?_ ?_
      · rintro i d σ' H2 hi ⟨e2, ⟨z, rfl⟩, hj⟩
        walk_at "nx"
        have hd : d ∈ [48, 49, 50, 51, 52, 53, 54, 55, 56, 57] ↔ 48 ≤ d ∧ d ≤ 57 := by
          simp only [List.mem_cons, List.not_mem_nil, or_false]
          omega
        walk_at "if"
        · intro hb2 H3 e3
          walk_at "go"
          refine qe (fun z => ?_) _ (by walk_at "ex")
          have := z.2.2.2 d (List.mem_of_getElem? hi)
          simp only [Bool.not_eq_true', decide_eq_false_iff_not] at hb2
          exact hb2 (hd.mpr this)
        · intro hb2 H3 e3
          have hb2 : d ∈ [48, 49, 50, 51, 52, 53, 54, 55, 56, 57] := by
            simp only [Bool.not_eq_false', decide_eq_true_eq] at hb2
            exact hb2
          walk_at "go"
          refine ⟨by walk_at "ex", ⟨_, rfl⟩, fun j hj2 d' hd' => ?_⟩
          by_cases c2 : j = i
          · subst c2
            rw [hi] at hd'
            cases hd'
            exact hd.mp hb2
          · exact hj j (by omega) d' hd'
      · rintro σ' H2 ⟨e2, ⟨z, rfl⟩, hj⟩
        have hok : NumOk (c :: r) := ⟨by simp, b1, b2, fun d hd => by
          obtain ⟨j, hj1, rfl⟩ := List.getElem_of_mem hd
          exact hj j hj1 _ (List.getElem?_eq_getElem hj1)⟩
        walk_at "go"
        refine d_intT (num_int hok) (by omega) ?_
        exact q hok _ (by walk_at "ex")
open Classical in
noncomputable def numV (a : List Nat) : Int := if NumOk a then digV a else -1
theorem numV_ok {a : List Nat} (h : NumOk a) : numV a = digV a := if_pos h
theorem numV_no {a : List Nat} (h : ¬ NumOk a) : numV a = -1 := if_neg h
theorem digV_nonneg (a : List Nat) : 0 ≤ digV a := Int.natCast_nonneg _
theorem numV_neg {a : List Nat} : numV a < 0 ↔ ¬ NumOk a := by
  by_cases h : NumOk a
  · rw [numV_ok h]
    have := digV_nonneg a
    exact ⟨fun z => by omega, fun z => absurd h z⟩
  · rw [numV_no h]
    exact ⟨fun _ => h, fun _ => by decide⟩
theorem u_law_number {H : Hp} {Q : VK} {E : XK} {a : List Nat} (hl : a.length ≤ 50000) (q : ∀ H', Ex H H' → Q (.int (numV a)) H') : sp__law_number K [tV a] H Q E := by
  refine ⟨a, rfl, hl, fun h H' e => ?_, fun h H' e => ?_⟩
  · have := q H' e
    rw [numV_ok h] at this
    exact this
  · have := q H' e
    rw [numV_no h] at this
    exact this
local macro_rules | `(tactic| walk_at "spcall") => `(tactic| ((with_reducible apply u_law_number); (· walk_at "sz"); intro _ _))

/-! ### asked_table -/
def sp_asked_table (K : PySem.W.Frag) (cs : Cs) : Sp := fun vs H Q E => ∃ v T, vs = [v] ∧ Tb K H v T ∧ (T.length ≤ 6 → GdT T → RetV .non H Q) ∧ (¬ T.length ≤ 6 → ∀ H', Ex H H' → E (.ref cs.NoTable) none H') ∧ (T.length ≤ 6 → ¬ GdT T → ∀ H', Ex H H' → E (.ref cs.NoPair) none H')
theorem ok_asked_table (F : Df K mg "asked_table" s_asked_table) (T : Txt K mg cs) (c_asked_pair : ClX P w K mg base 1 "asked_pair" (sp_asked_pair K cs)) : ClX P w K mg base 2 "asked_table" (sp_asked_table K cs) := by
  refine clX_of (N := ["table", "pair"]) (ps := ["table"]) F (fun _ _ _ _ _ _ us hl => match us, hl with | [_], _ => rfl) sc_asked_table (fun vs H Q E h => by obtain ⟨_, _, rfl, _⟩ := h; rfl) (fun f cdv A outer s H vs Q E hr h => ⟨_, (pss_cons (ps_if (pt_cmpR op_gt (pe_callB call_lenL (by rfl) T.b_len (by decide +kernel) (pa_cons (pv 0) pa_nil)) (pe_gc (by rfl) T.g_MOST) (nomark _)) (pss_one (ps_raise rfl (takes_of rfl rfl rfl rfl) (pmk_own PySem.F.excBase_ValueError T.x_NoTable.xC T.x_NoTable.gC T.x_NoTable.kC (raises_own T.x_NoTable.bC T.x_NoTable.tC) (by exact rfl)))) pss_nil)
    (pss_one (ps_for (passes_of rfl) rfl (pi_list (pv 0)) (pg_name (i := 1) sc_asked_table.nd rfl (.inl rfl)) (pss_one (ps_expr (pe_clX c_asked_pair hr (by decide) (by rfl) (takes_of rfl rfl rfl rfl) (pa_cons (pv 1) pa_nil))))))), ?_⟩)
  obtain ⟨v, T, rfl, hT, q, qt, qp⟩ := h
  rw [show start ["table", "pair"] [v] = [some (v), none] from rfl]
  walk_at "go"
  walk_at "if"
  · intro hb H1 e1
    simp at hb
    exact qt (by omega) _ (by walk_at "ex")
  · intro hb H1 e1
    simp at hb
    have hl : T.length ≤ 6 := by omega
    walk_at "go"
    refine d_forT (T := T) (by walk_at "ev") (by walk_at "tb") (fun i σ' H' => Ex H1 H' ∧ (∃ z, σ' = [some v, z]) ∧ ∀ j < i, ∀ p, T[j]? = some p → Gd p.1 ∧ Gd p.2) (fun H2 e2 => ⟨e2, ⟨_, rfl⟩, fun j hj => absurd hj (Nat.not_lt_zero j)⟩) (fun i σ' H' h => h.1) ?_ ?_
    · rintro i w p σ' H' hi hp ⟨e2, ⟨z, rfl⟩, hj⟩
      walk_at "nx"
      by_cases hg : Gd p.1 ∧ Gd p.2
      · obtain ⟨g1, g2⟩ := hg
        walk_at "go"
        refine ⟨by walk_at "ex", ⟨_, rfl⟩, fun j hj2 p' hp' => ?_⟩
        by_cases c : j = i
        · subst c
          rw [hi] at hp'
          cases hp'
          exact ⟨g1, g2⟩
        · exact hj j (by omega) p' hp'
      · walk_at "go"
        exact ⟨w, _, _, rfl, by walk_at "pr", fun a b => absurd ⟨a, b⟩ hg, fun _ H2 e3 => qp hl (fun z => hg (z p (List.mem_of_getElem? hi))) _ (by walk_at "ex")⟩
    · rintro σ' H' ⟨e2, ⟨z, rfl⟩, hj⟩
      refine q hl (fun p hp => ?_) _ (by walk_at "ex")
      obtain ⟨j, hj1, rfl⟩ := List.getElem_of_mem hp
      exact hj j hj1 _ (List.getElem?_eq_getElem hj1)
theorem u_asked_table {cs : Cs} {H : Hp} {Q : VK} {E : XK} {v : V} {T : List (Int × Int)} (hT : Tb K H v T) (hl : T.length ≤ 6) (hG : GdT T) (q : ∀ H2, Ex H H2 → Q .non H2) : sp_asked_table K cs [v] H Q E := ⟨v, T, rfl, hT, fun _ _ => q, fun z => absurd hl z, fun _ z => absurd hG z⟩
local macro_rules | `(tactic| walk_at "spcall") => `(tactic| ((with_reducible apply u_asked_table); (· walk_at "tb"); (· assumption); (· assumption); intro _ _))

/-! ### pair_of -/

def sp_pair_of (K : PySem.W.Frag) (cs : Cs) : Sp := fun vs H Q E => ∃ w : List Nat, vs = [tV w] ∧ w.length ≤ 50000 ∧ (∀ a b, TL.spl [47] 0 [] w = [a, b] → NumOk a → NumOk b → ∀ v H', Ex H H' → Pr K H' v (digV a) (digV b) → Q v H') ∧
  (¬ PairOk w → ∀ H', Ex H H' → E (.ref cs.NoNote) none H')
theorem ok_pair_of (F : Df K mg "pair_of" s_pair_of) (T : Txt K mg cs) (c_number_of : ClX P w K mg base 1 "number_of" (sp_number_of K cs)) : ClX P w K mg base 2 "pair_of" (sp_pair_of K cs) := by
  refine clX_of (N := ["word", "piles"]) (ps := ["word"]) F (fun _ _ _ _ _ _ us hl => match us, hl with | [_], _ => rfl) sc_pair_of (fun vs H Q E h => by obtain ⟨_, rfl, _⟩ := h; rfl) (fun f cdv A outer s H vs Q E hr h => ⟨_, (pss_cons (ps_set (i := 1) sc_pair_of.nd rfl (.inl rfl) (pe_splitT (pv 0) pe_str))
    (pss_cons (ps_if (pt_cmpR op_ne (pe_callB call_lenL (by rfl) T.b_len (by decide +kernel) (pa_cons (pv 1) pa_nil)) pe_int (nomark _)) (pss_one (ps_raise rfl (takes_of rfl rfl rfl rfl) (pmk_own PySem.F.excBase_ValueError T.x_NoNote.xC T.x_NoNote.gC T.x_NoNote.kC (raises_own T.x_NoNote.bC T.x_NoNote.tC) (by exact rfl)))) pss_nil)
    (pss_one (ps_ret (pe_tup (pa_cons (pe_clX c_number_of hr (by decide) (by rfl) (takes_of rfl rfl rfl rfl) (pa_cons (pe_ix ix_list (pv 1) pe_int (fun _ _ => rfl)) pa_nil)) (pa_cons (pe_clX c_number_of hr (by decide) (by rfl) (takes_of rfl rfl rfl rfl) (pa_cons (pe_ix ix_list (pv 1) pe_int (fun _ _ => rfl)) pa_nil)) pa_nil))))))), ?_⟩)
  obtain ⟨w, rfl, hl, q, qe⟩ := h
  rw [show start ["word", "piles"] [tV w] = [some (tV w), none] from rfl]
  have hsl := spl_len (s := 47) (w := w)
  have hsw := spl_part_len (s := 47) (w := w)
  walk_at "go"
  rename_i p H1 n1 e1 f1
  generalize hP : TL.spl [47] 0 [] w = P at *
  walk_at "if"
  · intro hb H2 e2
    refine qe (fun z => ?_) _ (by walk_at "ex")
    obtain ⟨a, b, z1, z2, z3⟩ := z
    rw [hP] at z1
    subst z1
    simp at hb
  · intro hb H2 e2
    match P, hb, hP, hsw, f1 with
    | [], hb, _, _, _ => simp at hb
    | [_], hb, _, _, _ => simp at hb
    | _ :: _ :: _ :: _, hb, _, _, _ => simp at hb; omega
    | [a, b], hb, hP, hsw, f1 =>
      have la : a.length ≤ 50000 := Nat.le_trans (hsw a (by simp)) hl
      have lb : b.length ≤ 50000 := Nat.le_trans (hsw b (by simp)) hl
      have ia : atI [tV a, tV b] 0 = some (tV a) := rfl
      have ib : atI [tV a, tV b] 1 = some (tV b) := rfl
      have f1 : H1 p = some (.lst [tV a, tV b]) := f1
      by_cases ha : NumOk a
      · by_cases hb2 : NumOk b
        · walk_at "go"
          exact q a b rfl ha hb2 _ _ (by walk_at "ex") (by walk_at "pr")
        · walk_at "go"
          refine ⟨b, rfl, lb, fun z => absurd z hb2, fun _ H3 e3 => qe (fun z => ?_) _ (by walk_at "ex")⟩
          obtain ⟨a', b', z1, z2, z3⟩ := z
          rw [hP] at z1
          cases z1
          exact hb2 z3
      · walk_at "go"
        refine ⟨a, rfl, la, fun z => absurd z ha, fun _ H3 e3 => qe (fun z => ?_) _ (by walk_at "ex")⟩
        obtain ⟨a', b', z1, z2, z3⟩ := z
        rw [hP] at z1
        cases z1
        exact ha z2
theorem u_pair_of {cs : Cs} {H : Hp} {Q : VK} {E : XK} {w a b : List Nat} (hl : w.length ≤ 50000) (hP : TL.spl [47] 0 [] w = [a, b]) (ha : NumOk a) (hb : NumOk b) (q : ∀ v H', Ex H H' → Pr K H' v (digV a) (digV b) → Q v H') : sp_pair_of K cs [tV w] H Q E :=
  ⟨w, rfl, hl, fun a' b' h1 _ _ v H' e p => by
    rw [hP] at h1
    cases h1
    exact q v H' e p, fun z => absurd ⟨a, b, hP, ha, hb⟩ z⟩
local macro_rules | `(tactic| walk_at "spcall") => `(tactic| ((with_reducible apply u_pair_of); (· walk_at "sz"); (· assumption); (· assumption); (· assumption); intro _ _ _ _))

/-! ### _law_pair_by -/
def fibP : Nat → Int × Int
  | 0 => (1, 1)
  | n + 1 => ((fibP n).2, (fibP n).1 + (fibP n).2)
def fibT : Nat → Int → Int → Bool
  | 0, a, b => decide (1 ≤ a ∧ a ≤ 1000000000000000000000000000000 ∧ 1 ≤ b ∧ b ≤ 1000000000000000000000000000000)
  | n + 1, a, b => decide (1 ≤ a ∧ a ≤ 1000000000000000000000000000000 ∧ 1 ≤ b ∧ b ≤ 1000000000000000000000000000000) && fibT n b (a + b)
theorem fibT_ok : fibT 140 1 1 = true := by decide +kernel
theorem fibT_at : ∀ (i n : Nat) (a b : Int), fibT (i + n) a b = true → (∀ j, (a, b) = fibP j → Gd (fibP (j + i)).1 ∧ Gd (fibP (j + i)).2)
  | 0, 0, a, b, h, j, e => by
    have h := of_decide_eq_true h
    rw [Nat.add_zero, ← e]
    exact ⟨⟨h.1, h.2.1⟩, ⟨h.2.2.1, h.2.2.2⟩⟩
  | 0, n + 1, a, b, h, j, e => by
    have h := of_decide_eq_true (Bool.and_eq_true _ _ ▸ (show (_ && _) = true by rw [Nat.zero_add] at h; exact h)).1
    rw [Nat.add_zero, ← e]
    exact ⟨⟨h.1, h.2.1⟩, ⟨h.2.2.1, h.2.2.2⟩⟩
  | i + 1, n, a, b, h, j, e => by
    have e1 : i + 1 + n = (i + n) + 1 := by omega
    rw [e1] at h
    have h2 := ((Bool.and_eq_true _ _).mp h).2
    have := fibT_at i n b (a + b) h2 (j + 1) (by
      show (b, a + b) = ((fibP j).2, (fibP j).1 + (fibP j).2)
      rw [← e])
    rw [show j + (i + 1) = j + 1 + i by omega]
    exact this
theorem fib_gd {i : Nat} (h : i ≤ 140) : Gd (fibP i).1 ∧ Gd (fibP i).2 := by
  have := fibT_at i (140 - i) 1 1 (by rw [show i + (140 - i) = 140 by omega]; exact fibT_ok) 0 rfl
  rwa [Nat.zero_add] at this
def MidPair (a : Addr) (n : Int) (c : Int) (H : Hp) (σ' : L2.St) (H' : Hp) : Prop := ∃ x y k, σ' = [some (.ref a), some (.int n), some (.int x), some (.int y), some (.int c), k] ∧ Gd x ∧ Gd y ∧ Ex H H'
def sp__law_pair_by (K : PySem.W.Frag) : Sp := fun vs H Q _ => ∃ (a : Addr) (ns : List Int) (n : Int), vs = [.ref a, .int n] ∧ SqL K H a (ns.map V.int) ∧ 0 ≤ n ∧ ∀ v H' x y, Ex H H' → Pr K H' v x y → Gd x → Gd y → Q v H'
theorem ok__law_pair_by (F : Df K mg "_law_pair_by" s__law_pair_by) (T : Txt K mg cs) (c__law_cell_at : Cl P w K mg base 1 "_law_cell_at" (sp__law_cell_at K)) (c__law_pile_by : Cl P w K mg base 1 "_law_pile_by" (sp__law_pile_by K)) : Cl P w K mg base 2 "_law_pair_by" (sp__law_pair_by K) := by
  refine cl_of (N := ["script", "at", "one", "other", "cell", "k"]) (ps := ["script", "at"]) F (fun _ _ _ _ _ _ us hl => match us, hl with | [_, _], _ => rfl) sc__law_pair_by (fun vs H Q E h => by obtain ⟨_, _, _, rfl, _⟩ := h; rfl) (fun f cdv A outer s H vs Q E hr h => ⟨_, (pss_cons (ps_set (i := 2) sc__law_pair_by.nd rfl (.inl rfl) (pe_cl c__law_pile_by hr (by decide) (by rfl) (pa_cons (pe_cl c__law_cell_at hr (by decide) (by rfl) (pa_cons (pv 0) (pa_cons (pv 1) pa_nil))) pa_nil)))
    (pss_cons (ps_set (i := 3) sc__law_pair_by.nd rfl (.inl rfl) (pe_cl c__law_pile_by hr (by decide) (by rfl) (pa_cons (pe_cl c__law_cell_at hr (by decide) (by rfl) (pa_cons (pv 0) (pa_cons (pe_op op_add (pv 1) pe_int) pa_nil))) pa_nil)))
    (pss_cons (ps_set (i := 4) sc__law_pair_by.nd rfl (.inl rfl) (pe_cl c__law_cell_at hr (by decide) (by rfl) (pa_cons (pv 0) (pa_cons (pe_op op_add (pv 1) pe_int) pa_nil))))
    (pss_cut (ps_if (pt_cmpR op_eq (pe_op op_mod (pv 4) pe_int) pe_int (nomark _)) (pss_one (ps_set (i := 3) sc__law_pair_by.nd rfl (.inl rfl) (pv 2))) pss_nil)
    (pss_cut (ps_if (pt_cmpR op_eq (pe_op op_mod (pv 4) pe_int) pe_int (nomark _)) (pss_one (ps_set (i := 3) sc__law_pair_by.nd rfl (.inl rfl) (pe_callB (call_min2' rfl) (by rfl) T.b_min (by decide +kernel) (pa_cons (pe_op op_pow pe_int pe_int) (pa_cons (pe_op op_mulW (pv 2) (pe_op op_add pe_int (pe_op op_mod (pe_op op_fdivW (pv 4) pe_int) pe_int))) pa_nil))))) pss_nil)
    (pss_cut (ps_if (pt_cmpR op_eq (pe_op op_mod (pv 4) pe_int) pe_int (nomark _)) (pss_cons (ps_asg (pe_tup (pa_cons pe_int (pa_cons pe_int pa_nil))) (pg_tup (n := 2) rfl (pgs_cons (pg_name (i := 2) sc__law_pair_by.nd rfl (.inl rfl)) (pgs_cons (pg_name (i := 3) sc__law_pair_by.nd rfl (.inl rfl)) pgs_nil))))
    (pss_one (ps_for PassesOwn.never rfl (pi_range1 (by rfl) T.b_range (pa_cons (pe_op op_mod (pe_op op_fdivW (pv 4) pe_int) pe_int) pa_nil)) (pg_name (i := 5) sc__law_pair_by.nd rfl (.inl rfl)) (pss_one (ps_par (i := 2) (j := 3) rfl sc__law_pair_by.nd rfl rfl (by decide) rfl rfl (pa_cons (pv 3) (pa_cons (pe_op op_add (pv 2) (pv 3)) pa_nil)) rfl))))) pss_nil)
    (pss_cut (ps_if (pt_cmpR op_eq (pe_op op_mod (pv 4) pe_int) pe_int (nomark _)) (pss_one (ps_set (i := 3) sc__law_pair_by.nd rfl (.inl rfl) (pe_callB (call_min2' rfl) (by rfl) T.b_min (by decide +kernel) (pa_cons (pe_op op_pow pe_int pe_int) (pa_cons (pe_op op_add (pe_op op_add (pv 2) pe_int) (pe_op op_mod (pe_op op_fdivW (pv 4) pe_int) pe_int)) pa_nil))))) pss_nil)
    (pss_cons (ps_if (pt_cmpR op_eq (pe_op op_mod (pe_op op_fdivW (pv 4) pe_int) pe_int) pe_int (nomark _)) (pss_one (ps_ret (pe_tup (pa_cons (pv 3) (pa_cons (pv 2) pa_nil))))) pss_nil)
    (pss_one (ps_ret (pe_tup (pa_cons (pv 2) (pa_cons (pv 3) pa_nil))))))))))))), ?_⟩)
  obtain ⟨a, ns, n, rfl, hs, hn, q⟩ := h
  rw [show start ["script", "at", "one", "other", "cell", "k"] [.ref a, .int n] = [some (.ref a), some (.int n), none, none, none, none] from rfl]
  walk_at "go"
  rename_i x gx H1 e1 _ _ y gy H2 e2 H3 e3
  generalize cellL ns (n + 2).toNat = c
  -- other = one
  refine ⟨MidPair a n c H, ?_, ?_⟩
  · walk_at "if"
    · intro hb H4 e4
      walk_at "go"
      exact ⟨_, _, _, rfl, gx, gx, by walk_at "ex"⟩
    · intro hb H4 e4
      walk_at "go"
      exact ⟨_, _, _, rfl, gx, gy, by walk_at "ex"⟩
  clear gx gy
  rintro σ' H' ⟨x, y, k, rfl, ⟨gx1, gx2⟩, gy, e⟩
  -- a multiple
  refine ⟨MidPair a n c H, ?_, ?_⟩
  · walk_at "if"
    · intro hb H4 e4
      have r1 := Int.emod_nonneg (c / 16) (by decide : (9 : Int) ≠ 0)
      have r2 := Int.emod_lt_of_pos (c / 16) (by decide : (0 : Int) < 9)
      have r3 : 1 ≤ x * (1 + c / 16 % 9) := by
        have := Int.mul_le_mul gx1 (show (1 : Int) ≤ 1 + c / 16 % 9 by omega) (by decide) (by omega)
        omega
      walk_at "go"
      exact ⟨_, _, _, rfl, ⟨gx1, gx2⟩, ⟨by omega, by omega⟩, by walk_at "ex"⟩
    · intro hb H4 e4
      walk_at "go"
      exact ⟨_, _, _, rfl, ⟨gx1, gx2⟩, gy, by walk_at "ex"⟩
  clear gx1 gx2 gy
  rintro σ' H' ⟨x, y, k, rfl, gx, gy, e⟩
  -- neighbours
  refine ⟨MidPair a n c H, ?_, ?_⟩
  · walk_at "if"
    · intro hb H4 e4
      have r1 := Int.emod_nonneg (c / 16) (by decide : (140 : Int) ≠ 0)
      have r2 := Int.emod_lt_of_pos (c / 16) (by decide : (0 : Int) < 140)
      walk_at "go"
      refine d_for1 (n := c / 16 % 140) (by walk_at "ea") (by omega) (fun i σ' H' => ∃ z, σ' = [some (.ref a), some (.int n), some (.int (fibP i).1), some (.int (fibP i).2), some (.int c), z] ∧ Ex H H')
        (fun H2 e2 => ⟨_, rfl, by walk_at "ex"⟩) ?_ ?_
      · rintro i σ' H' hi ⟨z, rfl, e2⟩
        walk_at "nx"
        walk_at "go"
        exact ⟨_, rfl, by walk_at "ex"⟩
      · rintro σ' H' ⟨z, rfl, e2⟩
        have := fib_gd (show (c / 16 % 140).toNat ≤ 140 by omega)
        exact ⟨_, _, _, rfl, this.1, this.2, e2⟩
    · intro hb H4 e4
      walk_at "go"
      exact ⟨_, _, _, rfl, gx, gy, by walk_at "ex"⟩
  clear gx gy
  rintro σ' H' ⟨x, y, k, rfl, ⟨gx1, gx2⟩, gy, e⟩
  -- piles that differ by little
  refine ⟨MidPair a n c H, ?_, ?_⟩
  · walk_at "if"
    · intro hb H4 e4
      have r1 := Int.emod_nonneg (c / 16) (by decide : (3 : Int) ≠ 0)
      walk_at "go"
      exact ⟨_, _, _, rfl, ⟨gx1, gx2⟩, ⟨by omega, by omega⟩, by walk_at "ex"⟩
    · intro hb H4 e4
      walk_at "go"
      exact ⟨_, _, _, rfl, ⟨gx1, gx2⟩, gy, by walk_at "ex"⟩
  clear gx1 gx2 gy
  rintro σ' H' ⟨x, y, k, rfl, gx, gy, e⟩
  -- either one first
  walk_at "go"
  walk_at "if"
  · intro hb H4 e4
    walk_at "go"
    exact q _ _ _ _ (by walk_at "ex") (by walk_at "pr") gy gx
  · intro hb H4 e4
    walk_at "go"
    exact q _ _ _ _ (by walk_at "ex") (by walk_at "pr") gx gy
theorem u_pair_by {H : Hp} {Q : VK} {E : XK} {a : Addr} {ns : List Int} {n : Int} (hs : SqL K H a (ns.map V.int)) (hn : 0 ≤ n) (q : ∀ v H' x y, Ex H H' → Pr K H' v x y → Gd x → Gd y → Q v H') : sp__law_pair_by K [.ref a, .int n] H Q E := ⟨a, ns, n, rfl, hs, hn, q⟩
local macro_rules | `(tactic| walk_at "spcall") => `(tactic| ((with_reducible apply u_pair_by); (· walk_at "sl"); (· omega); intro _ _ _ _ _ _ _ _))

/-! ### _law_due -/
/-- what writes a table -/
def NoteOk (l : List Nat) : Prop := l = [] ∨ ∀ w ∈ TL.spl [32] 0 [] l, PairOk w
def rdW (w : List Nat) : Int × Int := match TL.spl [47] 0 [] w with
  | [a, b] => (digV a, digV b)
  | _ => (0, 0)
def rdT (l : List Nat) : List (Int × Int) := if l = [] then [] else (TL.spl [32] 0 [] l).map rdW
theorem rdW_of {w a b : List Nat} (h : TL.spl [47] 0 [] w = [a, b]) : rdW w = (digV a, digV b) := by
  unfold rdW
  rw [h]

def sp__law_due (K : PySem.W.Frag) : Sp := fun vs H Q _ => ∃ l : List Nat, vs = [tV l] ∧ l.length ≤ 20000 ∧
  (NoteOk l → (rdT l).length ≤ 6 → GdT (rdT l) → ∀ p H2 ws, H p = none → Ex H H2 → H2 p = some (.lst ws) → Prs K H2 ws (rdT l) → Q (.ref p) H2) ∧
  (¬ NoteOk l → ∀ H', Ex H H' → Q (.str "note") H') ∧ (NoteOk l → ¬ (rdT l).length ≤ 6 → ∀ H', Ex H H' → Q (.str "table") H') ∧ (NoteOk l → (rdT l).length ≤ 6 → ¬ GdT (rdT l) → ∀ H', Ex H H' → Q (.str "pair") H')
theorem ok__law_due (F : Df K mg "_law_due" s__law_due) (T : Txt K mg cs) (c__law_number : Cl P w K mg base 1 "_law_number" (sp__law_number K)) : Cl P w K mg base 2 "_law_due" (sp__law_due K) := by
  refine cl_of (N := ["text", "found", "word", "piles", "one", "other", "part"]) (ps := ["text"]) F (fun _ _ _ _ _ _ us hl => match us, hl with | [_], _ => rfl) sc__law_due (fun vs H Q E h => by obtain ⟨_, rfl, _⟩ := h; rfl) (fun f cdv A outer s H vs Q E hr h => ⟨_, (pss_cons (ps_if (pt_cmpR op_eq (pv 0) pe_str (nomark _)) (pss_one (ps_ret (pe_lst pa_nil))) pss_nil)
    (pss_cons (ps_set (i := 1) sc__law_due.nd rfl (.inl rfl) (pe_lst pa_nil))
    (pss_cons (ps_for PassesOwn.never rfl (pi_list (pe_splitT (pv 0) pe_str)) (pg_name (i := 2) sc__law_due.nd rfl (.inl rfl)) (pss_cons (ps_setLc (i := 3) (own := [("part", 6)]) (g := gName 6) rfl sc__law_due.nd rfl rfl (sw_true rfl rfl rfl (by decide +kernel)) (pi_list (pe_splitT (pv 2) pe_str)) (blkOk_by (own := [("part", 6)]) (N := ["text", "found", "word", "piles", "one", "other", "part"]) (sc := defScope s__law_due) (by decide +kernel)) (fun _ _ _ _ _ => (pg_name (i := 6) sc__law_due.nd rfl (.inl rfl))) (fun _ _ _ _ _ => pts_nil) (fun _ _ _ _ _ => (pe_cl c__law_number hr (by decide) (by rfl) (pa_cons (pv 6) pa_nil))))
    (pss_cons (ps_if (PW.pt (pw_or (pt_cmpR op_ne (pe_callB call_lenL (by rfl) T.b_len (by decide +kernel) (pa_cons (pv 3) pa_nil)) pe_int (nomark _)) (pw_or1 (pt_cmpR op_lt (pe_callB (cr_min rfl) (by rfl) T.b_min (by decide +kernel) (pa_cons (pv 3) pa_nil)) pe_int (nomark _))))) (pss_one (ps_ret pe_str)) pss_nil)
    (pss_one (ps_expr (pe_bm PySem.F.plainAttrs_list PySem.F.slot_list_append PySem.F.type_list_append mt_append (pv 1) (pa_cons (pe_tup (pa_cons (pe_ix ix_list (pv 3) pe_int (fun _ _ => rfl)) (pa_cons (pe_ix ix_list (pv 3) pe_int (fun _ _ => rfl)) pa_nil))) pa_nil)))))))
    (pss_cons (ps_if (pt_cmpR op_gt (pe_callB call_lenL (by rfl) T.b_len (by decide +kernel) (pa_cons (pv 1) pa_nil)) pe_int (nomark _)) (pss_one (ps_ret pe_str)) pss_nil)
    (pss_cons (ps_for PassesOwn.never rfl (pi_list (pv 1)) (pg_tup (n := 2) rfl (pgs_cons (pg_name (i := 4) sc__law_due.nd rfl (.inl rfl)) (pgs_cons (pg_name (i := 5) sc__law_due.nd rfl (.inl rfl)) pgs_nil))) (pss_one (ps_if (PW.pt (pw_or (pt_cmpR op_lt (pe_callB (call_min2' rfl) (by rfl) T.b_min (by decide +kernel) (pa_cons (pv 4) (pa_cons (pv 5) pa_nil))) pe_int (nomark _)) (pw_or1 (pt_cmpR op_gt (pe_callB (call_max2' rfl) (by rfl) T.b_max (by decide +kernel) (pa_cons (pv 4) (pa_cons (pv 5) pa_nil))) (pe_op op_pow pe_int pe_int) (nomark _))))) (pss_one (ps_ret pe_str)) pss_nil)))
    (pss_one (ps_ret (pv 1)))))))), ?_⟩)
  obtain ⟨l, rfl, hl, q, qn, qt, qp⟩ := h
  rw [show start ["text", "found", "word", "piles", "one", "other", "part"] [tV l] = [some (tV l), none, none, none, none, none, none] from rfl]
  walk_at "go"
  walk_at "if"
  · intro hb H1 e1
    have hb := of_decide_eq_true hb
    subst hb
    walk_at "go"
    rename_i p H2 n2 e2 f2
    exact q (.inl rfl) (by show 0 ≤ 6; decide) (by intro p hp; cases hp) p _ [] (by walk_at "fr") (by walk_at "ex") f2 trivial
  · intro hb H1 e1
    have hb := of_decide_eq_false hb
    have hrd : rdT l = (TL.spl [32] 0 [] l).map rdW := if_neg hb
    have hnok : NoteOk l ↔ ∀ w ∈ TL.spl [32] 0 [] l, PairOk w := ⟨fun z => z.elim (fun z => absurd z hb) id, .inr⟩
    have hsl := spl_len (s := 32) (w := l)
    have hsw := spl_part_len (s := 32) (w := l)
    walk_at "go"
    rename_i fd H2 n2 e2 f2
    have hev : EvL (tM1 rSplitT (tVar 0) (tC (.str " "))) [some (tV l), some (.ref fd), none, none, none, none, none] H2 ((TL.spl [32] 0 [] l).map tV) := el_splitT (by walk_at "ev") (by walk_at "ev") (by decide) (by omega)
    generalize TL.spl [32] 0 [] l = P at *
    refine d_forNL (xs := P.map tV) hev (fun H3 i σ' H' => Exb fd H3 H' ∧ ∃ z2 z3 ws, σ' = [some (tV l), some (.ref fd), z2, z3, none, none, none] ∧ H' fd = some (.lst ws) ∧ Prs K H' ws ((P.take i).map rdW) ∧ ∀ j < i, ∀ w, P[j]? = some w → PairOk w) ?_ ?_ ?_ ?_
    · intro H3 e3
      exact ⟨Exb.refl _, _, _, [], rfl, by walk_at "hl", trivial, fun j hj => absurd hj (Nat.not_lt_zero j)⟩
    · rintro p H3 i σ' H4 hp h3 ⟨b, _⟩
      refine b p _ h3 fun z => ?_
      rw [z, f2] at hp
      cases hp
    · rintro H3 i xv σ' H4 e3 hi ⟨b, z2, z3, ws, rfl, g1, g2, g3⟩
      rw [List.getElem?_map] at hi
      obtain ⟨w, hw, rfl⟩ := Option.map_eq_some_iff.mp hi
      have hwm := List.mem_of_getElem? hw
      have wl := hsw w hwm
      have hps := spl_len (s := 47) (w := w)
      have hpw := spl_part_len (s := 47) (w := w)
      have hi2 := (List.getElem?_eq_some_iff.mp hw).1
      have ex4 : Ex H1 H4 := Exb.base b n2 (by walk_at "ex")
      walk_at "nx"
      walk_at "go"
      refine d_lc ?_
      walk_at "go"
      rename_i ps H5 n5 e5 f5
      have hPok : PairOk w ↔ ∃ x y, TL.spl [47] 0 [] w = [x, y] ∧ NumOk x ∧ NumOk y := Iff.rfl
      have hrdw : ∀ x y, TL.spl [47] 0 [] w = [x, y] → rdW w = (digV x, digV y) := fun x y => rdW_of
      generalize TL.spl [47] 0 [] w = S at *
      refine d_rLcL (xs := S.map tV) (by walk_at "sl") (by simp; omega) (fun k acc _ => acc = ((S.take k).map numV).map V.int) (fun _ _ _ _ _ _ _ _ r => r) (fun _ => rfl) (fun _ _ => rfl) ?_ ?_
      · rintro k xv acc H6 hk e6 hl6 rfl
        rw [List.getElem?_map] at hk
        obtain ⟨a, ha, rfl⟩ := Option.map_eq_some_iff.mp hk
        have al := hpw a (List.mem_of_getElem? ha)
        refine ⟨true, et_yes, fun _ H7 e7 => ?_, fun z => nomatch z⟩
        refine er_ev (v := .int (numV a)) (by walk_at "ev") fun H8 e8 => ?_
        show _ ++ [V.int _] = _
        rw [take_succ' ha]
        simp
      · rintro pd H6 acc n6 e6 f6 rfl
        rw [List.length_map, List.take_length] at f6
        have g1' : H6 fd = some (.lst ws) := by walk_at "hl"
        have ne6 : H4 fd ≠ none := by rw [g1]; simp
        have wl2 := g2.len
        rw [List.length_map, List.length_take] at wl2
        walk_at "nx"
        walk_at "go"
        by_cases h2 : S.length = 2
        · obtain ⟨x, y, rfl⟩ : ∃ x y, S = [x, y] := by
            match S, h2 with
            | [x, y], _ => exact ⟨x, y, rfl⟩
          have f6 : H6 pd = some (.lst [.int (numV x), .int (numV y)]) := f6
          have i0 : atI [V.int (numV x), V.int (numV y)] 0 = some (.int (numV x)) := rfl
          have i1 : atI [V.int (numV x), V.int (numV y)] 1 = some (.int (numV y)) := rfl
          have hneg : min (numV x) (numV y) < 0 ↔ ¬ (NumOk x ∧ NumOk y) := by
            have a1 := numV_neg (a := x)
            have a2 := numV_neg (a := y)
            constructor
            · intro z w
              have : ¬ numV x < 0 := fun k => a1.mp k w.1
              have : ¬ numV y < 0 := fun k => a2.mp k w.2
              omega
            · intro z
              by_cases c : NumOk x
              · have := a2.mpr fun k => z ⟨c, k⟩
                omega
              · have := a1.mpr c
                omega
          walk_at "if"
          · intro hb2 H7 e7
            walk_at "go"
            refine qn (fun z => ?_) _ (by walk_at "ex")
            obtain ⟨x', y', z1, z2, z3⟩ := hPok.mp (hnok.mp z w hwm)
            cases z1
            simp at hb2
            exact hneg.mp (by omega) ⟨z2, z3⟩
          · intro hb2 H7 e7
            have hnn : NumOk x ∧ NumOk y := Classical.byContradiction fun z => by
              have := hneg.mpr z
              simp at hb2
              omega
            have hok : PairOk w := hPok.mpr ⟨x, y, rfl, hnn⟩
            walk_at "go"
            rename_i w8 H8 e8 hw8 H9 b9 g9
            have hx8 : H8 fd = some (.lst ws) := by walk_at "hl"
            refine ⟨(b.trans (Exb.of (by walk_at "ex"))).trans b9, _, _, _, rfl, g9, ?_, fun j hj w' hw' => ?_⟩
            · rw [take_succ' hw, List.map_append]
              refine ((g2.mono (by walk_at "ex")).exb b9 hx8).app (us := [w8]) (qs := [rdW w]) ⟨?_, trivial⟩
              rw [hrdw x y rfl, ← numV_ok hnn.1, ← numV_ok hnn.2]
              exact Exb.pr b9 hx8 hw8.pr
            · by_cases c : j = i
              · subst c
                rw [hw] at hw'
                cases hw'
                exact hok
              · exact g3 j (by omega) w' hw'
        · refine d_if (b := true) ?_ (fun _ H7 e7 => ?_) (fun z => nomatch z)
          · apply et_orT
            apply et_is
            · walk_at "et"
            · simp
              omega
          · walk_at "go"
            refine qn (fun z => ?_) _ (by walk_at "ex")
            obtain ⟨x', y', z1, z2, z3⟩ := hPok.mp (hnok.mp z w hwm)
            rw [z1] at h2
            exact h2 rfl
    · rintro H3 σ' H4 e3 ⟨b, z2, z3, ws, rfl, g1, g2, g3⟩
      rw [List.length_map] at g2 g3
      rw [List.take_length, ← hrd] at g2
      have ex4 : Ex H1 H4 := Exb.base b n2 (by walk_at "ex")
      have hok : NoteOk l := hnok.mpr fun w hw => by
        obtain ⟨j, hj, rfl⟩ := List.getElem_of_mem hw
        exact g3 j hj _ (List.getElem?_eq_getElem hj)
      have htb : Tb K H4 (.ref fd) (rdT l) := ⟨fd, ws, rfl, sq_of g1, g2⟩
      walk_at "go"
      walk_at "if"
      · intro hb2 H5 e5
        simp at hb2
        walk_at "go"
        exact qt hok (by omega) _ (by walk_at "ex")
      · intro hb2 H5 e5
        simp at hb2
        have h6 : (rdT l).length ≤ 6 := by omega
        walk_at "go"
        refine d_forTP (T := rdT l) (H0 := H4) (by walk_at "ev") htb (by walk_at "ex") (fun i σ' H' => Ex H4 H' ∧ (∃ z2 z3 z4 z5, σ' = [some (tV l), some (.ref fd), z2, z3, z4, z5, none]) ∧ ∀ j < i, ∀ p, (rdT l)[j]? = some p → Gd p.1 ∧ Gd p.2)
          (fun H6 e6 => ⟨by walk_at "ex", ⟨_, _, _, _, rfl⟩, fun j hj => absurd hj (Nat.not_lt_zero j)⟩) (fun i σ' H' h => h.1) ?_ ?_
        · rintro i p σ' H6 hi ⟨e6, ⟨z2, z3, z4, z5, rfl⟩, hj⟩
          walk_at "nx"
          walk_at "if"
          · intro hb3 H7 e7
            walk_at "go"
            refine qp hok h6 (fun z => ?_) _ (by walk_at "ex")
            obtain ⟨⟨a1, a2⟩, ⟨a3, a4⟩⟩ := z p (List.mem_of_getElem? hi)
            simp at hb3
            omega
          · intro hb3 H7 e7
            simp at hb3
            walk_at "go"
            refine ⟨by walk_at "ex", ⟨_, _, _, _, rfl⟩, fun j hj2 p' hp' => ?_⟩
            by_cases c : j = i
            · subst c
              rw [hi] at hp'
              cases hp'
              exact ⟨⟨by omega, by omega⟩, ⟨by omega, by omega⟩⟩
            · exact hj j (by omega) p' hp'
        · rintro σ' H6 ⟨e6, ⟨z2, z3, z4, z5, rfl⟩, hj⟩
          have hG : GdT (rdT l) := fun p hp => by
            obtain ⟨j, hj1, rfl⟩ := List.getElem_of_mem hp
            exact hj j hj1 _ (List.getElem?_eq_getElem hj1)
          walk_at "go"
          exact q hok h6 hG fd _ ws (by walk_at "fr") (by walk_at "ex") (by walk_at "hl") (g2.mono (by walk_at "ex"))

/-! ### read -/


def sp_read (K : PySem.W.Frag) (cs : Cs) : Sp := fun vs H Q E => ∃ l : List Nat, vs = [tV l] ∧ l.length ≤ 20000 ∧
  (NoteOk l → (rdT l).length ≤ 6 → GdT (rdT l) → ∀ p H2 ws, H p = none → Ex H H2 → H2 p = some (.lst ws) → Prs K H2 ws (rdT l) → Q (.ref p) H2) ∧
  (¬ NoteOk l → ∀ H', Ex H H' → E (.ref cs.NoNote) none H') ∧ (NoteOk l → ¬ (rdT l).length ≤ 6 → ∀ H', Ex H H' → E (.ref cs.NoTable) none H') ∧ (NoteOk l → (rdT l).length ≤ 6 → ¬ GdT (rdT l) → ∀ H', Ex H H' → E (.ref cs.NoPair) none H')
theorem ok_read (F : Df K mg "read" s_read) (T : Txt K mg cs) (c_asked_table : ClX P w K mg base 2 "asked_table" (sp_asked_table K cs)) (c_pair_of : ClX P w K mg base 2 "pair_of" (sp_pair_of K cs)) : ClX P w K mg base 3 "read" (sp_read K cs) := by
  refine clX_of (N := ["text", "found", "word"]) (ps := ["text"]) F (fun _ _ _ _ _ _ us hl => match us, hl with | [_], _ => rfl) sc_read (fun vs H Q E h => by obtain ⟨_, rfl, _⟩ := h; rfl) (fun f cdv A outer s H vs Q E hr h => ⟨_, (pss_cons (ps_if (pt_cmpR op_eq (pv 0) pe_str (nomark _)) (pss_one (ps_ret (pe_lst pa_nil))) pss_nil)
    (pss_cons (ps_setLcX (i := 1) (own := [("word", 2)]) (g := gName 2) rfl rfl (takes_of rfl rfl rfl rfl) rfl sc_read.nd rfl rfl (sw_true rfl rfl rfl (by decide +kernel)) (pi_list (pe_splitT (pv 0) pe_str)) (blkOk_by (own := [("word", 2)]) (N := ["text", "found", "word"]) (sc := defScope s_read) (by decide +kernel)) (fun _ _ _ _ _ => (pg_name (i := 2) sc_read.nd rfl (.inl rfl))) (fun _ _ _ _ _ _ _ hx => (pe_clXp c_pair_of hr (by decide) (by rfl) hx (pa_cons (pv 2) pa_nil))))
    (pss_cons (ps_expr (pe_clX c_asked_table hr (by decide) (by rfl) (takes_of rfl rfl rfl rfl) (pa_cons (pv 1) pa_nil)))
    (pss_one (ps_ret (pv 1)))))), ?_⟩)
  obtain ⟨l, rfl, hl, q, qn, qt, qp⟩ := h
  rw [show start ["text", "found", "word"] [tV l] = [some (tV l), none, none] from rfl]
  walk_at "go"
  walk_at "if"
  · intro hb H1 e1
    have hb := of_decide_eq_true hb
    subst hb
    walk_at "go"
    rename_i p H2 n2 e2 f2
    exact q (.inl rfl) (by show 0 ≤ 6; decide) (by intro p hp; cases hp) p _ [] (by walk_at "fr") (by walk_at "ex") f2 trivial
  · intro hb H1 e1
    have hb := of_decide_eq_false hb
    have hrd : rdT l = (TL.spl [32] 0 [] l).map rdW := if_neg hb
    have hnok : NoteOk l ↔ ∀ w ∈ TL.spl [32] 0 [] l, PairOk w := ⟨fun z => z.elim (fun z => absurd z hb) id, .inr⟩
    have hsl := spl_len (s := 32) (w := l)
    have hsw := spl_part_len (s := 32) (w := l)
    generalize hP : TL.spl [32] 0 [] l = P at *
    walk_at "go"
    refine d_lc ?_
    walk_at "go"
    rename_i p H2 n2 e2 f2
    rw [hP] at f2
    refine d_rLcL (xs := P.map tV) (by walk_at "sl") (by simp; omega) (fun k acc H' => Prs K H' acc ((P.take k).map rdW) ∧ ∀ j < k, ∀ w, P[j]? = some w → PairOk w)
      (fun D i acc acc' H1 H2 b h r => ⟨r.1.exb b h, r.2⟩) (fun _ => rfl) (fun _ _ => ⟨trivial, fun j hj => absurd hj (Nat.not_lt_zero j)⟩) ?_ ?_
    · rintro i xv acc H3 hi e3 hl3 ⟨hr, hk⟩
      rw [List.getElem?_map] at hi
      obtain ⟨w, hw, rfl⟩ := Option.map_eq_some_iff.mp hi
      have hwm := List.mem_of_getElem? hw
      have wl := hsw w hwm
      refine ⟨true, et_yes, fun _ H4 e4 => ?_, fun z => nomatch z⟩
      intro Q' q'
      walk_at "nx"
      by_cases hok : PairOk w
      · obtain ⟨a, b, z1, z2, z3⟩ := id hok
        walk_at "go"
        rename_i v5 H5 e5 hp5
        refine q' _ _ (by walk_at "ex") ⟨?_, fun j hj w' hw' => ?_⟩
        · rw [take_succ' hw, List.map_append]
          refine ((hr.mono e4).mono e5).app (us := [v5]) (qs := [rdW w]) ⟨?_, trivial⟩
          rw [rdW_of z1]
          exact hp5
        · by_cases c : j = i
          · subst c
            rw [hw] at hw'
            cases hw'
            exact hok
          · exact hk j (by omega) w' hw'
      · walk_at "go"
        exact ⟨w, rfl, by omega, fun a b z1 z2 z3 => absurd ⟨a, b, z1, z2, z3⟩ hok, fun _ H5 e5 => qn (fun z => hok (hnok.mp z w hwm)) _ (by walk_at "ex")⟩
    · rintro pd H3 acc n3 e3 f3 ⟨hr, hk⟩
      rw [List.length_map, List.take_length] at hr
      rw [List.length_map] at hk
      have hok : NoteOk l := hnok.mpr fun w hw => by
        obtain ⟨j, hj, rfl⟩ := List.getElem_of_mem hw
        exact hk j hj _ (List.getElem?_eq_getElem hj)
      rw [← hrd] at hr
      have htb : Tb K H3 (.ref pd) (rdT l) := ⟨pd, acc, rfl, sq_of f3, hr⟩
      walk_at "nx"
      walk_at "go"
      refine ⟨.ref pd, rdT l, rfl, htb, fun h6 hG H4 e4 => ?_, fun z H4 e4 => qt hok z _ (by walk_at "ex"), fun z w H4 e4 => qp hok z w _ (by walk_at "ex")⟩
      walk_at "go"
      exact q hok h6 hG pd _ acc (by walk_at "fr") (by walk_at "ex") (by walk_at "hl") (hr.mono (by walk_at "ex"))

/-! ### _law_table_by -/
def sp__law_table_by (K : PySem.W.Frag) : Sp := fun vs H Q _ => ∃ (a : Addr) (ns : List Int) (n : Int), vs = [.ref a, .int n] ∧ SqL K H a (ns.map V.int) ∧ 0 ≤ n ∧
  ∀ p H2 ws T, H p = none → Ex H H2 → H2 p = some (.lst ws) → Prs K H2 ws T → T.length ≤ 6 → GdT T → Q (.ref p) H2
theorem ok__law_table_by (F : Df K mg "_law_table_by" s__law_table_by) (T : Txt K mg cs) (c__law_cell_at : Cl P w K mg base 1 "_law_cell_at" (sp__law_cell_at K)) (c__law_pair_by : Cl P w K mg base 2 "_law_pair_by" (sp__law_pair_by K)) : Cl P w K mg base 3 "_law_table_by" (sp__law_table_by K) := by
  refine cl_of (N := ["script", "at", "k"]) (ps := ["script", "at"]) F (fun _ _ _ _ _ _ us hl => match us, hl with | [_, _], _ => rfl) sc__law_table_by (fun vs H Q E h => by obtain ⟨_, _, _, rfl, _⟩ := h; rfl) (fun f cdv A outer s H vs Q E hr h => ⟨_, (pss_one (ps_ret (pe_lc (own := [("k", 2)]) (g := gName 2) rfl sc__law_table_by.nd (pi_range1 (by rfl) T.b_range (pa_cons (pe_op op_mod (pe_cl c__law_cell_at hr (by decide) (by rfl) (pa_cons (pv 0) (pa_cons (pv 1) pa_nil))) pe_int) pa_nil)) (blkOk_by (own := [("k", 2)]) (N := ["script", "at", "k"]) (sc := defScope s__law_table_by) (by decide +kernel)) (fun _ _ _ _ _ => (pg_name (i := 2) sc__law_table_by.nd rfl (.inl rfl))) (fun _ _ _ _ _ => pts_nil) (fun _ _ _ _ _ => (pe_cl c__law_pair_by hr (by decide) (by rfl) (pa_cons (pv 0) (pa_cons (pe_op op_add (pe_op op_add (pv 1) pe_int) (pe_op op_mulW pe_int (pv 2))) pa_nil))))))), ?_⟩)
  obtain ⟨a, ns, n, rfl, hs, hn, q⟩ := h
  rw [show start ["script", "at", "k"] [.ref a, .int n] = [some (.ref a), some (.int n), none] from rfl]
  walk_at "go"
  have c0 := Int.emod_nonneg (cellL ns n.toNat) (by decide : (7 : Int) ≠ 0)
  have c1 := Int.emod_lt_of_pos (cellL ns n.toNat) (by decide : (0 : Int) < 7)
  refine d_lcR (n := cellL ns n.toNat % 7) (by walk_at "ea") (by omega) (fun i acc H' => ∃ T, Prs K H' acc T ∧ T.length ≤ i ∧ GdT T)
    (fun D i acc acc' H1 H2 b h r => by obtain ⟨T, r1, r2, r3⟩ := r; exact ⟨T, r1.exb b h, r2, r3⟩) (fun _ => rfl) (fun H1 _ => ⟨[], trivial, Nat.le_refl _, fun _ z => nomatch z⟩) ?_ ?_
  · rintro i acc H' hi e hl ⟨T, r1, r2, r3⟩
    refine ⟨true, et_yes, fun _ H3 e3 => ?_, fun z => nomatch z⟩
    intro Q' q'
    walk_at "nx"
    walk_at "go"
    rename_i v H4 x y e4 hp gx gy
    refine q' _ _ (by walk_at "ex") ⟨T ++ [(x, y)], ?_, by simp; omega, ?_⟩
    · exact ((r1.mono e3).mono (by walk_at "ex")).app (Prs.one (by walk_at "pr"))
    · intro p hp
      rcases List.mem_append.mp hp with hp | hp
      · exact r3 p hp
      · rw [List.mem_singleton.mp hp]
        exact ⟨gx, gy⟩
  · rintro p H2 acc hp e h2 ⟨T, r1, r2, r3⟩
    exact q p H2 acc T (by walk_at "fr") (by walk_at "ex") h2 r1 (by omega) r3
theorem u_table_by {H : Hp} {Q : VK} {E : XK} {a : Addr} {ns : List Int} {n : Int} (hs : SqL K H a (ns.map V.int)) (hn : 0 ≤ n) (q : ∀ p H2 ws T, H p = none → Ex H H2 → H2 p = some (.lst ws) → Prs K H2 ws T → T.length ≤ 6 → GdT T → Tb K H2 (.ref p) T → Q (.ref p) H2) :
    sp__law_table_by K [.ref a, .int n] H Q E := ⟨a, ns, n, rfl, hs, hn, fun p H2 ws T h1 h2 h3 h4 h5 h6 => q p H2 ws T h1 h2 h3 h4 h5 h6 ⟨p, ws, rfl, sq_of h3, h4⟩⟩
local macro_rules | `(tactic| walk_at "spcall") => `(tactic| ((with_reducible apply u_table_by); (· walk_at "sl"); (· omega); intro _ _ _ _ _ _ _ _ _ _ _))

/-! ### _law_tried -/
def sp__law_tried (K : PySem.W.Frag) : Sp := fun vs H Q _ => ∃ l : List Nat, vs = [tV l] ∧ l.length ≤ 20000 ∧
  (NoteOk l → (rdT l).length ≤ 6 → GdT (rdT l) → ∀ t p H2 ws, Ex H H2 → H2 t = some (.tup [.int 0, .ref p]) → H2 p = some (.lst ws) → Prs K H2 ws (rdT l) → Q (.ref t) H2) ∧
  (¬ NoteOk l → ∀ t H2, Ex H H2 → H2 t = some (.tup [.int 1, .str "note"]) → Q (.ref t) H2) ∧ (NoteOk l → ¬ (rdT l).length ≤ 6 → ∀ t H2, Ex H H2 → H2 t = some (.tup [.int 1, .str "table"]) → Q (.ref t) H2) ∧
  (NoteOk l → (rdT l).length ≤ 6 → ¬ GdT (rdT l) → ∀ t H2, Ex H H2 → H2 t = some (.tup [.int 1, .str "pair"]) → Q (.ref t) H2)
theorem ok__law_tried (F : Df K mg "_law_tried" s__law_tried) (T : Txt K mg cs) (c_read : ClX P w K mg base 3 "read" (sp_read K cs)) (c__law_word_of : ClP P w K mg base 1 "_law_word_of" (sp__law_word_of K cs)) : Cl P w K mg base 4 "_law_tried" (sp__law_tried K) := by
  refine cl_of (N := ["text", "e"]) (ps := ["text"]) F (fun _ _ _ _ _ _ us hl => match us, hl with | [_], _ => rfl) sc__law_tried (fun vs H Q E h => by obtain ⟨_, rfl, _⟩ := h; rfl) (fun f cdv A outer s H vs Q E hr h => ⟨_, (pss_one (ps_try_as (i := 1) rfl rfl sc__law_tried.nd rfl rfl ⟨rfl, by decide, Or.inl T.x_TakeError.gC⟩ takes0 (fun W pn xe tk _ => (pss_one (ps_ret (pe_tup (pa_cons pe_int (pa_cons (pe_clX c_read hr (by decide) (by rfl) tk (pa_cons (pv 0) pa_nil)) pa_nil)))))) (fun a oe cls d pn hz hf => (pss_one (ps_ret (pe_tup (pa_cons pe_int (pa_cons (pe_clP c__law_word_of (roomH_mark hr) (by decide) List.mem_cons_self hz hf (by rfl) (pa_cons (pv 1) pa_nil)) pa_nil)))))))), ?_⟩)
  obtain ⟨l, rfl, hl, q, qn, qt, qp⟩ := h
  rw [show start ["text", "e"] [tV l] = [some (tV l), none] from rfl]
  walk_at "go"
  refine ⟨l, rfl, hl, fun h1 h2 h3 p H1 ws n1 e1 f1 r1 => ?_, fun hn H1 e1 => ?_, fun h1 h2 H1 e1 => ?_, fun h1 h2 h3 H1 e1 => ?_⟩
  · walk_at "go"
    rename_i t H2 n2 e2 f2
    exact q h1 h2 h3 t p H2 ws (by walk_at "ex") f2 (by walk_at "hl") (r1.mono e2)
  · refine ⟨true, T.m_NoNote, fun _ a ha => ?_, fun z => nomatch z⟩
    walk_at "nx"
    walk_at "go"
    refine u_word_of (j := 4) rfl fun H2 e2 => ?_
    walk_at "go"
    rename_i t H3 n3 e3 f3
    exact qn hn t H3 (by walk_at "ex") f3
  · refine ⟨true, T.m_NoTable, fun _ a ha => ?_, fun z => nomatch z⟩
    walk_at "nx"
    walk_at "go"
    refine u_word_of (j := 1) rfl fun H2 e2 => ?_
    walk_at "go"
    rename_i t H3 n3 e3 f3
    exact qt h1 h2 t H3 (by walk_at "ex") f3
  · refine ⟨true, T.m_NoPair, fun _ a ha => ?_, fun z => nomatch z⟩
    walk_at "nx"
    walk_at "go"
    refine u_word_of (j := 0) rfl fun H2 e2 => ?_
    walk_at "go"
    rename_i t H3 n3 e3 f3
    exact qp h1 h2 h3 t H3 (by walk_at "ex") f3

/-! ### law -/
def sp_law (K : PySem.W.Frag) : Sp := fun vs H Q _ => ∃ (a : Addr) (ns : List Int), vs = [.ref a] ∧ SqL K H a (ns.map V.int) ∧ ns.length ≤ 63 ∧ RetV (.bl true) H Q
theorem ok_law {fa : Addr} {fd : FuncData} (F : L2.Fun K "law" "law" s_law fa fd) (T : Txt K mg cs) (c__law_cell_at : Cl P w K mg base 1 "_law_cell_at" (sp__law_cell_at K)) (c__law_table_by : Cl P w K mg base 3 "_law_table_by" (sp__law_table_by K)) (c__law_spoilt : Cl P w K mg base 1 "_law_spoilt" (sp__law_spoilt K)) (c__law_due : Cl P w K mg base 2 "_law_due" (sp__law_due K)) (c__law_tried : Cl P w K mg base 4 "_law_tried" (sp__law_tried K)) : FnOk P w K mg base CX0 5 fa fd ["script"] (sp_law K) := by
  refine F.ok sc_law (fun vs H Q E h => by obtain ⟨_, _, rfl, _⟩ := h; rfl) (fun cdv A outer s H vs Q E hr h => ⟨_, (pss_cons (ps_set (i := 1) sc_law.nd rfl (.inl rfl) (pe_cl c__law_table_by hr (by decide) (by rfl) (pa_cons (pv 0) (pa_cons pe_int pa_nil))))
    (pss_cons (ps_setLc (i := 2) (own := [("pair", 7)]) (g := gName 7) rfl sc_law.nd rfl rfl (sw_true rfl rfl rfl (by decide +kernel)) (pi_list (pv 1)) (blkOk_by (own := [("pair", 7)]) (N := ["script", "table", "words", "text", "kind", "due", "found", "pair"]) (sc := defScope s_law) (by decide +kernel)) (fun _ _ _ _ _ => (pg_name (i := 7) sc_law.nd rfl (.inl rfl))) (fun _ _ _ _ _ => pts_nil) (fun _ _ _ _ _ => (pe_op op_addT (pe_op op_addT (pe_callTy call_strI (by rfl) T.b_str (by decide +kernel) (pa_cons (pe_ix (r := rIxT K) ix_tup (pv 7) pe_int (fun _ _ => rfl)) pa_nil)) pe_str) (pe_callTy call_strI (by rfl) T.b_str (by decide +kernel) (pa_cons (pe_ix (r := rIxT K) ix_tup (pv 7) pe_int (fun _ _ => rfl)) pa_nil)))))
    (pss_cons (ps_set (i := 3) sc_law.nd rfl (.inl rfl) (pe_cl c__law_spoilt hr (by decide) (by rfl) (pa_cons (pv 2) (pa_cons (pe_op op_mod (pe_cl c__law_cell_at hr (by decide) (by rfl) (pa_cons (pv 0) (pa_cons pe_int pa_nil))) pe_int) (pa_cons (pe_op op_mod (pe_cl c__law_cell_at hr (by decide) (by rfl) (pa_cons (pv 0) (pa_cons pe_int pa_nil))) (pe_op op_pow pe_int pe_int)) pa_nil)))))
    (pss_cut (ps_if (PW.pt (pw_and (pt_cmpR op_eq (pe_op op_mod (pe_cl c__law_cell_at hr (by decide) (by rfl) (pa_cons (pv 0) (pa_cons pe_int pa_nil))) pe_int) pe_int (nomark _)) (pw_and1 (pt_cmpR op_ne (pv 3) pe_str (nomark _))))) (pss_cons (ps_set (i := 4) sc_law.nd rfl (.inl rfl) (pe_op op_mod (pe_op op_fdivW (pe_cl c__law_cell_at hr (by decide) (by rfl) (pa_cons (pv 0) (pa_cons pe_int pa_nil))) pe_int) pe_int))
    (pss_one (ps_set (i := 3) sc_law.nd rfl (.inl rfl) (pe_cl c__law_spoilt hr (by decide) (by rfl) (pa_cons (pe_splitT (pv 3) pe_str) (pa_cons (pv 4) (pa_cons (pe_op op_mod (pe_cl c__law_cell_at hr (by decide) (by rfl) (pa_cons (pv 0) (pa_cons pe_int pa_nil))) (pe_op op_pow pe_int pe_int)) pa_nil))))))) pss_nil)
    (pss_cons (ps_set (i := 5) sc_law.nd rfl (.inl rfl) (pe_cl c__law_due hr (by decide) (by rfl) (pa_cons (pv 3) pa_nil)))
    (pss_cons (ps_set (i := 6) sc_law.nd rfl (.inl rfl) (pe_cl c__law_tried hr (by decide) (by rfl) (pa_cons (pv 3) pa_nil)))
    (pss_cons (ps_if (pt_val (pe_callB call_isi (by rfl) T.b_isinstance (by decide +kernel) (pa_cons (pv 5) (pa_cons (pe_bltn (v := .ty "str") (by rfl) T.b_str (by decide +kernel) rfl) pa_nil)))) (pss_one (ps_ret (pe_and (pe_cmpR op_eq (pe_ix ix_tup (pv 6) pe_int (fun _ _ => rfl)) pe_int (nomark _)) (pe_one (pe_cmpR (op_eqD hr.units) (pe_ix ix_tup (pv 6) pe_int (fun _ _ => rfl)) (pv 5) (nomark _)))))) pss_nil)
    (pss_one (ps_ret (pe_and (pe_cmpR op_eq (pe_ix ix_tup (pv 6) pe_int (fun _ _ => rfl)) pe_int (nomark _)) (pe_and (pe_callB call_isi (by rfl) T.b_isinstance (by decide +kernel) (pa_cons (pe_ix ix_tup (pv 6) pe_int (fun _ _ => rfl)) (pa_cons (pe_bltn (v := .ty "list") (by rfl) T.b_list (by decide +kernel) rfl) pa_nil))) (pe_one (pe_cmpR (op_eqD hr.units) (pe_ix ix_tup (pv 6) pe_int (fun _ _ => rfl)) (pv 5) (nomark _)))))))))))))), ?_⟩)
  obtain ⟨a, ns, rfl, hs, hn, q⟩ := h
  rw [show start ["script", "table", "words", "text", "kind", "due", "found", "pair"] [.ref a] = [some (.ref a), none, none, none, none, none, none, none] from rfl]
  walk_at "go"
  rename_i t0 H1 ws0 T0 ht0 e1 h1 hp0 hl0 hG hT
  refine d_lcT (T := T0) (by walk_at "ev") (by walk_at "tb") (by omega) (fun k acc _ => acc = ((T0.take k).map ptL).map tV) (fun _ _ _ _ _ _ _ _ r => r) (fun _ => rfl) (fun _ _ => rfl) ?_ ?_
  · rintro k w p acc H2 hk hw e2 hl2 hr
    obtain ⟨⟨g1, g2⟩, ⟨g3, g4⟩⟩ := hG p (List.mem_of_getElem? hk)
    have l1 := numL_len (n := p.1.toNat) (by omega)
    have l2 := numL_len (n := p.2.toNat) (by omega)
    refine ⟨true, et_yes, fun _ H3 e3 => ?_, fun z => nomatch z⟩
    refine er_ev (v := tV (ptL p)) (by walk_at "ev") fun H4 e4 => ?_
    show acc ++ [tV _] = _
    rw [hr, take_succ' hk]
    simp
  · rintro wd H2 acc n2 e2 f2 rfl
    rw [List.take_length] at f2
    have hps := pts_sum hG
    have hsz : szW (T0.map ptL) ≤ 400 := by
      unfold szW
      rw [List.length_map]
      omega
    walk_at "nx"
    walk_at "go"
    rename_i H3 e3 H4 e4
    have j0 := Int.emod_nonneg (cellL ns (Int.toNat 20)) (by decide : (12 : Int) ≠ 0)
    have j1 := Int.emod_nonneg (cellL ns (Int.toNat 21)) (by decide : (1000000000 : Int) ≠ 0)
    refine u_spoilt (W := T0.map ptL) (by walk_at "hl") j0 j1 (by omega) fun l0 H5 e5 hl5 => ?_
    walk_at "nx"
    walk_at "go"
    refine ⟨fun σ' H' => ∃ l z4, σ' = [some (.ref a), some (.ref t0), some (.ref wd), some (tV l), z4, none, none, none] ∧ Ex H H' ∧ l.length ≤ 20000, ?_, ?_⟩
    · walk_at "if"
      · intro hb H6 e6
        have hss := spl_sum 32 l0 []
        have hsz2 : szW (TL.spl [32] 0 [] l0) = l0.length + 1 := by
          unfold szW
          simp only [List.length_nil] at hss
          omega
        walk_at "go"
        rename_i H7 e7 sp H8 n8 e8 f8 H9 e9
        have i0 := Int.emod_nonneg (cellL ns (Int.toNat 22) / 2) (by decide : (12 : Int) ≠ 0)
        have i1 := Int.emod_nonneg (cellL ns (Int.toNat 23)) (by decide : (1000000000 : Int) ≠ 0)
        refine u_spoilt (W := TL.spl [32] 0 [] l0) (by walk_at "hl") i0 i1 (by omega) fun l1 H10 e10 hl10 => ?_
        walk_at "nx"
        walk_at "go"
        exact ⟨l1, _, rfl, by walk_at "ex", by omega⟩
      · intro hb H6 e6
        walk_at "go"
        exact ⟨l0, _, rfl, by walk_at "ex", by omega⟩
    clear hl5
    rintro σ' H6 ⟨l, z4, rfl, e6, hl⟩
    walk_at "go"
    by_cases c1 : NoteOk l
    rotate_left
    refine ⟨l, rfl, by omega, fun z => absurd z c1, fun _ H7 e7 => ?_, fun z => absurd z c1, fun z => absurd z c1⟩
    walk_at "go"
    refine ⟨l, rfl, by omega, fun z => absurd z c1, fun _ t H8 e8 f8 => ?_, fun z => absurd z c1, fun z => absurd z c1⟩
    walk_at "go"
    walk_at "if"
    · intro _ H9 e9
      walk_at "go"
      refine d_ev (v := .bl true) ?_ fun H10 e10 => q _ (by walk_at "ex")
      apply ev_is
      · walk_at "ev"
      · simp
    · intro hb
      cases hb
    by_cases c2 : (rdT l).length ≤ 6
    rotate_left
    refine ⟨l, rfl, by omega, fun _ z => absurd z c2, fun z => absurd c1 z, fun _ _ H7 e7 => ?_, fun _ z => absurd z c2⟩
    walk_at "go"
    refine ⟨l, rfl, by omega, fun _ z => absurd z c2, fun z => absurd c1 z, fun _ _ t H8 e8 f8 => ?_, fun _ z => absurd z c2⟩
    walk_at "go"
    walk_at "if"
    · intro _ H9 e9
      walk_at "go"
      refine d_ev (v := .bl true) ?_ fun H10 e10 => q _ (by walk_at "ex")
      apply ev_is
      · walk_at "ev"
      · simp
    · intro hb
      cases hb
    by_cases c3 : GdT (rdT l)
    rotate_left
    refine ⟨l, rfl, by omega, fun _ _ z => absurd z c3, fun z => absurd c1 z, fun _ z => absurd c2 z, fun _ _ _ H7 e7 => ?_⟩
    walk_at "go"
    refine ⟨l, rfl, by omega, fun _ _ z => absurd z c3, fun z => absurd c1 z, fun _ z => absurd c2 z, fun _ _ _ t H8 e8 f8 => ?_⟩
    walk_at "go"
    walk_at "if"
    · intro _ H9 e9
      walk_at "go"
      refine d_ev (v := .bl true) ?_ fun H10 e10 => q _ (by walk_at "ex")
      apply ev_is
      · walk_at "ev"
      · simp
    · intro hb
      cases hb
    refine ⟨l, rfl, by omega, fun _ _ _ dp H7 ws7 n7 e7 f7 r7 => ?_, fun z => absurd c1 z, fun _ z => absurd c2 z, fun _ _ z => absurd c3 z⟩
    have tb7 : Tb K H7 (.ref dp) (rdT l) := ⟨dp, ws7, rfl, sq_of f7, r7⟩
    walk_at "go"
    refine ⟨l, rfl, by omega, fun _ _ _ t fp H8 ws8 e8 f8 g8 r8 => ?_, fun z => absurd c1 z, fun _ z => absurd c2 z, fun _ _ z => absurd c3 z⟩
    have tb8 : Tb K H8 (.ref fp) (rdT l) := ⟨fp, ws8, rfl, sq_of g8, r8⟩
    walk_at "go"
    walk_at "if"
    · intro hb
      cases hb
    · intro _ H9 e9
      walk_at "go"
      refine d_ev (v := .bl true) ?_ fun H10 e10 => q _ (by walk_at "ex")
      apply ev_is
      · walk_at "ev"
      · simp

end
end Tk
namespace Tk
open PySem PySem.Spec PyProof.Rows L2 Evl
theorem all_mk {P : Program} {w : World} {K : PySem.W.Frag} {h : Heap} {mg : Str → Option Value} {fa : Addr} (X : K.In h) (G : h.Ns mainGlobals mg) (hfa : mg "law" = some (.ref fa))
    {f0 : Addr} {od0 an0 : Option Addr} {sl0 : Array (Option Value)} {oc0 kV0 dc0 pm0 cd0 ct0 : Value}
    {f1 : Addr} {od1 an1 : Option Addr} {sl1 : Array (Option Value)} {oc1 kV1 dc1 pm1 cd1 ct1 : Value}
    {f2 : Addr} {od2 an2 : Option Addr} {sl2 : Array (Option Value)} {oc2 kV2 dc2 pm2 cd2 ct2 : Value}
    {f3 : Addr} {od3 an3 : Option Addr} {sl3 : Array (Option Value)} {oc3 kV3 dc3 pm3 cd3 ct3 : Value}
    {f4 : Addr} {od4 an4 : Option Addr} {sl4 : Array (Option Value)} {oc4 kV4 dc4 pm4 cd4 ct4 : Value}
    {f5 : Addr} {od5 an5 : Option Addr} {sl5 : Array (Option Value)} {oc5 kV5 dc5 pm5 cd5 ct5 : Value}
    {f6 : Addr} {od6 an6 : Option Addr} {sl6 : Array (Option Value)} {oc6 kV6 dc6 pm6 cd6 ct6 : Value}
    {f7 : Addr} {od7 an7 : Option Addr} {sl7 : Array (Option Value)} {oc7 kV7 dc7 pm7 cd7 ct7 : Value}
    {f8 : Addr} {od8 an8 : Option Addr} {sl8 : Array (Option Value)} {oc8 kV8 dc8 pm8 cd8 ct8 : Value}
    {f9 : Addr} {od9 an9 : Option Addr} {sl9 : Array (Option Value)} {oc9 kV9 dc9 pm9 cd9 ct9 : Value}
    {f10 : Addr} {od10 an10 : Option Addr} {sl10 : Array (Option Value)} {oc10 kV10 dc10 pm10 cd10 ct10 : Value}
    {f11 : Addr} {od11 an11 : Option Addr} {sl11 : Array (Option Value)} {oc11 kV11 dc11 pm11 cd11 ct11 : Value}
    {f12 : Addr} {od12 an12 : Option Addr} {sl12 : Array (Option Value)} {oc12 kV12 dc12 pm12 cd12 ct12 : Value}
    {f13 : Addr} {od13 an13 : Option Addr} {sl13 : Array (Option Value)} {oc13 kV13 dc13 pm13 cd13 ct13 : Value}
    {f14 : Addr} {od14 an14 : Option Addr} {sl14 : Array (Option Value)} {oc14 kV14 dc14 pm14 cd14 ct14 : Value}
    {t_GREATEST : Tok}
    {t_MOST : Tok}
    {t_FIGURES : Tok}
    {C_TakeError C_NoPair C_NoTable C_NoMove C_TooLong C_NoNote : Addr}
    (a0 : PySem.W.nsIn K mainGlobals "asked_pair" = some (some (.ref f0)))
    (l0 : K.lookup f0 = some ⟨oc0, od0, .func (PySem.W.fnOf "asked_pair" "asked_pair" (defArgs s_asked_pair) (defBody s_asked_pair) (defScope s_asked_pair) .none kV0 dc0 pm0 an0 cd0 ct0), sl0⟩)
    (c0 : PySem.W.codeIn K cd0 "asked_pair" = true) (k0 : PySem.W.keepIn K (.ref f0) = true)
    (a1 : PySem.W.nsIn K mainGlobals "number_of" = some (some (.ref f1)))
    (l1 : K.lookup f1 = some ⟨oc1, od1, .func (PySem.W.fnOf "number_of" "number_of" (defArgs s_number_of) (defBody s_number_of) (defScope s_number_of) .none kV1 dc1 pm1 an1 cd1 ct1), sl1⟩)
    (c1 : PySem.W.codeIn K cd1 "number_of" = true) (k1 : PySem.W.keepIn K (.ref f1) = true)
    (a2 : PySem.W.nsIn K mainGlobals "_law_cell_at" = some (some (.ref f2)))
    (l2 : K.lookup f2 = some ⟨oc2, od2, .func (PySem.W.fnOf "_law_cell_at" "_law_cell_at" (defArgs s__law_cell_at) (defBody s__law_cell_at) (defScope s__law_cell_at) .none kV2 dc2 pm2 an2 cd2 ct2), sl2⟩)
    (c2 : PySem.W.codeIn K cd2 "_law_cell_at" = true) (k2 : PySem.W.keepIn K (.ref f2) = true)
    (a3 : PySem.W.nsIn K mainGlobals "_law_word_of" = some (some (.ref f3)))
    (l3 : K.lookup f3 = some ⟨oc3, od3, .func (PySem.W.fnOf "_law_word_of" "_law_word_of" (defArgs s__law_word_of) (defBody s__law_word_of) (defScope s__law_word_of) .none kV3 dc3 pm3 an3 cd3 ct3), sl3⟩)
    (c3 : PySem.W.codeIn K cd3 "_law_word_of" = true) (k3 : PySem.W.keepIn K (.ref f3) = true)
    (a4 : PySem.W.nsIn K mainGlobals "_law_pile_by" = some (some (.ref f4)))
    (l4 : K.lookup f4 = some ⟨oc4, od4, .func (PySem.W.fnOf "_law_pile_by" "_law_pile_by" (defArgs s__law_pile_by) (defBody s__law_pile_by) (defScope s__law_pile_by) .none kV4 dc4 pm4 an4 cd4 ct4), sl4⟩)
    (c4 : PySem.W.codeIn K cd4 "_law_pile_by" = true) (k4 : PySem.W.keepIn K (.ref f4) = true)
    (a5 : PySem.W.nsIn K mainGlobals "_law_spoilt" = some (some (.ref f5)))
    (l5 : K.lookup f5 = some ⟨oc5, od5, .func (PySem.W.fnOf "_law_spoilt" "_law_spoilt" (defArgs s__law_spoilt) (defBody s__law_spoilt) (defScope s__law_spoilt) .none kV5 dc5 pm5 an5 cd5 ct5), sl5⟩)
    (c5 : PySem.W.codeIn K cd5 "_law_spoilt" = true) (k5 : PySem.W.keepIn K (.ref f5) = true)
    (a6 : PySem.W.nsIn K mainGlobals "_law_number" = some (some (.ref f6)))
    (l6 : K.lookup f6 = some ⟨oc6, od6, .func (PySem.W.fnOf "_law_number" "_law_number" (defArgs s__law_number) (defBody s__law_number) (defScope s__law_number) .none kV6 dc6 pm6 an6 cd6 ct6), sl6⟩)
    (c6 : PySem.W.codeIn K cd6 "_law_number" = true) (k6 : PySem.W.keepIn K (.ref f6) = true)
    (a7 : PySem.W.nsIn K mainGlobals "asked_table" = some (some (.ref f7)))
    (l7 : K.lookup f7 = some ⟨oc7, od7, .func (PySem.W.fnOf "asked_table" "asked_table" (defArgs s_asked_table) (defBody s_asked_table) (defScope s_asked_table) .none kV7 dc7 pm7 an7 cd7 ct7), sl7⟩)
    (c7 : PySem.W.codeIn K cd7 "asked_table" = true) (k7 : PySem.W.keepIn K (.ref f7) = true)
    (a8 : PySem.W.nsIn K mainGlobals "pair_of" = some (some (.ref f8)))
    (l8 : K.lookup f8 = some ⟨oc8, od8, .func (PySem.W.fnOf "pair_of" "pair_of" (defArgs s_pair_of) (defBody s_pair_of) (defScope s_pair_of) .none kV8 dc8 pm8 an8 cd8 ct8), sl8⟩)
    (c8 : PySem.W.codeIn K cd8 "pair_of" = true) (k8 : PySem.W.keepIn K (.ref f8) = true)
    (a9 : PySem.W.nsIn K mainGlobals "_law_pair_by" = some (some (.ref f9)))
    (l9 : K.lookup f9 = some ⟨oc9, od9, .func (PySem.W.fnOf "_law_pair_by" "_law_pair_by" (defArgs s__law_pair_by) (defBody s__law_pair_by) (defScope s__law_pair_by) .none kV9 dc9 pm9 an9 cd9 ct9), sl9⟩)
    (c9 : PySem.W.codeIn K cd9 "_law_pair_by" = true) (k9 : PySem.W.keepIn K (.ref f9) = true)
    (a10 : PySem.W.nsIn K mainGlobals "_law_due" = some (some (.ref f10)))
    (l10 : K.lookup f10 = some ⟨oc10, od10, .func (PySem.W.fnOf "_law_due" "_law_due" (defArgs s__law_due) (defBody s__law_due) (defScope s__law_due) .none kV10 dc10 pm10 an10 cd10 ct10), sl10⟩)
    (c10 : PySem.W.codeIn K cd10 "_law_due" = true) (k10 : PySem.W.keepIn K (.ref f10) = true)
    (a11 : PySem.W.nsIn K mainGlobals "read" = some (some (.ref f11)))
    (l11 : K.lookup f11 = some ⟨oc11, od11, .func (PySem.W.fnOf "read" "read" (defArgs s_read) (defBody s_read) (defScope s_read) .none kV11 dc11 pm11 an11 cd11 ct11), sl11⟩)
    (c11 : PySem.W.codeIn K cd11 "read" = true) (k11 : PySem.W.keepIn K (.ref f11) = true)
    (a12 : PySem.W.nsIn K mainGlobals "_law_table_by" = some (some (.ref f12)))
    (l12 : K.lookup f12 = some ⟨oc12, od12, .func (PySem.W.fnOf "_law_table_by" "_law_table_by" (defArgs s__law_table_by) (defBody s__law_table_by) (defScope s__law_table_by) .none kV12 dc12 pm12 an12 cd12 ct12), sl12⟩)
    (c12 : PySem.W.codeIn K cd12 "_law_table_by" = true) (k12 : PySem.W.keepIn K (.ref f12) = true)
    (a13 : PySem.W.nsIn K mainGlobals "_law_tried" = some (some (.ref f13)))
    (l13 : K.lookup f13 = some ⟨oc13, od13, .func (PySem.W.fnOf "_law_tried" "_law_tried" (defArgs s__law_tried) (defBody s__law_tried) (defScope s__law_tried) .none kV13 dc13 pm13 an13 cd13 ct13), sl13⟩)
    (c13 : PySem.W.codeIn K cd13 "_law_tried" = true) (k13 : PySem.W.keepIn K (.ref f13) = true)
    (a14 : PySem.W.nsIn K mainGlobals "law" = some (some (.ref f14)))
    (l14 : K.lookup f14 = some ⟨oc14, od14, .func (PySem.W.fnOf "law" "law" (defArgs s_law) (defBody s_law) (defScope s_law) .none kV14 dc14 pm14 an14 cd14 ct14), sl14⟩)
    (c14 : PySem.W.codeIn K cd14 "law" = true) (k14 : PySem.W.keepIn K (.ref f14) = true)
    (z_ValueError : PySem.W.nsIn K mainGlobals "ValueError" = some none)
    (z_int : PySem.W.nsIn K mainGlobals "int" = some none)
    (z_isinstance : PySem.W.nsIn K mainGlobals "isinstance" = some none)
    (z_len : PySem.W.nsIn K mainGlobals "len" = some none)
    (z_list : PySem.W.nsIn K mainGlobals "list" = some none)
    (z_max : PySem.W.nsIn K mainGlobals "max" = some none)
    (z_min : PySem.W.nsIn K mainGlobals "min" = some none)
    (z_range : PySem.W.nsIn K mainGlobals "range" = some none)
    (z_str : PySem.W.nsIn K mainGlobals "str" = some none)
    (g_GREATEST : PySem.W.nsIn K mainGlobals "GREATEST" = some (some (.int 1000000000000000000000000000000 t_GREATEST)))
    (g_MOST : PySem.W.nsIn K mainGlobals "MOST" = some (some (.int 6 t_MOST)))
    (g_FIGURES : PySem.W.nsIn K mainGlobals "FIGURES" = some (some (.str "0123456789" t_FIGURES)))
    (x_gC_TakeError : PySem.W.nsIn K mainGlobals "TakeError" = some (some (.ref C_TakeError)))
    (x_xC_TakeError : PySem.W.excIn K C_TakeError [.type "ValueError", .type "Exception", .type "BaseException", .type "object"] "ValueError.__new__" = true)
    (x_kC_TakeError : PySem.W.keepIn K (.ref C_TakeError) = true)
    (x_bC_TakeError : PySem.W.subIn K (.ref C_TakeError) (.type "BaseException") = some true)
    (x_tC_TakeError : PySem.W.typeIn K (.ref C_TakeError) = some (.type "type"))
    (x_vC_TakeError : PySem.W.subIn K (.ref C_TakeError) (.type "ValueError") = some true)
    (x_hg_TakeError : PySem.W.findIn K (.ref C_TakeError) "__getattribute__" = some (some (.builtin "BaseException.__getattribute__")))
    (x_hk_TakeError : PySem.W.findIn K (.ref C_TakeError) "__getattr__" = some none)
    (x_hd_TakeError : PySem.W.hasDictIn K C_TakeError = true)
    (x_ha_TakeError : PySem.W.findIn K (.ref C_TakeError) "__class__" = some (some (.builtin "object.__class__")))
    (x_hm_TakeError : PySem.W.mroIn K C_TakeError (.type "object") = some true)
    (x_gC_NoPair : PySem.W.nsIn K mainGlobals "NoPair" = some (some (.ref C_NoPair)))
    (x_xC_NoPair : PySem.W.excIn K C_NoPair [.type "ValueError", .type "Exception", .type "BaseException", .type "object"] "ValueError.__new__" = true)
    (x_kC_NoPair : PySem.W.keepIn K (.ref C_NoPair) = true)
    (x_bC_NoPair : PySem.W.subIn K (.ref C_NoPair) (.type "BaseException") = some true)
    (x_tC_NoPair : PySem.W.typeIn K (.ref C_NoPair) = some (.type "type"))
    (x_vC_NoPair : PySem.W.subIn K (.ref C_NoPair) (.type "ValueError") = some true)
    (x_hg_NoPair : PySem.W.findIn K (.ref C_NoPair) "__getattribute__" = some (some (.builtin "BaseException.__getattribute__")))
    (x_hk_NoPair : PySem.W.findIn K (.ref C_NoPair) "__getattr__" = some none)
    (x_hd_NoPair : PySem.W.hasDictIn K C_NoPair = true)
    (x_ha_NoPair : PySem.W.findIn K (.ref C_NoPair) "__class__" = some (some (.builtin "object.__class__")))
    (x_hm_NoPair : PySem.W.mroIn K C_NoPair (.type "object") = some true)
    (x_gC_NoTable : PySem.W.nsIn K mainGlobals "NoTable" = some (some (.ref C_NoTable)))
    (x_xC_NoTable : PySem.W.excIn K C_NoTable [.type "ValueError", .type "Exception", .type "BaseException", .type "object"] "ValueError.__new__" = true)
    (x_kC_NoTable : PySem.W.keepIn K (.ref C_NoTable) = true)
    (x_bC_NoTable : PySem.W.subIn K (.ref C_NoTable) (.type "BaseException") = some true)
    (x_tC_NoTable : PySem.W.typeIn K (.ref C_NoTable) = some (.type "type"))
    (x_vC_NoTable : PySem.W.subIn K (.ref C_NoTable) (.type "ValueError") = some true)
    (x_hg_NoTable : PySem.W.findIn K (.ref C_NoTable) "__getattribute__" = some (some (.builtin "BaseException.__getattribute__")))
    (x_hk_NoTable : PySem.W.findIn K (.ref C_NoTable) "__getattr__" = some none)
    (x_hd_NoTable : PySem.W.hasDictIn K C_NoTable = true)
    (x_ha_NoTable : PySem.W.findIn K (.ref C_NoTable) "__class__" = some (some (.builtin "object.__class__")))
    (x_hm_NoTable : PySem.W.mroIn K C_NoTable (.type "object") = some true)
    (x_gC_NoMove : PySem.W.nsIn K mainGlobals "NoMove" = some (some (.ref C_NoMove)))
    (x_xC_NoMove : PySem.W.excIn K C_NoMove [.type "ValueError", .type "Exception", .type "BaseException", .type "object"] "ValueError.__new__" = true)
    (x_kC_NoMove : PySem.W.keepIn K (.ref C_NoMove) = true)
    (x_bC_NoMove : PySem.W.subIn K (.ref C_NoMove) (.type "BaseException") = some true)
    (x_tC_NoMove : PySem.W.typeIn K (.ref C_NoMove) = some (.type "type"))
    (x_vC_NoMove : PySem.W.subIn K (.ref C_NoMove) (.type "ValueError") = some true)
    (x_hg_NoMove : PySem.W.findIn K (.ref C_NoMove) "__getattribute__" = some (some (.builtin "BaseException.__getattribute__")))
    (x_hk_NoMove : PySem.W.findIn K (.ref C_NoMove) "__getattr__" = some none)
    (x_hd_NoMove : PySem.W.hasDictIn K C_NoMove = true)
    (x_ha_NoMove : PySem.W.findIn K (.ref C_NoMove) "__class__" = some (some (.builtin "object.__class__")))
    (x_hm_NoMove : PySem.W.mroIn K C_NoMove (.type "object") = some true)
    (x_gC_TooLong : PySem.W.nsIn K mainGlobals "TooLong" = some (some (.ref C_TooLong)))
    (x_xC_TooLong : PySem.W.excIn K C_TooLong [.type "ValueError", .type "Exception", .type "BaseException", .type "object"] "ValueError.__new__" = true)
    (x_kC_TooLong : PySem.W.keepIn K (.ref C_TooLong) = true)
    (x_bC_TooLong : PySem.W.subIn K (.ref C_TooLong) (.type "BaseException") = some true)
    (x_tC_TooLong : PySem.W.typeIn K (.ref C_TooLong) = some (.type "type"))
    (x_vC_TooLong : PySem.W.subIn K (.ref C_TooLong) (.type "ValueError") = some true)
    (x_hg_TooLong : PySem.W.findIn K (.ref C_TooLong) "__getattribute__" = some (some (.builtin "BaseException.__getattribute__")))
    (x_hk_TooLong : PySem.W.findIn K (.ref C_TooLong) "__getattr__" = some none)
    (x_hd_TooLong : PySem.W.hasDictIn K C_TooLong = true)
    (x_ha_TooLong : PySem.W.findIn K (.ref C_TooLong) "__class__" = some (some (.builtin "object.__class__")))
    (x_hm_TooLong : PySem.W.mroIn K C_TooLong (.type "object") = some true)
    (x_gC_NoNote : PySem.W.nsIn K mainGlobals "NoNote" = some (some (.ref C_NoNote)))
    (x_xC_NoNote : PySem.W.excIn K C_NoNote [.type "ValueError", .type "Exception", .type "BaseException", .type "object"] "ValueError.__new__" = true)
    (x_kC_NoNote : PySem.W.keepIn K (.ref C_NoNote) = true)
    (x_bC_NoNote : PySem.W.subIn K (.ref C_NoNote) (.type "BaseException") = some true)
    (x_tC_NoNote : PySem.W.typeIn K (.ref C_NoNote) = some (.type "type"))
    (x_vC_NoNote : PySem.W.subIn K (.ref C_NoNote) (.type "ValueError") = some true)
    (x_hg_NoNote : PySem.W.findIn K (.ref C_NoNote) "__getattribute__" = some (some (.builtin "BaseException.__getattribute__")))
    (x_hk_NoNote : PySem.W.findIn K (.ref C_NoNote) "__getattr__" = some none)
    (x_hd_NoNote : PySem.W.hasDictIn K C_NoNote = true)
    (x_ha_NoNote : PySem.W.findIn K (.ref C_NoNote) "__class__" = some (some (.builtin "object.__class__")))
    (x_hm_NoNote : PySem.W.mroIn K C_NoNote (.type "object") = some true)
    (hn0 : PySem.W.specialIn K (.builtin "object.__class__") "__get__" = some (some (.builtin "getset_descriptor.__get__"))) (ht0 : PySem.W.takesIn K (.builtin "object.__class__") = some true)
    (sb_NoPair : PySem.W.subIn K (.ref C_NoPair) (.ref C_TakeError) = some true)
    (kt_NoPair_NoPair : PySem.W.subIn K (.ref C_NoPair) (.ref C_NoPair) = some true)
    (kt_NoPair_NoTable : PySem.W.subIn K (.ref C_NoPair) (.ref C_NoTable) = some false)
    (kt_NoPair_NoMove : PySem.W.subIn K (.ref C_NoPair) (.ref C_NoMove) = some false)
    (kt_NoPair_TooLong : PySem.W.subIn K (.ref C_NoPair) (.ref C_TooLong) = some false)
    (kt_NoPair_NoNote : PySem.W.subIn K (.ref C_NoPair) (.ref C_NoNote) = some false)
    (sb_NoTable : PySem.W.subIn K (.ref C_NoTable) (.ref C_TakeError) = some true)
    (kt_NoTable_NoPair : PySem.W.subIn K (.ref C_NoTable) (.ref C_NoPair) = some false)
    (kt_NoTable_NoTable : PySem.W.subIn K (.ref C_NoTable) (.ref C_NoTable) = some true)
    (kt_NoTable_NoMove : PySem.W.subIn K (.ref C_NoTable) (.ref C_NoMove) = some false)
    (kt_NoTable_TooLong : PySem.W.subIn K (.ref C_NoTable) (.ref C_TooLong) = some false)
    (kt_NoTable_NoNote : PySem.W.subIn K (.ref C_NoTable) (.ref C_NoNote) = some false)
    (sb_NoMove : PySem.W.subIn K (.ref C_NoMove) (.ref C_TakeError) = some true)
    (kt_NoMove_NoPair : PySem.W.subIn K (.ref C_NoMove) (.ref C_NoPair) = some false)
    (kt_NoMove_NoTable : PySem.W.subIn K (.ref C_NoMove) (.ref C_NoTable) = some false)
    (kt_NoMove_NoMove : PySem.W.subIn K (.ref C_NoMove) (.ref C_NoMove) = some true)
    (kt_NoMove_TooLong : PySem.W.subIn K (.ref C_NoMove) (.ref C_TooLong) = some false)
    (kt_NoMove_NoNote : PySem.W.subIn K (.ref C_NoMove) (.ref C_NoNote) = some false)
    (sb_TooLong : PySem.W.subIn K (.ref C_TooLong) (.ref C_TakeError) = some true)
    (kt_TooLong_NoPair : PySem.W.subIn K (.ref C_TooLong) (.ref C_NoPair) = some false)
    (kt_TooLong_NoTable : PySem.W.subIn K (.ref C_TooLong) (.ref C_NoTable) = some false)
    (kt_TooLong_NoMove : PySem.W.subIn K (.ref C_TooLong) (.ref C_NoMove) = some false)
    (kt_TooLong_TooLong : PySem.W.subIn K (.ref C_TooLong) (.ref C_TooLong) = some true)
    (kt_TooLong_NoNote : PySem.W.subIn K (.ref C_TooLong) (.ref C_NoNote) = some false)
    (sb_NoNote : PySem.W.subIn K (.ref C_NoNote) (.ref C_TakeError) = some true)
    (kt_NoNote_NoPair : PySem.W.subIn K (.ref C_NoNote) (.ref C_NoPair) = some false)
    (kt_NoNote_NoTable : PySem.W.subIn K (.ref C_NoNote) (.ref C_NoTable) = some false)
    (kt_NoNote_NoMove : PySem.W.subIn K (.ref C_NoNote) (.ref C_NoMove) = some false)
    (kt_NoNote_TooLong : PySem.W.subIn K (.ref C_NoNote) (.ref C_TooLong) = some false)
    (kt_NoNote_NoNote : PySem.W.subIn K (.ref C_NoNote) (.ref C_NoNote) = some true) :
    ∃ fd : FuncData, (∀ (s : Shared) (u : Value), BindsTo s fd ⟨[u], []⟩ [("script", u)]) ∧ ∀ base : Heap, K.In base → base.Ns mainGlobals mg → FnOk P w K mg base CX0 5 fa fd ["script"] (sp_law K) := by
  have e := hfa.symm.trans (PySem.W.mg_of X G a14)
  cases e
  let cs : Cs := ⟨C_TakeError, C_NoPair, C_NoTable, C_NoMove, C_TooLong, C_NoNote⟩
  have T : Txt K mg cs := ⟨⟨PySem.W.mg_of X G x_gC_TakeError, x_xC_TakeError, x_kC_TakeError, x_bC_TakeError, x_tC_TakeError, kit_subV x_vC_TakeError, ⟨x_hg_TakeError, x_hk_TakeError, x_bC_TakeError, x_hd_TakeError, x_ha_TakeError, hn0, ht0, x_hm_TakeError⟩⟩, ⟨PySem.W.mg_of X G x_gC_NoPair, x_xC_NoPair, x_kC_NoPair, x_bC_NoPair, x_tC_NoPair, kit_subV x_vC_NoPair, ⟨x_hg_NoPair, x_hk_NoPair, x_bC_NoPair, x_hd_NoPair, x_ha_NoPair, hn0, ht0, x_hm_NoPair⟩⟩, ⟨PySem.W.mg_of X G x_gC_NoTable, x_xC_NoTable, x_kC_NoTable, x_bC_NoTable, x_tC_NoTable, kit_subV x_vC_NoTable, ⟨x_hg_NoTable, x_hk_NoTable, x_bC_NoTable, x_hd_NoTable, x_ha_NoTable, hn0, ht0, x_hm_NoTable⟩⟩, ⟨PySem.W.mg_of X G x_gC_NoMove, x_xC_NoMove, x_kC_NoMove, x_bC_NoMove, x_tC_NoMove, kit_subV x_vC_NoMove, ⟨x_hg_NoMove, x_hk_NoMove, x_bC_NoMove, x_hd_NoMove, x_ha_NoMove, hn0, ht0, x_hm_NoMove⟩⟩, ⟨PySem.W.mg_of X G x_gC_TooLong, x_xC_TooLong, x_kC_TooLong, x_bC_TooLong, x_tC_TooLong, kit_subV x_vC_TooLong, ⟨x_hg_TooLong, x_hk_TooLong, x_bC_TooLong, x_hd_TooLong, x_ha_TooLong, hn0, ht0, x_hm_TooLong⟩⟩, ⟨PySem.W.mg_of X G x_gC_NoNote, x_xC_NoNote, x_kC_NoNote, x_bC_NoNote, x_tC_NoNote, kit_subV x_vC_NoNote, ⟨x_hg_NoNote, x_hk_NoNote, x_bC_NoNote, x_hd_NoNote, x_ha_NoNote, hn0, ht0, x_hm_NoNote⟩⟩, PySem.W.exm_ref x_bC_TakeError x_hd_TakeError x_tC_TakeError sb_NoPair, PySem.W.exm_ref x_bC_TakeError x_hd_TakeError x_tC_TakeError sb_NoTable, PySem.W.exm_ref x_bC_TakeError x_hd_TakeError x_tC_TakeError sb_NoMove, PySem.W.exm_ref x_bC_TakeError x_hd_TakeError x_tC_TakeError sb_TooLong, PySem.W.exm_ref x_bC_TakeError x_hd_TakeError x_tC_TakeError sb_NoNote, kit_sub x_hd_NoPair x_tC_NoPair kt_NoPair_NoPair kt_NoPair_NoPair, kit_sub x_hd_NoTable x_tC_NoTable kt_NoPair_NoTable kt_NoPair_NoPair, kit_sub x_hd_NoMove x_tC_NoMove kt_NoPair_NoMove kt_NoPair_NoPair, kit_sub x_hd_TooLong x_tC_TooLong kt_NoPair_TooLong kt_NoPair_NoPair, kit_sub x_hd_NoNote x_tC_NoNote kt_NoPair_NoNote kt_NoPair_NoPair, kit_sub x_hd_NoPair x_tC_NoPair kt_NoTable_NoPair kt_NoTable_NoTable, kit_sub x_hd_NoTable x_tC_NoTable kt_NoTable_NoTable kt_NoTable_NoTable, kit_sub x_hd_NoMove x_tC_NoMove kt_NoTable_NoMove kt_NoTable_NoTable, kit_sub x_hd_TooLong x_tC_TooLong kt_NoTable_TooLong kt_NoTable_NoTable, kit_sub x_hd_NoNote x_tC_NoNote kt_NoTable_NoNote kt_NoTable_NoTable, kit_sub x_hd_NoPair x_tC_NoPair kt_NoMove_NoPair kt_NoMove_NoMove, kit_sub x_hd_NoTable x_tC_NoTable kt_NoMove_NoTable kt_NoMove_NoMove, kit_sub x_hd_NoMove x_tC_NoMove kt_NoMove_NoMove kt_NoMove_NoMove, kit_sub x_hd_TooLong x_tC_TooLong kt_NoMove_TooLong kt_NoMove_NoMove, kit_sub x_hd_NoNote x_tC_NoNote kt_NoMove_NoNote kt_NoMove_NoMove, kit_sub x_hd_NoPair x_tC_NoPair kt_TooLong_NoPair kt_TooLong_TooLong, kit_sub x_hd_NoTable x_tC_NoTable kt_TooLong_NoTable kt_TooLong_TooLong, kit_sub x_hd_NoMove x_tC_NoMove kt_TooLong_NoMove kt_TooLong_TooLong, kit_sub x_hd_TooLong x_tC_TooLong kt_TooLong_TooLong kt_TooLong_TooLong, kit_sub x_hd_NoNote x_tC_NoNote kt_TooLong_NoNote kt_TooLong_TooLong, kit_sub x_hd_NoPair x_tC_NoPair kt_NoNote_NoPair kt_NoNote_NoNote, kit_sub x_hd_NoTable x_tC_NoTable kt_NoNote_NoTable kt_NoNote_NoNote, kit_sub x_hd_NoMove x_tC_NoMove kt_NoNote_NoMove kt_NoNote_NoNote, kit_sub x_hd_TooLong x_tC_TooLong kt_NoNote_TooLong kt_NoNote_NoNote, kit_sub x_hd_NoNote x_tC_NoNote kt_NoNote_NoNote kt_NoNote_NoNote, PySem.W.mg_none_of X G z_ValueError, PySem.W.mg_none_of X G z_int, PySem.W.mg_none_of X G z_isinstance, PySem.W.mg_none_of X G z_len, PySem.W.mg_none_of X G z_list, PySem.W.mg_none_of X G z_max, PySem.W.mg_none_of X G z_min, PySem.W.mg_none_of X G z_range, PySem.W.mg_none_of X G z_str, ⟨_, PySem.W.mg_of X G g_GREATEST, ⟨_, rfl⟩⟩, ⟨_, PySem.W.mg_of X G g_MOST, ⟨_, rfl⟩⟩, ⟨_, PySem.W.mg_of X G g_FIGURES, ⟨_, rfl⟩⟩⟩
  have F0 : Df K mg "asked_pair" s_asked_pair := ⟨_, _, fun_mk (st := s_asked_pair) l0 c0 k0, PySem.W.mg_of X G a0⟩
  have F1 : Df K mg "number_of" s_number_of := ⟨_, _, fun_mk (st := s_number_of) l1 c1 k1, PySem.W.mg_of X G a1⟩
  have F2 : Df K mg "_law_cell_at" s__law_cell_at := ⟨_, _, fun_mk (st := s__law_cell_at) l2 c2 k2, PySem.W.mg_of X G a2⟩
  have F3 : Df K mg "_law_word_of" s__law_word_of := ⟨_, _, fun_mk (st := s__law_word_of) l3 c3 k3, PySem.W.mg_of X G a3⟩
  have F4 : Df K mg "_law_pile_by" s__law_pile_by := ⟨_, _, fun_mk (st := s__law_pile_by) l4 c4 k4, PySem.W.mg_of X G a4⟩
  have F5 : Df K mg "_law_spoilt" s__law_spoilt := ⟨_, _, fun_mk (st := s__law_spoilt) l5 c5 k5, PySem.W.mg_of X G a5⟩
  have F6 : Df K mg "_law_number" s__law_number := ⟨_, _, fun_mk (st := s__law_number) l6 c6 k6, PySem.W.mg_of X G a6⟩
  have F7 : Df K mg "asked_table" s_asked_table := ⟨_, _, fun_mk (st := s_asked_table) l7 c7 k7, PySem.W.mg_of X G a7⟩
  have F8 : Df K mg "pair_of" s_pair_of := ⟨_, _, fun_mk (st := s_pair_of) l8 c8 k8, PySem.W.mg_of X G a8⟩
  have F9 : Df K mg "_law_pair_by" s__law_pair_by := ⟨_, _, fun_mk (st := s__law_pair_by) l9 c9 k9, PySem.W.mg_of X G a9⟩
  have F10 : Df K mg "_law_due" s__law_due := ⟨_, _, fun_mk (st := s__law_due) l10 c10 k10, PySem.W.mg_of X G a10⟩
  have F11 : Df K mg "read" s_read := ⟨_, _, fun_mk (st := s_read) l11 c11 k11, PySem.W.mg_of X G a11⟩
  have F12 : Df K mg "_law_table_by" s__law_table_by := ⟨_, _, fun_mk (st := s__law_table_by) l12 c12 k12, PySem.W.mg_of X G a12⟩
  have F13 : Df K mg "_law_tried" s__law_tried := ⟨_, _, fun_mk (st := s__law_tried) l13 c13 k13, PySem.W.mg_of X G a13⟩
  have FL := fun_mk (st := s_law) l14 c14 k14
  refine ⟨PySem.W.fnOf "law" "law" (defArgs s_law) (defBody s_law) (defScope s_law) .none kV14 dc14 pm14 an14 cd14 ct14, fun s u => .of_eq rfl, fun base _ _ => ?_⟩
  have c_asked_pair : ClX P w K mg base 1 "asked_pair" (sp_asked_pair K cs) := ok_asked_pair F0 T 
  have c_number_of : ClX P w K mg base 1 "number_of" (sp_number_of K cs) := ok_number_of F1 T 
  have c__law_cell_at : Cl P w K mg base 1 "_law_cell_at" (sp__law_cell_at K) := ok__law_cell_at F2 T 
  have c__law_word_of : ClP P w K mg base 1 "_law_word_of" (sp__law_word_of K cs) := ok__law_word_of F3 T 
  have c__law_pile_by : Cl P w K mg base 1 "_law_pile_by" (sp__law_pile_by K) := ok__law_pile_by F4 T 
  have c__law_spoilt : Cl P w K mg base 1 "_law_spoilt" (sp__law_spoilt K) := ok__law_spoilt F5 T 
  have c__law_number : Cl P w K mg base 1 "_law_number" (sp__law_number K) := ok__law_number F6 T 
  have c_asked_table : ClX P w K mg base 2 "asked_table" (sp_asked_table K cs) := ok_asked_table F7 T c_asked_pair
  have c_pair_of : ClX P w K mg base 2 "pair_of" (sp_pair_of K cs) := ok_pair_of F8 T c_number_of
  have c__law_pair_by : Cl P w K mg base 2 "_law_pair_by" (sp__law_pair_by K) := ok__law_pair_by F9 T c__law_cell_at c__law_pile_by
  have c__law_due : Cl P w K mg base 2 "_law_due" (sp__law_due K) := ok__law_due F10 T c__law_number
  have c_read : ClX P w K mg base 3 "read" (sp_read K cs) := ok_read F11 T c_asked_table c_pair_of
  have c__law_table_by : Cl P w K mg base 3 "_law_table_by" (sp__law_table_by K) := ok__law_table_by F12 T c__law_cell_at c__law_pair_by
  have c__law_tried : Cl P w K mg base 4 "_law_tried" (sp__law_tried K) := ok__law_tried F13 T c_read c__law_word_of
  exact ok_law FL T c__law_cell_at c__law_table_by c__law_spoilt c__law_due c__law_tried
end Tk
open PySem PySem.W PyProof.Rows
set_option maxRecDepth 100000 in
set_option maxHeartbeats 8000000 in
theorem PySem.Challenge.cw_takepairs_k16_read_holds : PySem.Challenge.rw_takepairs_k16_read.Holds := by
  w_on; o_law; k_head; (case hw => w_witness2)
  k_fill
  refine L2.walk_of (l := PySem.Challenge.rw_takepairs_k16_read) (n := 63) (k := 5) (x := "script") (CX := fun _ => L2.CX0) (sp := fun w => Tk.sp_law _) rfl (by decide) rfl ⟨rfl, by decide, by decide⟩ (fun w h Y => PySem.W.kIn_of Y) ?F (fun _ _ a ns hl _ hS => ⟨a, ns, rfl, hS, hl, by intro H2; intros; rfl⟩) (fun _ _ _ _ _ h => h)
  case F =>
    intro w mg fa h KX G hmg
    refine' Tk.all_mk KX G hmg ?a0 ?l0 ?c0 ?k0 ?a1 ?l1 ?c1 ?k1 ?a2 ?l2 ?c2 ?k2 ?a3 ?l3 ?c3 ?k3 ?a4 ?l4 ?c4 ?k4 ?a5 ?l5 ?c5 ?k5 ?a6 ?l6 ?c6 ?k6 ?a7 ?l7 ?c7 ?k7 ?a8 ?l8 ?c8 ?k8 ?a9 ?l9 ?c9 ?k9 ?a10 ?l10 ?c10 ?k10 ?a11 ?l11 ?c11 ?k11 ?a12 ?l12 ?c12 ?k12 ?a13 ?l13 ?c13 ?k13 ?a14 ?l14 ?c14 ?k14 ?z_ValueError ?z_int ?z_isinstance ?z_len ?z_list ?z_max ?z_min ?z_range ?z_str ?g_GREATEST ?g_MOST ?g_FIGURES ?x_gC_TakeError ?x_xC_TakeError ?x_kC_TakeError ?x_bC_TakeError ?x_tC_TakeError ?x_vC_TakeError ?x_hg_TakeError ?x_hk_TakeError ?x_hd_TakeError ?x_ha_TakeError ?x_hm_TakeError ?x_gC_NoPair ?x_xC_NoPair ?x_kC_NoPair ?x_bC_NoPair ?x_tC_NoPair ?x_vC_NoPair ?x_hg_NoPair ?x_hk_NoPair ?x_hd_NoPair ?x_ha_NoPair ?x_hm_NoPair ?x_gC_NoTable ?x_xC_NoTable ?x_kC_NoTable ?x_bC_NoTable ?x_tC_NoTable ?x_vC_NoTable ?x_hg_NoTable ?x_hk_NoTable ?x_hd_NoTable ?x_ha_NoTable ?x_hm_NoTable ?x_gC_NoMove ?x_xC_NoMove ?x_kC_NoMove ?x_bC_NoMove ?x_tC_NoMove ?x_vC_NoMove ?x_hg_NoMove ?x_hk_NoMove ?x_hd_NoMove ?x_ha_NoMove ?x_hm_NoMove ?x_gC_TooLong ?x_xC_TooLong ?x_kC_TooLong ?x_bC_TooLong ?x_tC_TooLong ?x_vC_TooLong ?x_hg_TooLong ?x_hk_TooLong ?x_hd_TooLong ?x_ha_TooLong ?x_hm_TooLong ?x_gC_NoNote ?x_xC_NoNote ?x_kC_NoNote ?x_bC_NoNote ?x_tC_NoNote ?x_vC_NoNote ?x_hg_NoNote ?x_hk_NoNote ?x_hd_NoNote ?x_ha_NoNote ?x_hm_NoNote ?hn0 ?ht0 ?sb_NoPair ?kt_NoPair_NoPair ?kt_NoPair_NoTable ?kt_NoPair_NoMove ?kt_NoPair_TooLong ?kt_NoPair_NoNote ?sb_NoTable ?kt_NoTable_NoPair ?kt_NoTable_NoTable ?kt_NoTable_NoMove ?kt_NoTable_TooLong ?kt_NoTable_NoNote ?sb_NoMove ?kt_NoMove_NoPair ?kt_NoMove_NoTable ?kt_NoMove_NoMove ?kt_NoMove_TooLong ?kt_NoMove_NoNote ?sb_TooLong ?kt_TooLong_NoPair ?kt_TooLong_NoTable ?kt_TooLong_NoMove ?kt_TooLong_TooLong ?kt_TooLong_NoNote ?sb_NoNote ?kt_NoNote_NoPair ?kt_NoNote_NoTable ?kt_NoNote_NoMove ?kt_NoNote_TooLong ?kt_NoNote_NoNote
    (case a0 => k_is)
    (case l0 => k_is)
    (case c0 => k_is)
    (case k0 => k_is)
    (case a1 => k_is)
    (case l1 => k_is)
    (case c1 => k_is)
    (case k1 => k_is)
    (case a2 => k_is)
    (case l2 => k_is)
    (case c2 => k_is)
    (case k2 => k_is)
    (case a3 => k_is)
    (case l3 => k_is)
    (case c3 => k_is)
    (case k3 => k_is)
    (case a4 => k_is)
    (case l4 => k_is)
    (case c4 => k_is)
    (case k4 => k_is)
    (case a5 => k_is)
    (case l5 => k_is)
    (case c5 => k_is)
    (case k5 => k_is)
    (case a6 => k_is)
    (case l6 => k_is)
    (case c6 => k_is)
    (case k6 => k_is)
    (case a7 => k_is)
    (case l7 => k_is)
    (case c7 => k_is)
    (case k7 => k_is)
    (case a8 => k_is)
    (case l8 => k_is)
    (case c8 => k_is)
    (case k8 => k_is)
    (case a9 => k_is)
    (case l9 => k_is)
    (case c9 => k_is)
    (case k9 => k_is)
    (case a10 => k_is)
    (case l10 => k_is)
    (case c10 => k_is)
    (case k10 => k_is)
    (case a11 => k_is)
    (case l11 => k_is)
    (case c11 => k_is)
    (case k11 => k_is)
    (case a12 => k_is)
    (case l12 => k_is)
    (case c12 => k_is)
    (case k12 => k_is)
    (case a13 => k_is)
    (case l13 => k_is)
    (case c13 => k_is)
    (case k13 => k_is)
    (case a14 => k_is)
    (case l14 => k_is)
    (case c14 => k_is)
    (case k14 => k_is)
    (case z_ValueError => k_is)
    (case z_int => k_is)
    (case z_isinstance => k_is)
    (case z_len => k_is)
    (case z_list => k_is)
    (case z_max => k_is)
    (case z_min => k_is)
    (case z_range => k_is)
    (case z_str => k_is)
    (case g_GREATEST => k_is)
    (case g_MOST => k_is)
    (case g_FIGURES => k_is)
    (case x_gC_TakeError => k_is)
    (case x_xC_TakeError => k_exc)
    (case x_kC_TakeError => k_is)
    (case x_bC_TakeError => k_is)
    (case x_tC_TakeError => k_is)
    (case x_vC_TakeError => k_is)
    (case x_hg_TakeError => k_is)
    (case x_hk_TakeError => k_is)
    (case x_hd_TakeError => k_is)
    (case x_ha_TakeError => k_is)
    (case x_hm_TakeError => k_is)
    (case x_gC_NoPair => k_is)
    (case x_xC_NoPair => k_exc)
    (case x_kC_NoPair => k_is)
    (case x_bC_NoPair => k_is)
    (case x_tC_NoPair => k_is)
    (case x_vC_NoPair => k_is)
    (case x_hg_NoPair => k_is)
    (case x_hk_NoPair => k_is)
    (case x_hd_NoPair => k_is)
    (case x_ha_NoPair => k_is)
    (case x_hm_NoPair => k_is)
    (case x_gC_NoTable => k_is)
    (case x_xC_NoTable => k_exc)
    (case x_kC_NoTable => k_is)
    (case x_bC_NoTable => k_is)
    (case x_tC_NoTable => k_is)
    (case x_vC_NoTable => k_is)
    (case x_hg_NoTable => k_is)
    (case x_hk_NoTable => k_is)
    (case x_hd_NoTable => k_is)
    (case x_ha_NoTable => k_is)
    (case x_hm_NoTable => k_is)
    (case x_gC_NoMove => k_is)
    (case x_xC_NoMove => k_exc)
    (case x_kC_NoMove => k_is)
    (case x_bC_NoMove => k_is)
    (case x_tC_NoMove => k_is)
    (case x_vC_NoMove => k_is)
    (case x_hg_NoMove => k_is)
    (case x_hk_NoMove => k_is)
    (case x_hd_NoMove => k_is)
    (case x_ha_NoMove => k_is)
    (case x_hm_NoMove => k_is)
    (case x_gC_TooLong => k_is)
    (case x_xC_TooLong => k_exc)
    (case x_kC_TooLong => k_is)
    (case x_bC_TooLong => k_is)
    (case x_tC_TooLong => k_is)
    (case x_vC_TooLong => k_is)
    (case x_hg_TooLong => k_is)
    (case x_hk_TooLong => k_is)
    (case x_hd_TooLong => k_is)
    (case x_ha_TooLong => k_is)
    (case x_hm_TooLong => k_is)
    (case x_gC_NoNote => k_is)
    (case x_xC_NoNote => k_exc)
    (case x_kC_NoNote => k_is)
    (case x_bC_NoNote => k_is)
    (case x_tC_NoNote => k_is)
    (case x_vC_NoNote => k_is)
    (case x_hg_NoNote => k_is)
    (case x_hk_NoNote => k_is)
    (case x_hd_NoNote => k_is)
    (case x_ha_NoNote => k_is)
    (case x_hm_NoNote => k_is)
    (case hn0 => k_is)
    (case ht0 => k_is)
    (case sb_NoPair => first | rfl | k_is)
    (case kt_NoPair_NoPair => first | rfl | k_is)
    (case kt_NoPair_NoTable => first | rfl | k_is)
    (case kt_NoPair_NoMove => first | rfl | k_is)
    (case kt_NoPair_TooLong => first | rfl | k_is)
    (case kt_NoPair_NoNote => first | rfl | k_is)
    (case sb_NoTable => first | rfl | k_is)
    (case kt_NoTable_NoPair => first | rfl | k_is)
    (case kt_NoTable_NoTable => first | rfl | k_is)
    (case kt_NoTable_NoMove => first | rfl | k_is)
    (case kt_NoTable_TooLong => first | rfl | k_is)
    (case kt_NoTable_NoNote => first | rfl | k_is)
    (case sb_NoMove => first | rfl | k_is)
    (case kt_NoMove_NoPair => first | rfl | k_is)
    (case kt_NoMove_NoTable => first | rfl | k_is)
    (case kt_NoMove_NoMove => first | rfl | k_is)
    (case kt_NoMove_TooLong => first | rfl | k_is)
    (case kt_NoMove_NoNote => first | rfl | k_is)
    (case sb_TooLong => first | rfl | k_is)
    (case kt_TooLong_NoPair => first | rfl | k_is)
    (case kt_TooLong_NoTable => first | rfl | k_is)
    (case kt_TooLong_NoMove => first | rfl | k_is)
    (case kt_TooLong_TooLong => first | rfl | k_is)
    (case kt_TooLong_NoNote => first | rfl | k_is)
    (case sb_NoNote => first | rfl | k_is)
    (case kt_NoNote_NoPair => first | rfl | k_is)
    (case kt_NoNote_NoTable => first | rfl | k_is)
    (case kt_NoNote_NoMove => first | rfl | k_is)
    (case kt_NoNote_TooLong => first | rfl | k_is)
    (case kt_NoNote_NoNote => first | rfl | k_is)
#print axioms PySem.Challenge.cw_takepairs_k16_read_holds
