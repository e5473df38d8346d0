import PyProof.Rows.All
import Wide.All
import OpenK.AllK
import Wide.FinOn
import HandS.ForMost
import HandS.Exc
import HandS.TryOnly
import HandS.ExcOwn
import HandS.WordsExc
import HandS.Wide
import HandS.IsInst
import HandS.Evl
import HandS.Zip
import HandS.Walk
import HandS.Deep
import PySem.Challenge.RW_takepairs_k09_whole_played
set_option Elab.async false
set_option linter.all false
set_option maxRecDepth 100000
set_option maxHeartbeats 2000000
/-! Tk: the layer of this claim: pairs, step lemmas for readings, rules for max and min of a pair -/
namespace Tk
open PySem PySem.Spec PyProof.Rows L2 Evl

/-! ### pairs -/
/-- v is a tuple of the two ints -/
def Pr (K : PySem.W.Frag) (H : Hp) (v : V) (x y : Int) : Prop := ∃ a, v = .ref a ∧ SqT K H a [.int x, .int y]
theorem Pr.mono {K : PySem.W.Frag} {H H' : Hp} {v : V} {x y : Int} (e : Ex H H') (h : Pr K H v x y) : Pr K H' v x y := by
  obtain ⟨a, rfl, h⟩ := h
  exact ⟨a, rfl, ex_t e h⟩
theorem Pr.of {K : PySem.W.Frag} {H : Hp} {a : Addr} {x y : Int} (h : H a = some (.tup [.int x, .int y])) : Pr K H (.ref a) x y := ⟨a, rfl, st_of h⟩

/-- .. made in the call -/
def PrS (H : Hp) (v : V) (x y : Int) : Prop := ∃ a, v = .ref a ∧ H a = some (.tup [.int x, .int y])
theorem PrS.pr {K : PySem.W.Frag} {H : Hp} {v : V} {x y : Int} (h : PrS H v x y) : Pr K H v x y := by
  obtain ⟨a, rfl, h⟩ := h
  exact ⟨a, rfl, st_of h⟩
theorem PrS.mono {H H' : Hp} {v : V} {x y : Int} (e : Ex H H') (h : PrS H v x y) : PrS H' v x y := by
  obtain ⟨a, rfl, h⟩ := h
  exact ⟨a, rfl, e _ _ h⟩

/-! ### max and min of a tuple of two ints -/
section
variable {prog : Program} {w : World} {A : Around} {E : Value → Shared → Prop} {s : Shared} {l : Addr}
theorem max_tup2 {a b : Int} {t u : Tok} {Q : Value → Shared → Prop} (hh : A.handled = none) (hT : s.heap.IsTuple l #[.int a t, .int b u])
    (h : ∀ h' tk, (∀ c o, s.heap.get? c = some o → h'.get? c = some o) → Q (if b > a then .int b u else .int a t) { s with heap := h', toks := tk }) :
    wpAny (model prog w) A (call (.builtin "max") [.ref l]) Q E s := by
  have hlt : l < s.heap.objs.size := by obtain ⟨_, e, _⟩ := hT; exact Heap.lt_size e
  have e0 : (#[.int a t, .int b u] : Array Value) = intItems #[(a, t), (b, u)] := by simp [intItems]
  rw [e0] at hT
  refine call_max_walk (wpAny_pyIter_tuple hT ?_)
  refine ⟨_, [_, l], [_], _, _, _, _, rfl, Walks.tuple (A := A.in1) hh _ l (Nat.ne_of_lt hlt) (intItems #[(a, t), (b, u)]),
    ⟨⟨_, Heap.get?_push_size _ rfl, rfl, rfl⟩, hT.push _⟩, fun c hc => ?_, by simp [intItems], CmpOf.ints_gt (numAt #[(a, t), (b, u)]) (fun _ _ => intItems_at), fun v h' tk hP hk => ?_⟩
  · show c < (s.heap.push _).objs.size
    rw [Heap.size_push]
    rcases List.mem_cons.mp hc with rfl | hc
    · exact Nat.lt_succ_self _
    · rcases List.mem_cons.mp hc with rfl | hc
      · exact Nat.lt_succ_of_lt hlt
      · cases hc
  · have hold : ∀ c o, s.heap.get? c = some o → h'.get? c = some o := fun c o e => by
      refine hk c o (fun hm => ?_) (Heap.get?_push_of_some _ e)
      rcases List.mem_cons.mp hm with e1 | hm
      · have := Heap.lt_size e; rw [e1] at this; exact Nat.lt_irrefl _ this
      · cases hm
    have := h h' tk hold
    have hv : v = if b > a then Value.int b u else Value.int a t := by
      have hP' : (intItems #[(a, t), (b, u)])[argBest (fun i j => decide (numAt #[(a, t), (b, u)] i > numAt #[(a, t), (b, u)] j)) 1]? = some v := by
        have hsz2 : (intItems #[(a, t), (b, u)]).size - 1 = 1 := by simp [intItems]
        rw [← hsz2]; exact hP
      by_cases hba : b > a
      · have e : argBest (fun i j => decide (numAt #[(a, t), (b, u)] i > numAt #[(a, t), (b, u)] j)) 1 = 1 := by simp [argBest, numAt, hba]
        rw [e] at hP'
        simpa [intItems, hba] using hP'.symm
      · have e : argBest (fun i j => decide (numAt #[(a, t), (b, u)] i > numAt #[(a, t), (b, u)] j)) 1 = 0 := by simp [argBest, numAt, hba]
        rw [e] at hP'
        simpa [intItems, hba] using hP'.symm
    rw [hv]; exact this
theorem min_tup2 {a b : Int} {t u : Tok} {Q : Value → Shared → Prop} (hh : A.handled = none) (hT : s.heap.IsTuple l #[.int a t, .int b u])
    (h : ∀ h' tk, (∀ c o, s.heap.get? c = some o → h'.get? c = some o) → Q (if b < a then .int b u else .int a t) { s with heap := h', toks := tk }) :
    wpAny (model prog w) A (call (.builtin "min") [.ref l]) Q E s := by
  have hlt : l < s.heap.objs.size := by obtain ⟨_, e, _⟩ := hT; exact Heap.lt_size e
  have e0 : (#[.int a t, .int b u] : Array Value) = intItems #[(a, t), (b, u)] := by simp [intItems]
  rw [e0] at hT
  refine call_min_walk (wpAny_pyIter_tuple hT ?_)
  refine ⟨_, [_, l], [_], _, _, _, _, rfl, Walks.tuple (A := A.in1) hh _ l (Nat.ne_of_lt hlt) (intItems #[(a, t), (b, u)]),
    ⟨⟨_, Heap.get?_push_size _ rfl, rfl, rfl⟩, hT.push _⟩, fun c hc => ?_, by simp [intItems], CmpOf.ints_lt (numAt #[(a, t), (b, u)]) (fun _ _ => intItems_at), fun v h' tk hP hk => ?_⟩
  · show c < (s.heap.push _).objs.size
    rw [Heap.size_push]
    rcases List.mem_cons.mp hc with rfl | hc
    · exact Nat.lt_succ_self _
    · rcases List.mem_cons.mp hc with rfl | hc
      · exact Nat.lt_succ_of_lt hlt
      · cases hc
  · have hold : ∀ c o, s.heap.get? c = some o → h'.get? c = some o := fun c o e => by
      refine hk c o (fun hm => ?_) (Heap.get?_push_of_some _ e)
      rcases List.mem_cons.mp hm with e1 | hm
      · have := Heap.lt_size e; rw [e1] at this; exact Nat.lt_irrefl _ this
      · cases hm
    have := h h' tk hold
    have hv : v = if b < a then Value.int b u else Value.int a t := by
      have hP' : (intItems #[(a, t), (b, u)])[argBest (fun i j => decide (numAt #[(a, t), (b, u)] i < numAt #[(a, t), (b, u)] j)) 1]? = some v := by
        have hsz2 : (intItems #[(a, t), (b, u)]).size - 1 = 1 := by simp [intItems]
        rw [← hsz2]; exact hP
      by_cases hba : b < a
      · have e : argBest (fun i j => decide (numAt #[(a, t), (b, u)] i < numAt #[(a, t), (b, u)] j)) 1 = 1 := by simp [argBest, numAt, hba]
        rw [e] at hP'
        simpa [intItems, hba] using hP'.symm
      · have e : argBest (fun i j => decide (numAt #[(a, t), (b, u)] i < numAt #[(a, t), (b, u)] j)) 1 = 0 := by simp [argBest, numAt, hba]
        rw [e] at hP'
        simpa [intItems, hba] using hP'.symm
    rw [hv]; exact this
end
section
variable {X : Cx}
theorem Pr.get {pins : List (Addr × Obj)} {σ : L2.St} {H : Hp} {s : Shared} {v : V} {x y : Int} (I : Inv X pins σ H s) (h : Pr X.K H v x y) : ∃ a t u, v = .ref a ∧ s.heap.IsTuple a #[.int x t, .int y u] := by
  obtain ⟨a, rfl, hq⟩ := h
  obtain ⟨its, rv, ht, hz⟩ := I.tuple hq
  cases rv with
  | cons r1 rr =>
    cases rr with
    | cons r2 rr =>
      cases rr
      obtain ⟨t, rfl⟩ := r1
      obtain ⟨u, rfl⟩ := r2
      exact ⟨a, t, u, rfl, ht⟩
def rMaxT (K : PySem.W.Frag) : List V → Hp → VK → Prop := fun vs H Q => ∃ v x y, vs = [v] ∧ Pr K H v x y ∧ Q (.int (max x y)) H
def rMinT (K : PySem.W.Frag) : List V → Hp → VK → Prop := fun vs H Q => ∃ v x y, vs = [v] ∧ Pr K H v x y ∧ Q (.int (min x y)) H
def rMax2 : List V → Hp → VK → Prop := fun xs H Q => ∃ i j, xs = [.int i, .int j] ∧ Q (.int (max i j)) H
def rMin2 : List V → Hp → VK → Prop := fun xs H Q => ∃ i j, xs = [.int i, .int j] ∧ Q (.int (min i j)) H
theorem call_maxT (hc : X.calm = true) : CallR X (.builtin "max") (rMaxT X.K) := by
  intro pins s σ H xs us Q I r h
  obtain ⟨v, x, y, rfl, hp, q⟩ := h
  obtain ⟨a, t, u, rfl, ht⟩ := hp.get I
  cases r with
  | cons r rr =>
    cases rr
    obtain rfl : _ = Value.ref a := r
    refine max_tup2 (I.ok.hd hc) ht fun h' tk hk => ?_
    by_cases c : y > x
    · rw [if_pos c]
      exact ⟨.int (max x y), H, I.kept hk, ⟨u, by congr 1; omega⟩, q⟩
    · rw [if_neg c]
      exact ⟨.int (max x y), H, I.kept hk, ⟨t, by congr 1; omega⟩, q⟩
theorem call_minT (hc : X.calm = true) : CallR X (.builtin "min") (rMinT X.K) := by
  intro pins s σ H xs us Q I r h
  obtain ⟨v, x, y, rfl, hp, q⟩ := h
  obtain ⟨a, t, u, rfl, ht⟩ := hp.get I
  cases r with
  | cons r rr =>
    cases rr
    obtain rfl : _ = Value.ref a := r
    refine min_tup2 (I.ok.hd hc) ht fun h' tk hk => ?_
    by_cases c : y < x
    · rw [if_pos c]
      exact ⟨.int (min x y), H, I.kept hk, ⟨u, by congr 1; omega⟩, q⟩
    · rw [if_neg c]
      exact ⟨.int (min x y), H, I.kept hk, ⟨t, by congr 1; omega⟩, q⟩
theorem call_max2' (hc : X.calm = true) : CallR X (.builtin "max") rMax2 := by
  intro pins s σ H xs us Q I r h
  obtain ⟨i, j, e, q⟩ := h
  refine call_max2 hc pins s σ H xs us Q I r ⟨i, j, e, ?_⟩
  have e2 : (if j > i then j else i) = max i j := by omega
  rw [e2]; exact q
theorem call_min2' (hc : X.calm = true) : CallR X (.builtin "min") rMin2 := by
  intro pins s σ H xs us Q I r h
  obtain ⟨i, j, e, q⟩ := h
  refine call_min2 hc pins s σ H xs us Q I r ⟨i, j, e, ?_⟩
  have e2 : (if j < i then j else i) = min i j := by omega
  rw [e2]; exact q
end

/-! ### one step of a reading -/
section
variable {K : PySem.W.Frag} {σ : L2.St} {H : Hp} {Q : VK} {ta tb te tc : TE} {tr t : TA} {QA : List V → Hp → Prop} {D : Ends} {ts us : TS} {tt tu : TT} {v x y z : V} {r : R2} {i j : Int}
theorem d_var {i : Nat} (h : σ[i]? = some (some v)) (q : Q v H) : tVar i σ H Q := ⟨v, h, q⟩
theorem d_c (q : Q v H) : tC v σ H Q := q
theorem d_op (q : ta σ H fun x H1 => tb σ H1 fun y H2 => r x y H2 Q) : tOp r ta tb σ H Q := q
theorem d_un {r : V → Hp → VK → Prop} (q : ta σ H fun x H1 => r x H1 Q) : tUn r ta σ H Q := q
theorem d_rI0 {g : Int → Int → V} (q : Q (g i j) H) : rI0 g (.int i) (.int j) H Q := ⟨i, j, rfl, rfl, q⟩
theorem d_rI {C : Int → Int → Prop} {g : Int → Int → V} (hc : C i j) (q : Q (g i j) H) : rI C g (.int i) (.int j) H Q := ⟨i, j, rfl, rfl, hc, q⟩
theorem d_pow30 (q : Q (.int 1000000000000000000000000000000) H) : rI CPow (fun i j => .int (i ^ j.toNat)) (.int 10) (.int 30) H Q := ⟨10, 30, rfl, rfl, ⟨by decide, by decide, by decide⟩, q⟩
theorem d_rU {g : Int → V} (q : Q (g i) H) : rU g (.int i) H Q := ⟨i, rfl, q⟩
theorem d_eq (h : scal x y = true) (q : Q (.bl (decide (x = y))) H) : rEq x y H Q := ⟨h, q⟩
theorem d_ne (h : scal x y = true) (q : Q (.bl (!decide (x = y))) H) : rNe x y H Q := ⟨h, q⟩
theorem d_eqI (q : Q (.bl (decide (i = j))) H) : rEq (.int i) (.int j) H Q := by
  have e : decide (V.int i = V.int j) = decide (i = j) := by simp
  exact ⟨rfl, by rw [e]; exact q⟩
theorem d_neI (q : Q (.bl (!decide (i = j))) H) : rNe (.int i) (.int j) H Q := by
  have e : decide (V.int i = V.int j) = decide (i = j) := by simp
  exact ⟨rfl, by rw [e]; exact q⟩
theorem d_eqS {i j : Str} (q : Q (.bl (decide (i = j))) H) : rEq (.str i) (.str j) H Q := by
  have e : decide (V.str i = V.str j) = decide (i = j) := by simp
  exact ⟨rfl, by rw [e]; exact q⟩
theorem d_neS {i j : Str} (q : Q (.bl (!decide (i = j))) H) : rNe (.str i) (.str j) H Q := by
  have e : decide (V.str i = V.str j) = decide (i = j) := by simp
  exact ⟨rfl, by rw [e]; exact q⟩
theorem d_eqB {i j : Bool} (q : Q (.bl (decide (i = j))) H) : rEq (.bl i) (.bl j) H Q := by
  have e : decide (V.bl i = V.bl j) = decide (i = j) := by simp
  exact ⟨rfl, by rw [e]; exact q⟩
theorem d_nil (q : QA [] H) : tNil σ H QA := q
theorem d_cons (q : ta σ H fun x H1 => tr σ H1 fun xs H2 => QA (x :: xs) H2) : tCons ta tr σ H QA := q
/-- a new tuple, a new list -/
def rNewT (xs : List V) (H : Hp) (Q : VK) : Prop := xs.length ≤ sizeLine ∧ ∀ p, H p = none → Q (.ref p) (upd H p (.tup xs))
def rNewL (xs : List V) (H : Hp) (Q : VK) : Prop := xs.length ≤ sizeLine ∧ ∀ p, H p = none → Q (.ref p) (upd H p (.lst xs))
theorem d_tup (q : t σ H fun xs H1 => rNewT xs H1 Q) : tTup t σ H Q := q
theorem d_lst (q : t σ H fun xs H1 => rNewL xs H1 Q) : tLst t σ H Q := q
theorem small_sz {xs : List V} (h : xs.length ≤ 1000) : xs.length ≤ sizeLine := sz_of (Nat.le_trans h (by decide))
theorem d_newP (q : ∀ v H2, Ex H H2 → PrS H2 v i j → Q v H2) : rNewT [.int i, .int j] H Q :=
  ⟨small_sz (by show 2 ≤ 1000; decide), fun p hp => q _ _ (Ex.new hp) ⟨p, rfl, upd_same⟩⟩
theorem d_newT {xs : List V} (hl : xs.length ≤ 1000) (q : ∀ p H2, H p = none → Ex H H2 → H2 p = some (.tup xs) → Q (.ref p) H2) : rNewT xs H Q := ⟨small_sz hl, fun p hp => q p _ hp (Ex.new hp) upd_same⟩
theorem d_newL {xs : List V} (hl : xs.length ≤ 1000) (q : ∀ p H2, H p = none → Ex H H2 → H2 p = some (.lst xs) → Q (.ref p) H2) : rNewL xs H Q := ⟨small_sz hl, fun p hp => q p _ hp (Ex.new hp) upd_same⟩
theorem d_call {sp : Sp} {E : XK} (q : t σ H fun vs H1 => sp vs H1 Q E) : tCall sp [] E t σ H Q := by
  show t σ H fun vs H1 => sp (vs ++ []) H1 Q E
  simp only [List.append_nil]
  exact q
theorem d_cb {r : List V → Hp → VK → Prop} (q : t σ H fun vs H1 => r vs H1 Q) : tCB r t σ H Q := q
theorem d_maxT (h : Pr K H v i j) (q : Q (.int (max i j)) H) : rMaxT K [v] H Q := ⟨v, i, j, rfl, h, q⟩
theorem d_minT (h : Pr K H v i j) (q : Q (.int (min i j)) H) : rMinT K [v] H Q := ⟨v, i, j, rfl, h, q⟩
theorem d_max2 (q : Q (.int (max i j)) H) : rMax2 [.int i, .int j] H Q := ⟨i, j, rfl, q⟩
theorem d_min2 (q : Q (.int (min i j)) H) : rMin2 [.int i, .int j] H Q := ⟨i, j, rfl, q⟩
theorem d_ixP0 (h : Pr K H v i j) (q : Q (.int i) H) : rIxT K v (.int 0) H Q := by
  obtain ⟨a, rfl, h⟩ := h
  exact ⟨a, _, 0, _, rfl, rfl, h, rfl, q⟩
theorem d_ixP1 (h : Pr K H v i j) (q : Q (.int j) H) : rIxT K v (.int 1) H Q := by
  obtain ⟨a, rfl, h⟩ := h
  exact ⟨a, _, 1, _, rfl, rfl, h, rfl, q⟩
theorem d_ixL {p : Addr} {xs : List V} (h : SqL K H p xs) (ha : atI xs i = some v) (q : Q v H) : rIxL K (.ref p) (.int i) H Q := ⟨p, xs, i, v, rfl, rfl, h, ha, q⟩
theorem d_ixT {p : Addr} {xs : List V} (h : SqT K H p xs) (ha : atI xs i = some v) (q : Q v H) : rIxT K (.ref p) (.int i) H Q := ⟨p, xs, i, v, rfl, rfl, h, ha, q⟩
theorem d_len {p : Addr} {xs : List V} (h : SqL K H p xs) (q : Q (.int (xs.length : Int)) H) : rLenS K [.ref p] H Q := ⟨p, xs, rfl, .inl h, q⟩
theorem d_sum {p : Addr} {ns : List Int} (h : SqL K H p (ns.map V.int)) (q : Q (.int ns.sum) H) : rSum K [.ref p] H Q := ⟨p, ns, rfl, h, q⟩
theorem d_ev (h : Ev te σ H v) (q : ∀ H1, Ex H H1 → Q v H1) : te σ H Q := h H (Ex.refl H) Q q
theorem d_ifE {b : Bool} (h : EvT tt σ H b) (h1 : b = true → ∀ H1, Ex H H1 → ta σ H1 Q) (h0 : b = false → ∀ H1, Ex H H1 → tb σ H1 Q) : tIf tt ta tb σ H Q := h H (Ex.refl H) _ fun H1 e1 => by
  cases b with
  | true => exact h1 rfl H1 e1
  | false => exact h0 rfl H1 e1
/-- a chain of two comparisons of ints -/
theorem ev_chain {f g : Int → Int → Bool} {a b c : Int} (h1 : Ev ta σ H (.int a)) (h2 : Ev tb σ H (.int b)) (h3 : Ev tc σ H (.int c)) : Ev (tChain (rI0 fun i j => .bl (f i j)) (rI0 fun i j => .bl (g i j)) ta tb tc) σ H (.bl (f a b && g b c)) := fun H1 e Q q =>
  h1 H1 e _ fun H2 e2 => h2 H2 (e.trans e2) _ fun H3 e3 => ⟨a, b, rfl, rfl, f a b, rfl, by
    cases hf : f a b with
    | true =>
      rw [if_pos rfl]
      exact h3 H3 ((e.trans e2).trans e3) _ fun H4 e4 => ⟨b, c, rfl, rfl, by rw [hf, Bool.true_and] at q; exact q H4 ((e2.trans e3).trans e4)⟩
    | false =>
      rw [if_neg Bool.false_ne_true]
      rw [hf, Bool.false_and] at q
      exact q H3 (e2.trans e3)⟩
/-- statements -/
theorem d_seq (q : ts { D with nx := us D } σ H) : tSeq ts us D σ H := q
theorem d_asg {i : Nat} (q : te σ H fun x H1 => D.nx (σ.set i (some x)) H1) : tAsg te (gName i) D σ H := q
theorem d_gName {i : Nat} {v : V} {Q : L2.St → Hp → Prop} (q : Q (σ.set i (some v)) H) : gName i v σ H Q := q
theorem d_asgG {g : TG} (q : te σ H fun x H1 => g x σ H1 D.nx) : tAsg te g D σ H := q
theorem d_gTupP {i j : Nat} {x y : Int} {Q : L2.St → Hp → Prop} (h : Pr K H v x y) (q : Q ((σ.set i (some (.int x))).set j (some (.int y))) H) : gTup K 2 (gCons (gName i) (gCons (gName j) gNil)) v σ H Q := by
  obtain ⟨a, rfl, h⟩ := h
  exact ⟨a, _, rfl, h, rfl, _, _, rfl, _, _, rfl, rfl, q⟩
theorem d_gTup2 {i j : Nat} {p : Addr} {x y : V} {Q : L2.St → Hp → Prop} (h : SqT K H p [x, y]) (q : Q ((σ.set i (some x)).set j (some y)) H) : gTup K 2 (gCons (gName i) (gCons (gName j) gNil)) (.ref p) σ H Q := ⟨p, _, rfl, h, rfl, _, _, rfl, _, _, rfl, rfl, q⟩
theorem d_ret (q : te σ H D.rt) : tRet te D σ H := q
theorem d_retN (q : D.rt .non H) : tRetN D σ H := q
theorem d_drop (q : te σ H fun _ H1 => D.nx σ H1) : tDrop te D σ H := q
theorem d_next (q : D.nx σ H) : tNext D σ H := q
theorem d_if {b : Bool} (h : EvT tt σ H b) (h1 : b = true → ∀ H1, Ex H H1 → ts D σ H1) (h0 : b = false → ∀ H1, Ex H H1 → us D σ H1) : tIfS tt ts us D σ H := s_if h h1 h0
def rPar (i j : Nat) (D : Ends) (σ : L2.St) (vs : List V) (H : Hp) : Prop := ∃ v w, vs = [v, w] ∧ D.nx ((σ.set i (some v)).set j (some w)) H
theorem d_par {i j : Nat} (q : t σ H (rPar i j D σ)) : tPar i j t D σ H := q
theorem d_rPar {i j : Nat} (q : D.nx ((σ.set i (some x)).set j (some y)) H) : rPar i j D σ [x, y] H := ⟨x, y, rfl, q⟩
theorem ev_intro (h : ∀ H1, Ex H H1 → ∀ Q : VK, (∀ H2, Ex H1 H2 → Q v H2) → te σ H1 Q) : Ev te σ H v := h
end

/-! ### defs by name -/
/-- the def of the text st stands behind the top under its name -/
def Df (K : PySem.W.Frag) (mg : Str → Option Value) (x : Str) (st : Stmt) : Prop := ∃ f fd, L2.Fun K x x st f fd ∧ mg x = some (.ref f)
/-- a def that may be called by its name and keeps sp; nothing is raised -/
def Cl (P : Program) (w : World) (K : PySem.W.Frag) (mg : Str → Option Value) (base : Heap) (k : Nat) (x : Str) (sp : Sp) : Prop :=
  ∃ f fd ps, FnOk P w K mg base CX0 k f fd ps sp ∧ mg x = some (.ref f) ∧ PySem.W.keepIn K (.ref f) = true ∧ Binds K fd ps []
section
variable {P : Program} {w : World} {K : PySem.W.Frag} {mg : Str → Option Value} {base : Heap}
theorem cl_of {x : Str} {st : Stmt} {N ps : List Str} {k : Nat} {sp : Sp} (F : Df K mg x st)
    (hb : ∀ (kV doc pm : Value) (an : Option Addr) (cdv ct : Value) (us : List Value), us.length = ps.length → bindArgs (PySem.W.fnOf x x (defArgs st) (defBody st) (defScope st) .none kV doc pm an cdv ct) ⟨us, []⟩ = pure (ps.zip us))
    (S : FnScope N ps (defScope st)) (len : ∀ vs H Q E, sp vs H Q E → vs.length = ps.length)
    (hbody : ∀ (f : Addr) (cdv : Value) (A : Around) (outer : List Env) (s : Shared) (H : Hp) (vs : List V) (Q : VK) (E : XK), Room k (A.deeper (envOfC x (defScope st) s.heap.objs.size f cdv)) → sp vs H Q E →
      ∃ t, PSs (cxOf CX0 P w K mg base N x (defScope st) f cdv A outer s H E).nox (defBody st) t ∧ t { nx := fun _ H' => Q .non H', rt := Q } (start N vs) H) : Cl P w K mg base (k + 1) x sp := by
  obtain ⟨f, fd, F, hm⟩ := F
  exact ⟨f, fd, ps, F.ok S len (hbody f), hm, F.kp, F.binds hb⟩
end
section
variable {X : Cx} {k j : Nat} {x : Str} {sp : Sp} {p pos : Pos} {e : Expr} {es : List Expr} {t : TA}
theorem pe_cl (c : Cl X.prog X.w X.K X.mg X.base k x sp) (hr : Room j X.A) (hk : k ≤ j) (hg : Gl X x) (ha : PA X (e :: es) t)
    (hdb : (x == ("__debug__" : Str)) = false := by decide) (he : starEach (e :: es) X.env = (false, eval e X.env) :: starEach es X.env := by rfl) (hpl : (backTo pos (starEach es X.env)).any (·.1) = false := by rfl) :
    PE X (.Call (.Name x p) (e :: es) [] pos) (tCall sp [] E0 t) := by
  obtain ⟨f, fd, ps, F, hm, kp, b⟩ := c
  exact pe_call F (hr.mono hk) hg hm kp b .nil pass0 ha hdb he hpl
/-- a constant of the module -/
theorem pe_gc {v : V} (hg : Gl X x) (h : ∃ u, X.mg x = some u ∧ RelV v u) (hd : (x == ("__debug__" : Str)) = false := by decide) : PE X (.Name x pos) (tC v) := by
  obtain ⟨u, hm, r⟩ := h
  exact pe_glob hg hm r hd
theorem call_lenL : CallR X (.builtin "len") (rLenS X.K) := call_len_seq
/-- is None -/
def rIsNn : R2 := fun x y H Q => y = .non ∧ Q (.bl (decide (x = .non))) H
def rNotNn : R2 := fun x y H Q => y = .non ∧ Q (.bl (!decide (x = .non))) H
theorem op_isNn : OpR X (compareOp .Is) rIsNn := op_isN
theorem op_notNn : OpR X (compareOp .IsNot) rNotNn := op_notN
def rIntB : List V → Hp → VK → Prop := fun vs H Q => ∃ k, vs = [.bl k] ∧ Q (.int (if k then 1 else 0)) H
theorem call_intB : CallR X (.type "int") rIntB := by
  intro pins s σ H xs us Q I r h
  exact call_int1 pins s σ H xs us Q I r (.inr h)
end
section
variable {K : PySem.W.Frag} {σ : L2.St} {H : Hp} {Q : VK}
theorem d_isNn {x : V} (q : Q (.bl (decide (x = .non))) H) : rIsNn x .non H Q := ⟨rfl, q⟩
theorem d_notNn {x : V} (q : Q (.bl (!decide (x = .non))) H) : rNotNn x .non H Q := ⟨rfl, q⟩
theorem d_intB {b : Bool} (q : Q (.int (if b then 1 else 0)) H) : rIntB [.bl b] H Q := ⟨b, rfl, q⟩
theorem d_isi {x : V} {n : String} {m : String} {b : Bool} (ty : TyX K H x (.type m)) (e : kitB m n = some b) (q : Q (.bl b) H) : rIsi K [x, .ty n] H Q := ⟨x, .ty n, _, _, b, rfl, .ty n, ty, kit_ty e, q⟩
theorem k_ii : kitB "int" "int" = some true := by decide +kernel
theorem k_ib : kitB "int" "bool" = some false := by decide +kernel
theorem k_bb : kitB "bool" "bool" = some true := by decide +kernel
theorem k_ll : kitB "list" "list" = some true := by decide +kernel
theorem k_tt : kitB "tuple" "tuple" = some true := by decide +kernel
theorem k_ss : kitB "str" "str" = some true := by decide +kernel
theorem k_ls : kitB "list" "str" = some false := by decide +kernel
theorem ty_int {i : Int} : TyX K H (.int i) (.type "int") := .base (.int i)
theorem ty_bl {i : Bool} : TyX K H (.bl i) (.type "bool") := .base (.bl i)
theorem ty_str {i : Str} : TyX K H (.str i) (.type "str") := .base (.str i)
theorem ty_non : TyX K H .non (.type "NoneType") := .base .non
theorem ty_list {p : Addr} {xs : List V} (h : SqL K H p xs) : TyX K H (.ref p) (.type "list") := by
  rcases h with (h | ⟨o, h⟩) | ⟨o, its, n, hk, hc, _⟩
  · exact .base (.lst h)
  · exact .base (.frz h)
  · exact .kList hk hc
theorem ty_tup {p : Addr} {xs : List V} (h : SqT K H p xs) : TyX K H (.ref p) (.type "tuple") := by
  rcases h with (h | ⟨o, h⟩) | ⟨o, its, n, hk, hc, _⟩
  · exact .base (.tup h)
  · exact .fTuple h
  · exact .kTuple hk hc
theorem ty_pr {v : V} {x y : Int} (h : Pr K H v x y) : TyX K H v (.type "tuple") := by
  obtain ⟨a, rfl, h⟩ := h
  exact ty_tup h
end
/-- a pile that may stand -/
def Gd (x : Int) : Prop := 1 ≤ x ∧ x ≤ 1000000000000000000000000000000
theorem divW {i j : Int} (h : 0 < j) (h2 : j ≤ 10000000000000000000000000000000000000000000000000000000000000000000000) : CDivW i j :=
  wide_div (b := 300) h (by have e : (10000000000000000000000000000000000000000000000000000000000000000000000 : Int) ≤ 2 ^ 300 := by decide
                            omega) (by decide) (by decide)
theorem mulW {i j : Int} (h : -10000000000000000000000000000000000000000000000000000000000000000000000 ≤ i ∧ i ≤ 10000000000000000000000000000000000000000000000000000000000000000000000)
    (h2 : -10000000000000000000000000000000000000000000000000000000000000000000000 ≤ j ∧ j ≤ 10000000000000000000000000000000000000000000000000000000000000000000000) : CMulW i j :=
  wide_mul (a := 300) (b := 300) (by have e : (10000000000000000000000000000000000000000000000000000000000000000000000 : Int) < 2 ^ 300 := by decide
                                     omega) (by have e : (10000000000000000000000000000000000000000000000000000000000000000000000 : Int) < 2 ^ 300 := by decide
                                                omega) (by decide) (by decide) (by decide)

/-! ### loops, lists that are the def's own -/
def Exb (l : Addr) (H H2 : Hp) : Prop := ∀ b o, H b = some o → b ≠ l → H2 b = some o
theorem Exb.base {l : Addr} {H0 H H2 : Hp} (b : Exb l H H2) (h0 : H0 l = none) (e : Ex H0 H) : Ex H0 H2 := fun a o h => b a o (e a o h) (ne_of_none h h0)
theorem Exb.upd {l : Addr} {H : Hp} {o : HO} : Exb l H (upd H l o) := fun b u h n => by rw [upd_ne n]; exact h
theorem Ex.at {H H' : Hp} {l : Addr} {o : HO} (e : Ex H H') (h : H l = some o) : H' l = some o := e l o h
theorem Exb.rdT {l : Addr} {H H2 : Hp} {xs ys : List V} {a : Addr} (b : Exb l H H2) (h : H l = some (.lst xs)) (r : Rd H a (.tup ys)) : Rd H2 a (.tup ys) := by
  rcases r with r | ⟨o, r⟩
  · exact .inl (b a _ r (ne_of r h (by intro z; cases z)))
  · exact .inr ⟨o, b a _ r (ne_of r h (by intro z; cases z))⟩
theorem Exb.tup {K : PySem.W.Frag} {l : Addr} {H H2 : Hp} {xs ys : List V} {a : Addr} (b : Exb l H H2) (h : H l = some (.lst xs)) (r : SqT K H a ys) : SqT K H2 a ys := by
  rcases r with r | r
  · exact .inl (b.rdT h r)
  · exact .inr r
theorem Exb.pr {K : PySem.W.Frag} {l : Addr} {H H2 : Hp} {xs : List V} {v : V} {x y : Int} (b : Exb l H H2) (h : H l = some (.lst xs)) (r : Pr K H v x y) : Pr K H2 v x y := by
  obtain ⟨a, rfl, r⟩ := r
  exact ⟨a, rfl, b.tup h r⟩
section
variable {K : PySem.W.Frag} {σ : L2.St} {H : Hp} {Q : VK} {te : TE} {D : Ends} {ts us : TS} {tt : TT} {v : V} {l : Addr}
def rBmL (K : PySem.W.Frag) (r : V → List V → Hp → VK → Prop) (t : TA) (σ : L2.St) (x : V) (H : Hp) (Q : VK) : Prop := tyV K "list" x H ∧ t σ H fun xs H2 => r x xs H2 Q
theorem d_bmL {r : V → List V → Hp → VK → Prop} {t : TA} (q : te σ H fun x H1 => rBmL K r t σ x H1 Q) : tBM K "list" r te t σ H Q := q
theorem d_rBmL {r : V → List V → Hp → VK → Prop} {t : TA} {p : Addr} {xs : List V} (h : SqL K H p xs) (q : t σ H fun ys H2 => r (.ref p) ys H2 Q) : rBmL K r t σ (.ref p) H Q := ⟨.inl ⟨rfl, xs, h⟩, q⟩
theorem d_append {xs : List V} (hl : H l = some (.lst xs)) (hn : xs.length < sizeLine) (q : ∀ H2, Exb l H H2 → H2 l = some (.lst (xs ++ [v])) → Q .non H2) : rAppend (.ref l) [v] H Q :=
  ⟨l, xs, v, rfl, rfl, hl, hn, q _ Exb.upd upd_same⟩
theorem at_int {ns : List Int} {i : Nat} {n : Int} (h : ns[i]? = some n) : atI (ns.map V.int) (i : Int) = some (.int n) := atI_nat (by rw [List.getElem?_map, h]; rfl)
theorem d_while (W : Nat → L2.St → Hp → Prop) (m0 : Nat) (h0 : W m0 σ H) (hs : ∀ m σ' H', W m σ' H' → ∃ b, EvT tt σ' H' b ∧
    (b = true → ∀ H1, Ex H' H1 → ts { D with nx := fun σ2 H2 => ∃ m', m' < m ∧ W m' σ2 H2, ct := fun σ2 H2 => ∃ m', m' < m ∧ W m' σ2 H2, bk := D.nx } σ' H1) ∧ (b = false → ∀ H1, Ex H' H1 → D.nx σ' H1)) : tWhile tt ts D σ H :=
  s_while W m0 h0 fun m σ' H' w => by
    obtain ⟨b, h1, h2, h3⟩ := hs m σ' H' w
    exact ⟨b, h1, fun e H1 e1 => ⟨_, fun _ _ z => z, h2 e H1 e1⟩, h3⟩
theorem d_for1 {ta : TA} {j : Nat} {n : Int} (h : EvA ta σ H [.int n]) (hn : 0 ≤ n ∧ n ≤ 100000) (Pv : Nat → L2.St → Hp → Prop) (h0 : ∀ H1, Ex H H1 → Pv 0 σ H1)
    (hs : ∀ (i : Nat) σ' H', (i : Int) < n → Pv i σ' H' → ts { D with nx := Pv (i + 1), ct := Pv (i + 1), bk := D.nx } (σ'.set j (some (.int (i : Int)))) H') (hd : ∀ σ' H', Pv n.toNat σ' H' → D.nx σ' H') : tFor (iRng1 ta) (gName j) ts D σ H :=
  s_forR1 h hn Pv h0 hs hd
end

/-! ### tables -/
section
variable {K : PySem.W.Frag} {H H' : Hp}
def Prs (K : PySem.W.Frag) (H : Hp) : List V → List (Int × Int) → Prop
  | [], [] => True
  | w :: ws, p :: ps => Pr K H w p.1 p.2 ∧ Prs K H ws ps
  | _, _ => False
theorem Prs.len : ∀ {ws : List V} {ps : List (Int × Int)}, Prs K H ws ps → ws.length = ps.length
  | [], [], _ => rfl
  | _ :: ws, _ :: ps, h => by rw [List.length_cons, List.length_cons, Prs.len h.2]
  | [], _ :: _, h => h.elim
  | _ :: _, [], h => h.elim
theorem Prs.imp (f : ∀ w x y, Pr K H w x y → Pr K H' w x y) : ∀ {ws : List V} {ps : List (Int × Int)}, Prs K H ws ps → Prs K H' ws ps
  | [], [], _ => trivial
  | _ :: ws, _ :: ps, h => ⟨f _ _ _ h.1, Prs.imp f h.2⟩
  | [], _ :: _, h => h.elim
  | _ :: _, [], h => h.elim
theorem Prs.mono {ws : List V} {ps : List (Int × Int)} (e : Ex H H') (h : Prs K H ws ps) : Prs K H' ws ps := h.imp fun _ _ _ q => q.mono e
theorem Prs.exb {l : Addr} {xs ws : List V} {ps : List (Int × Int)} (b : Exb l H H') (hl : H l = some (.lst xs)) (h : Prs K H ws ps) : Prs K H' ws ps := h.imp fun _ _ _ q => b.pr hl q
theorem Prs.get : ∀ {ws : List V} {ps : List (Int × Int)} {i : Nat} {w : V}, Prs K H ws ps → ws[i]? = some w → ∃ p, ps[i]? = some p ∧ Pr K H w p.1 p.2
  | w :: ws, p :: ps, 0, v, h, e => by
    have e : w = v := Option.some.inj e
    subst e
    exact ⟨p, rfl, h.1⟩
  | w :: ws, p :: ps, i + 1, v, h, e => Prs.get (i := i) h.2 e
  | [], [], i, v, h, e => by simp at e
  | [], _ :: _, _, _, h, _ => h.elim
  | _ :: _, [], _, _, h, _ => h.elim
theorem Prs.at {ws : List V} {ps : List (Int × Int)} {i : Nat} {p : Int × Int} (h : Prs K H ws ps) (e : ps[i]? = some p) : ∃ w, ws[i]? = some w ∧ Pr K H w p.1 p.2 := by
  have hl := (List.getElem?_eq_some_iff.mp e).1
  have e2 : ws[i]? = some (ws[i]'(by rw [h.len]; exact hl)) := List.getElem?_eq_getElem _
  obtain ⟨q, e3, h3⟩ := h.get e2
  rw [e] at e3
  cases e3
  exact ⟨_, e2, h3⟩
theorem Prs.app : ∀ {ws us : List V} {ps qs : List (Int × Int)}, Prs K H ws ps → Prs K H us qs → Prs K H (ws ++ us) (ps ++ qs)
  | [], _, [], _, _, g => g
  | _ :: ws, _, _ :: ps, _, h, g => ⟨h.1, Prs.app h.2 g⟩
  | [], _, _ :: _, _, h, _ => h.elim
  | _ :: _, _, [], _, h, _ => h.elim
theorem Prs.one {w : V} {x y : Int} (h : Pr K H w x y) : Prs K H [w] [(x, y)] := ⟨h, trivial⟩
theorem Prs.take : ∀ (n : Nat) {ws : List V} {ps : List (Int × Int)}, Prs K H ws ps → Prs K H (ws.take n) (ps.take n)
  | 0, _, _, _ => trivial
  | n + 1, [], [], _ => trivial
  | n + 1, _ :: ws, _ :: ps, h => ⟨h.1, Prs.take n h.2⟩
  | _ + 1, [], _ :: _, h => h.elim
  | _ + 1, _ :: _, [], h => h.elim
theorem Prs.drop : ∀ (n : Nat) {ws : List V} {ps : List (Int × Int)}, Prs K H ws ps → Prs K H (ws.drop n) (ps.drop n)
  | 0, _, _, h => h
  | n + 1, [], [], _ => trivial
  | n + 1, _ :: ws, _ :: ps, h => Prs.drop n h.2
  | _ + 1, [], _ :: _, h => h.elim
  | _ + 1, _ :: _, [], h => h.elim
/-- v is a list of pairs -/
def Tb (K : PySem.W.Frag) (H : Hp) (v : V) (T : List (Int × Int)) : Prop := ∃ a ws, v = .ref a ∧ SqL K H a ws ∧ Prs K H ws T
theorem Tb.mono {v : V} {T : List (Int × Int)} (e : Ex H H') (h : Tb K H v T) : Tb K H' v T := by
  obtain ⟨a, ws, rfl, h1, h2⟩ := h
  exact ⟨a, ws, rfl, ex_l e h1, h2.mono e⟩
def GdT (T : List (Int × Int)) : Prop := ∀ p ∈ T, Gd p.1 ∧ Gd p.2

/-! ### == of pairs and tables -/
def dP (p : Int × Int) : PyData := .tuple [.int p.1, .int p.2]
def dT (T : List (Int × Int)) : PyData := .list (T.map dP)
theorem Pr.dp {v : V} {x y : Int} (h : Pr K H v x y) : Dp K H v (dP (x, y)) := by
  obtain ⟨a, rfl, h⟩ := h
  exact .tup h (.cons (.int x) (.cons (.int y) .nil))
theorem Prs.dp : ∀ {ws : List V} {ps : List (Int × Int)}, Prs K H ws ps → DpAll K H ws (ps.map dP)
  | [], [], _ => .nil
  | _ :: ws, _ :: ps, h => .cons h.1.dp (Prs.dp h.2)
  | [], _ :: _, h => h.elim
  | _ :: _, [], h => h.elim
theorem Tb.dp {v : V} {T : List (Int × Int)} (h : Tb K H v T) : Dp K H v (dT T) := by
  obtain ⟨a, ws, rfl, h1, h2⟩ := h
  exact .lst h1 h2.dp
theorem dP_shaped (p : Int × Int) : SeqAt.shaped (dP p) = true := rfl
theorem dPs_lay : ∀ T : List (Int × Int), PyData.canLayAll0 (T.map dP) = true
  | [] => rfl
  | p :: T => by
    show (PyData.canLay0 (dP p) && PyData.canLayAll0 (T.map dP)) = true
    rw [dPs_lay T]
    rfl
theorem dPs_depth : ∀ T : List (Int × Int), PyData.depthAll (T.map dP) ≤ 1
  | [] => Nat.zero_le _
  | p :: T => by
    show max (PyData.depth (dP p)) (PyData.depthAll (T.map dP)) ≤ 1
    have := dPs_depth T
    have e : PyData.depth (dP p) = 1 := rfl
    omega
theorem dT_shaped (T : List (Int × Int)) : SeqAt.shaped (dT T) = true := by
  have h1 : PyData.canLay0 (dT T) = true := dPs_lay T
  have h2 : PyData.depth (dT T) ≤ 64 := by
    show PyData.depthAll (T.map dP) + 1 ≤ 64
    have := dPs_depth T
    omega
  unfold SeqAt.shaped
  rw [h1, decide_eq_true h2]
  rfl
theorem dP_eqv (p q : Int × Int) : PyData.eqv (dP p) (dP q) = decide (p = q) := by
  show ((p.1 == q.1) && ((p.2 == q.2) && true)) = _
  rw [Bool.and_true, Bool.eq_iff_iff]
  simp [Prod.ext_iff]
theorem dPs_eqv : ∀ T U : List (Int × Int), PyData.eqvAll (T.map dP) (U.map dP) = decide (T = U)
  | [], [] => rfl
  | p :: T, q :: U => by
    show (PyData.eqv (dP p) (dP q) && PyData.eqvAll (T.map dP) (U.map dP)) = _
    rw [dP_eqv, dPs_eqv T U, Bool.eq_iff_iff]
    simp
  | [], _ :: _ => by
    show false = _
    simp
  | _ :: _, [] => by
    show false = _
    simp
variable {Q : VK}
theorem d_eqP {v u : V} {x y x' y' : Int} (h : Pr K H v x y) (h' : Pr K H u x' y') (q : Q (.bl (decide ((x, y) = (x', y')))) H) : rEqD K v u H Q := ⟨_, _, h.dp, h'.dp, dP_shaped _, dP_shaped _, by rw [dP_eqv]; exact q⟩
theorem d_neP {v u : V} {x y x' y' : Int} (h : Pr K H v x y) (h' : Pr K H u x' y') (q : Q (.bl (!decide ((x, y) = (x', y')))) H) : rNeD K v u H Q := ⟨_, _, h.dp, h'.dp, dP_shaped _, dP_shaped _, by rw [dP_eqv]; exact q⟩
theorem d_eqT {v u : V} {T U : List (Int × Int)} (h : Tb K H v T) (h' : Tb K H u U) (q : Q (.bl (decide (T = U))) H) : rEqD K v u H Q := ⟨_, _, h.dp, h'.dp, dT_shaped _, dT_shaped _, by
  have e : PyData.eqv (dT T) (dT U) = decide (T = U) := dPs_eqv T U
  rw [e]; exact q⟩
theorem d_neT {v u : V} {T U : List (Int × Int)} (h : Tb K H v T) (h' : Tb K H u U) (q : Q (.bl (!decide (T = U))) H) : rNeD K v u H Q := ⟨_, _, h.dp, h'.dp, dT_shaped _, dT_shaped _, by
  have e : PyData.eqv (dT T) (dT U) = decide (T = U) := dPs_eqv T U
  rw [e]; exact q⟩
end
section
variable {X : Cx}
/-- list(xs): a new list -/
def rListN (K : PySem.W.Frag) : List V → Hp → VK → Prop := fun vs H Q => ∃ p ys, vs = [.ref p] ∧ SqL K H p ys ∧ ∀ l, H l = none → Q (.ref l) (upd H l (.lst ys))
theorem call_listS : CallR X (.type "list") (rListN X.K) := by
  intro pins s σ H xs us Q I r h
  obtain ⟨p, ys, e, h, q⟩ := h
  exact call_list_of pins s σ H xs us Q I r ⟨p, ys, e, .inl h, q⟩
end
section
variable {K : PySem.W.Frag} {σ : L2.St} {H : Hp} {Q : VK} {te tl : TE} {D : Ends} {ts us : TS} {tt : TT} {v : V} {l : Addr}
theorem d_listT {v : V} {T : List (Int × Int)} (h : Tb K H v T) (q : ∀ p H2 ws, H p = none → Ex H H2 → H2 p = some (.lst ws) → Prs K H2 ws T → Tb K H2 (.ref p) T → Q (.ref p) H2) : rListN K [v] H Q := by
  obtain ⟨a, ws, rfl, h1, h2⟩ := h
  exact ⟨a, ws, rfl, h1, fun l hl => q l _ ws hl (Ex.new hl) upd_same (h2.mono (Ex.new hl)) ⟨l, ws, rfl, sq_of upd_same, h2.mono (Ex.new hl)⟩⟩
theorem d_listL {p : Addr} {ys : List V} (h : SqL K H p ys) (q : ∀ p H2, H p = none → Ex H H2 → H2 p = some (.lst ys) → Q (.ref p) H2) : rListN K [.ref p] H Q := ⟨p, ys, rfl, h, fun l hl => q l _ hl (Ex.new hl) upd_same⟩
theorem d_lenT {v : V} {T : List (Int × Int)} (h : Tb K H v T) (q : Q (.int (T.length : Int)) H) : rLenS K [v] H Q := by
  obtain ⟨a, ws, rfl, h1, h2⟩ := h
  rw [← h2.len] at q
  exact ⟨a, ws, rfl, .inl h1, q⟩
theorem d_ixTb {v : V} {T : List (Int × Int)} {i : Nat} {p : Int × Int} (h : Tb K H v T) (hi : T[i]? = some p) (q : ∀ w, Pr K H w p.1 p.2 → Q w H) : rIxL K v (.int (i : Int)) H Q := by
  obtain ⟨a, ws, rfl, h1, h2⟩ := h
  obtain ⟨w, e, h3⟩ := h2.at hi
  exact ⟨a, ws, i, w, rfl, rfl, h1, atI_nat e, q w h3⟩
/-- for over a table -/
theorem d_forT {T : List (Int × Int)} {j : Nat} (h : Ev tl σ H v) (hT : Tb K H v T) (Pv : Nat → L2.St → Hp → Prop) (h0 : ∀ H1, Ex H H1 → Pv 0 σ H1) (hl : ∀ i σ' H', Pv i σ' H' → Ex H H')
    (hs : ∀ i w p σ' H', T[i]? = some p → Pr K H' w p.1 p.2 → Pv i σ' H' → ts { D with nx := Pv (i + 1), ct := Pv (i + 1), bk := D.nx } (σ'.set j (some w)) H') (hd : ∀ σ' H', Pv T.length σ' H' → D.nx σ' H') : tFor (iList K tl) (gName j) ts D σ H := by
  obtain ⟨a, ws, rfl, h1, h2⟩ := hT
  refine s_forL (xs := ws) h h1 Pv h0 (fun i σ' H' _ p => ex_l (hl i σ' H' p) h1) (fun i w σ' H' e p => ?_) (fun σ' H' p => hd σ' H' (by rw [← h2.len]; exact p))
  obtain ⟨q, e2, h3⟩ := h2.get e
  exact hs i w q σ' H' e2 (h3.mono (hl i σ' H' p)) p
/-- for over a tuple that is made on the way -/
theorem d_forU {xs : List V} {j : Nat} (h : EvU tl σ H xs) (Pv : Hp → Nat → L2.St → Hp → Prop) (h0 : ∀ H1, Ex H H1 → Pv H1 0 σ H1) (hl : ∀ H1 i σ' H', Pv H1 i σ' H' → Ex H1 H')
    (hs : ∀ H1 i x σ' H', Ex H H1 → xs[i]? = some x → Pv H1 i σ' H' → ts { D with nx := Pv H1 (i + 1), ct := Pv H1 (i + 1), bk := D.nx } (σ'.set j (some x)) H') (hd : ∀ H1 σ' H', Ex H H1 → Pv H1 xs.length σ' H' → D.nx σ' H') : tFor (iTup K tl) (gName j) ts D σ H :=
  h H (Ex.refl H) _ fun p H1 hp e h1 => ⟨p, rfl, ⟨xs, st_of h1⟩, for_tup (Pv H1) (h0 H1 e) (fun i σ' H' _ q => ex_t (hl H1 i σ' H' q) (st_of h1)) (fun i x σ' H' hx q => hs H1 i x σ' H' e hx q) (fun σ' H' q => hd H1 σ' H' e q)⟩
/-- an expression whose value is told by R -/
def EvR (te : TE) (σ : L2.St) (H : Hp) (R : V → Hp → Prop) : Prop := ∀ Q : VK, (∀ y H4, Ex H H4 → R y H4 → Q y H4) → te σ H Q
theorem er_ev {R : V → Hp → Prop} (h : Ev te σ H v) (r : ∀ H1, Ex H H1 → R v H1) : EvR te σ H R := fun Q q => h H (Ex.refl H) Q fun H2 e2 => q v H2 e2 (r H2 e2)
theorem et_yes : EvT tYes σ H true := fun H1 _ Q q => q H1 (Ex.refl H1)
def Lcv (R : Nat → List V → Hp → Prop) (H0 : Hp) (D : Addr) (i : Nat) (H' : Hp) : Prop := ∃ acc, H0 D = none ∧ Ex H0 H' ∧ H' D = some (.lst acc) ∧ acc.length ≤ i ∧ R i acc H'
theorem lc_turn {R : Nat → List V → Hp → Prop} {H0 H' : Hp} {D : Addr} {i : Nat} {σ2 : L2.St} (p : Lcv R H0 D i H') (hi : i < 100000)
    (hR : ∀ D i acc acc' H1 H2, Exb D H1 H2 → H1 D = some (.lst acc') → R i acc H1 → R i acc H2)
    (hs : ∀ acc, Ex H0 H' → acc.length ≤ i → R i acc H' → ∃ b, EvT tt σ2 H' b ∧ (b = true → ∀ H3, Ex H' H3 → EvR te σ2 H3 (R (i + 1) <| acc ++ [·])) ∧ (b = false → ∀ H3, Ex H' H3 → R (i + 1) acc H3)) :
    tt σ2 H' fun b H3 => if b = true then te σ2 H3 fun y H4 => ∃ acc, H4 D = some (.lst acc) ∧ acc.length < sizeLine ∧ Lcv R H0 D (i + 1) (upd H4 D (.lst (acc ++ [y]))) else Lcv R H0 D (i + 1) H3 := by
  obtain ⟨acc, p1, p2, p3, p4, p5⟩ := p
  obtain ⟨b, h1, h2, h3⟩ := hs acc p2 p4 p5
  refine h1 H' (Ex.refl H') _ fun H3 e3 => ?_
  cases b with
  | true =>
    rw [if_pos rfl]
    refine h2 rfl H3 e3 _ fun y H4 e4 r => ⟨acc, e4 _ _ (e3 _ _ p3), sz_lt (by omega), acc ++ [y], p1, Ex.mut ((p2.trans e3).trans e4) p1, upd_same, by simp; omega, ?_⟩
    exact hR D _ _ acc _ _ Exb.upd (e4 _ _ (e3 _ _ p3)) r
  | false =>
    rw [if_neg Bool.false_ne_true]
    exact ⟨acc, p1, p2.trans e3, e3 _ _ p3, by omega, h3 rfl H3 e3⟩
theorem d_lcL {a : Addr} {xs : List V} {j : Nat} {vs : List Nat} (h : Ev tl σ H (.ref a)) (hx : SqL K H a xs) (hz : xs.length ≤ 100000) (R : Nat → List V → Hp → Prop)
    (hR : ∀ D i acc acc' H1 H2, Exb D H1 H2 → H1 D = some (.lst acc') → R i acc H1 → R i acc H2) (hw : ∀ x, wipe ((wipe σ vs).set j (some x)) vs = wipe σ vs) (h0 : ∀ H1, Ex H H1 → R 0 [] H1)
    (hs : ∀ i x acc H', xs[i]? = some x → Ex H H' → acc.length ≤ i → R i acc H' → ∃ b, EvT tt ((wipe σ vs).set j (some x)) H' b ∧ (b = true → ∀ H3, Ex H' H3 → EvR te ((wipe σ vs).set j (some x)) H3 (R (i + 1) <| acc ++ [·])) ∧ (b = false → ∀ H3, Ex H' H3 → R (i + 1) acc H3))
    (q : ∀ p H2 acc, H p = none → Ex H H2 → H2 p = some (.lst acc) → R xs.length acc H2 → Q (.ref p) H2) : tLc (iList K tl) (gName j) tt te vs σ H Q := h H (Ex.refl H) _ fun H1 e1 => ⟨a, rfl, ⟨xs, ex_l e1 hx⟩, fun D hD =>
  lc_list (xs := xs) (Lcv R H1 D) ⟨[], hD, Ex.new hD, upd_same, Nat.le_refl _, h0 _ (e1.trans (Ex.new hD))⟩ (fun i H' _ p => ex_l (e1.trans p.choose_spec.2.1) hx)
    (fun i x H' hi p => ⟨hw x, lc_turn p (by have := (List.getElem?_eq_some_iff.mp hi).1; omega) hR fun acc e g r => hs i x acc H' hi (e1.trans e) g r⟩)
    fun H' p => by
      obtain ⟨acc, p1, p2, p3, p4, p5⟩ := p
      exact q D H' acc (fresh_back e1 p1) (e1.trans p2) p3 p5⟩
theorem d_lcT {T : List (Int × Int)} {j : Nat} {vs : List Nat} (h : Ev tl σ H v) (hT : Tb K H v T) (hz : T.length ≤ 100000) (R : Nat → List V → Hp → Prop)
    (hR : ∀ D i acc acc' H1 H2, Exb D H1 H2 → H1 D = some (.lst acc') → R i acc H1 → R i acc H2) (hw : ∀ x, wipe ((wipe σ vs).set j (some x)) vs = wipe σ vs) (h0 : ∀ H1, Ex H H1 → R 0 [] H1)
    (hs : ∀ i w p acc H', T[i]? = some p → Pr K H' w p.1 p.2 → Ex H H' → acc.length ≤ i → R i acc H' → ∃ b, EvT tt ((wipe σ vs).set j (some w)) H' b ∧ (b = true → ∀ H3, Ex H' H3 → EvR te ((wipe σ vs).set j (some w)) H3 (R (i + 1) <| acc ++ [·])) ∧ (b = false → ∀ H3, Ex H' H3 → R (i + 1) acc H3))
    (q : ∀ p H2 acc, H p = none → Ex H H2 → H2 p = some (.lst acc) → R T.length acc H2 → Q (.ref p) H2) : tLc (iList K tl) (gName j) tt te vs σ H Q := by
  obtain ⟨a, ws, rfl, h1, h2⟩ := hT
  refine d_lcL h h1 (by rw [h2.len]; exact hz) R hR hw h0 (fun i x acc H' hi e g r => ?_) (fun p H2 acc f e g r => q p H2 acc f e g (by rw [← h2.len]; exact r))
  obtain ⟨p, e2, h3⟩ := h2.get hi
  exact hs i x p acc H' e2 (h3.mono e) e g r
theorem d_lcR {ta : TA} {n : Int} {j : Nat} {vs : List Nat} (h : EvA ta σ H [.int n]) (hn : 0 ≤ n ∧ n ≤ 100000) (R : Nat → List V → Hp → Prop)
    (hR : ∀ D i acc acc' H1 H2, Exb D H1 H2 → H1 D = some (.lst acc') → R i acc H1 → R i acc H2) (hw : ∀ x, wipe ((wipe σ vs).set j (some x)) vs = wipe σ vs) (h0 : ∀ H1, Ex H H1 → R 0 [] H1)
    (hs : ∀ (i : Nat) acc H', (i : Int) < n → Ex H H' → acc.length ≤ i → R i acc H' → ∃ b, EvT tt ((wipe σ vs).set j (some (.int (i : Int)))) H' b ∧ (b = true → ∀ H3, Ex H' H3 → EvR te ((wipe σ vs).set j (some (.int (i : Int)))) H3 (R (i + 1) <| acc ++ [·])) ∧ (b = false → ∀ H3, Ex H' H3 → R (i + 1) acc H3))
    (q : ∀ p H2 acc, H p = none → Ex H H2 → H2 p = some (.lst acc) → R n.toNat acc H2 → Q (.ref p) H2) : tLc (iRng1 ta) (gName j) tt te vs σ H Q := h H (Ex.refl H) _ fun H1 e1 => ⟨n, rfl, by omega, by omega, fun D hD =>
  lc_range (lo := 0) (n := n.toNat) (Lcv R H1 D) ⟨[], hD, Ex.new hD, upd_same, Nat.le_refl _, h0 _ (e1.trans (Ex.new hD))⟩
    (fun i H' hi p => by
      have e0 : (0 : Int) + (i : Int) = (i : Int) := Int.zero_add _
      show wipe ((wipe σ vs).set j (some (.int ((0 : Int) + (i : Int))))) vs = wipe σ vs ∧ tt ((wipe σ vs).set j (some (.int ((0 : Int) + (i : Int))))) H' _
      rw [e0]
      exact ⟨hw _, lc_turn p (by omega) hR fun acc e g r => hs i acc H' (by omega) (e1.trans e) g r⟩)
    fun H' p => by
      obtain ⟨acc, p1, p2, p3, p4, p5⟩ := p
      exact q D H' acc (fresh_back e1 p1) (e1.trans p2) p3 p5⟩
end

section
variable {K : PySem.W.Frag} {σ : L2.St} {H : Hp} {Q : VK} {te tl : TE} {tt : TT} {v : V}
/-- len(set(xs)) of unlike ints; x in xs -/
def rLenSet (K : PySem.W.Frag) (x : V) (H : Hp) (Q : VK) : Prop := ∃ (l : Addr) (ns : List Int), x = .ref l ∧ SqL K H l (ns.map V.int) ∧ ns.Nodup ∧ ns.length ≤ 4000 ∧ Q (.int (ns.length : Nat)) H
theorem d_lenSet (q : te σ H fun x H1 => rLenSet K x H1 Q) : RZ.tLenSetI K te σ H Q := q
theorem d_rLenSet {l : Addr} {ns : List Int} (h : SqL K H l (ns.map V.int)) (hn : ns.Nodup) (hl : ns.length ≤ 4000) (q : Q (.int (ns.length : Int)) H) : rLenSet K (.ref l) H Q := ⟨l, ns, rfl, h, hn, hl, q⟩
theorem inV_int (i : Int) (ns : List Int) : inV (.int i) (ns.map V.int) = decide (i ∈ ns) := by
  unfold inV
  rw [Bool.eq_iff_iff, List.any_map, List.any_eq_true, decide_eq_true_eq]
  constructor
  · rintro ⟨n, hn, e⟩
    have e : (n == i) = true := e
    have : n = i := by simpa using e
    exact this ▸ hn
  · intro h
    exact ⟨i, h, by show (i == i) = true; simp⟩
theorem flat_ints (ns : List Int) : (ns.map V.int).all flatV = true := by
  rw [List.all_map, List.all_eq_true]
  intro n _
  rfl
theorem d_inI {p : Addr} {i : Int} {ns : List Int} (h : SqL K H p (ns.map V.int)) (q : Q (.bl (decide (i ∈ ns))) H) : rIn K false (.int i) (.ref p) H Q := ⟨p, _, rfl, .inl h, rfl, flat_ints ns, by rw [inV_int]; exact q⟩
theorem d_notInI {p : Addr} {i : Int} {ns : List Int} (h : SqL K H p (ns.map V.int)) (q : Q (.bl (!decide (i ∈ ns))) H) : rIn K true (.int i) (.ref p) H Q := ⟨p, _, rfl, .inl h, rfl, flat_ints ns, by rw [inV_int]; exact q⟩
theorem d_lcR2 {ta : TA} {lo n : Int} {j : Nat} {vs : List Nat} (h : EvA ta σ H [.int lo, .int n]) (hn : 0 ≤ lo ∧ lo ≤ 100000 ∧ -100000 ≤ n ∧ n ≤ 100000) (R : Nat → List V → Hp → Prop)
    (hR : ∀ D i acc acc' H1 H2, Exb D H1 H2 → H1 D = some (.lst acc') → R i acc H1 → R i acc H2) (hw : ∀ x, wipe ((wipe σ vs).set j (some x)) vs = wipe σ vs) (h0 : ∀ H1, Ex H H1 → R 0 [] H1)
    (hs : ∀ (i : Nat) acc H', lo + (i : Int) < n → Ex H H' → acc.length ≤ i → R i acc H' → ∃ b, EvT tt ((wipe σ vs).set j (some (.int (lo + (i : Int))))) H' b ∧ (b = true → ∀ H3, Ex H' H3 → EvR te ((wipe σ vs).set j (some (.int (lo + (i : Int))))) H3 (R (i + 1) <| acc ++ [·])) ∧ (b = false → ∀ H3, Ex H' H3 → R (i + 1) acc H3))
    (q : ∀ p H2 acc, H p = none → Ex H H2 → H2 p = some (.lst acc) → R (n - lo).toNat acc H2 → Q (.ref p) H2) : tLc (iRng2 ta) (gName j) tt te vs σ H Q := h H (Ex.refl H) _ fun H1 e1 => ⟨lo, n, rfl, by omega, fun D hD =>
  lc_range (lo := lo) (n := (n - lo).toNat) (Lcv R H1 D) ⟨[], hD, Ex.new hD, upd_same, Nat.le_refl _, h0 _ (e1.trans (Ex.new hD))⟩
    (fun i H' hi p => ⟨hw _, lc_turn p (by omega) hR fun acc e g r => hs i acc H' (by omega) (e1.trans e) g r⟩)
    fun H' p => by
      obtain ⟨acc, p1, p2, p3, p4, p5⟩ := p
      exact q D H' acc (fresh_back e1 p1) (e1.trans p2) p3 p5⟩
end

/-! ### a dict with pairs as keys; what a call may change besides -/
section
variable {K : PySem.W.Frag} {σ : L2.St} {H : Hp} {Q : VK} {te tl td ty tv : TE} {tt : TT} {v : V} {D : Ends}
theorem Exb.refl {l : Addr} (H : Hp) : Exb l H H := fun _ _ h _ => h
theorem Exb.trans {l : Addr} {H H1 H2 : Hp} (a : Exb l H H1) (b : Exb l H1 H2) : Exb l H H2 := fun c o h n => b c o (a c o h n) n
theorem Exb.of {l : Addr} {H H1 : Hp} (e : Ex H H1) : Exb l H H1 := fun b o h _ => e b o h
theorem Exb.rdTd {l : Addr} {H H2 : Hp} {kvs : List (List Key × V)} {ys : List V} {a : Addr} (b : Exb l H H2) (h : H l = some (.dT kvs)) (r : Rd H a (.tup ys)) : Rd H2 a (.tup ys) := by
  rcases r with r | ⟨o, r⟩
  · exact .inl (b a _ r (ne_of r h (by intro z; cases z)))
  · exact .inr ⟨o, b a _ r (ne_of r h (by intro z; cases z))⟩
theorem Exb.prd {l : Addr} {H H2 : Hp} {kvs : List (List Key × V)} {v : V} {x y : Int} (b : Exb l H H2) (h : H l = some (.dT kvs)) (r : Pr K H v x y) : Pr K H2 v x y := by
  obtain ⟨a, rfl, r⟩ := r
  rcases r with r | r
  · exact ⟨a, rfl, .inl (b.rdTd h r)⟩
  · exact ⟨a, rfl, .inr r⟩
theorem Exb.prsd {l : Addr} {H H2 : Hp} {kvs : List (List Key × V)} {v : V} {x y : Int} (b : Exb l H H2) (h : H l = some (.dT kvs)) (r : PrS H v x y) : PrS H2 v x y := by
  obtain ⟨a, rfl, r⟩ := r
  exact ⟨a, rfl, b a _ r (ne_of r h (by intro z; cases z))⟩
theorem Exb.prs {l : Addr} {H H2 : Hp} {xs : List V} {v : V} {x y : Int} (b : Exb l H H2) (h : H l = some (.lst xs)) (r : PrS H v x y) : PrS H2 v x y := by
  obtain ⟨a, rfl, r⟩ := r
  exact ⟨a, rfl, b a _ r (ne_of r h (by intro z; cases z))⟩
def kP (x y : Int) : List Key := [.inl x, .inl y]
theorem kP_map (x y : Int) : (kP x y).map kV = [.int x, .int y] := rfl
def rDNot (x y : V) (H : Hp) (Q : VK) : Prop := ∃ a o, x = .ref a ∧ DGet H a y o ∧ Q (.bl (!o.isSome)) H
theorem d_dnot (q : ty σ H fun y H1 => td σ H1 fun x H2 => rDNot x y H2 Q) : tDNotIn ty td σ H Q := q
theorem d_rDNot {a : Addr} {kvs : List (List Key × V)} {y : V} {i j : Int} (h : H a = some (.dT kvs)) (hp : PrS H y i j) (q : Q (.bl (!(valV kvs (kP i j)).isSome)) H) : rDNot (.ref a) y H Q := by
  obtain ⟨b, rfl, hb⟩ := hp
  exact ⟨a, _, rfl, DGet.t h (by rw [kP_map]; exact hb), q⟩
def rDGet (x y : V) (H : Hp) (Q : VK) : Prop := ∃ a v, x = .ref a ∧ DGet H a y (some v) ∧ Q v H
theorem d_dget (q : td σ H fun x H1 => ty σ H1 fun y H2 => rDGet x y H2 Q) : tDGet td ty σ H Q := q
theorem d_rDGet {a : Addr} {kvs : List (List Key × V)} {y v : V} {i j : Int} (h : H a = some (.dT kvs)) (hp : PrS H y i j) (hv : valV kvs (kP i j) = some v) (q : Q v H) : rDGet (.ref a) y H Q := by
  obtain ⟨b, rfl, hb⟩ := hp
  exact ⟨a, v, rfl, hv ▸ DGet.t h (by rw [kP_map]; exact hb), q⟩
def rDPut (D : Ends) (σ : L2.St) (x y v : V) (H : Hp) : Prop := ∃ a H4, x = .ref a ∧ DPut H a y v H4 ∧ D.nx σ H4
theorem d_dput (q : tv σ H fun v H1 => td σ H1 fun x H2 => ty σ H2 fun y H3 => rDPut D σ x y v H3) : sDPut td ty tv D σ H := q
theorem d_rDPut {a : Addr} {kvs : List (List Key × V)} {y v : V} {i j : Int} (h : H a = some (.dT kvs)) (hp : PrS H y i j) (hl : kvs.length < sizeLine) (q : ∀ H4, Exb a H H4 → H4 a = some (.dT (putK kvs (kP i j) v)) → D.nx σ H4) : rDPut D σ (.ref a) y v H := by
  obtain ⟨b, rfl, hb⟩ := hp
  exact ⟨a, _, rfl, DPut.t h (by rw [kP_map]; exact hb) hl, q _ Exb.upd upd_same⟩
theorem d_dnew (q : ∀ p H2, H p = none → Ex H H2 → H2 p = some (.dT []) → Q (.ref p) H2) : tDNewT σ H Q := fun p hp => q p _ hp (Ex.new hp) upd_same
theorem valV_new {kvs : List (List Key × V)} {k : List Key} {v : V} (h : valV kvs k = none) : putK kvs k v = kvs ++ [(k, v)] := by
  unfold putK
  have e := valV_any k kvs
  rw [h] at e
  rw [e, if_neg (by simp)]
theorem valV_app {kvs : List (List Key × V)} {k : List Key} {v : V} (h : valV kvs k = none) : valV (kvs ++ [(k, v)]) k = some v := by
  unfold valV at *
  rw [List.find?_append]
  have e : kvs.find? (fun kv => decide (kv.1 = k)) = none := by
    cases h2 : kvs.find? (fun kv => decide (kv.1 = k)) with
    | none => rfl
    | some p => rw [h2] at h; cases h
  rw [e]
  simp
theorem valV_mem {kvs : List (List Key × V)} {k : List Key} {v : V} (h : valV kvs k = some v) : (k, v) ∈ kvs := by
  unfold valV at h
  obtain ⟨p, hp, rfl⟩ := Option.map_eq_some_iff.mp h
  have h1 := List.mem_of_find?_eq_some hp
  have h2 : p.1 = k := of_decide_eq_true (List.find?_some (p := fun kv : List Key × V => decide (kv.1 = k)) hp)
  subst h2
  exact h1
theorem valV_not {kvs : List (List Key × V)} {k : List Key} (h : valV kvs k = none) : k ∉ kvs.map (·.1) := fun z => by
  obtain ⟨p, hp, e⟩ := List.mem_map.mp z
  have e2 := valV_any k kvs
  rw [h] at e2
  have : kvs.any (fun kv => decide (kv.1 = k)) = true := List.any_eq_true.mpr ⟨p, hp, decide_eq_true e⟩
  rw [this] at e2
  cases e2
/-- a comprehension over a list, whose turns may change the dict at kd -/
def Lcm (R : Nat → List V → Hp → Prop) (kd : Addr) (H0 : Hp) (D : Addr) (i : Nat) (H' : Hp) : Prop := ∃ acc, H0 D = none ∧ D ≠ kd ∧ Exb kd H0 H' ∧ H' D = some (.lst acc) ∧ acc.length ≤ i ∧ R i acc H'
/-- what is left of a comprehension, the list that it walks told -/
def rLc (K : PySem.W.Frag) (g : TG) (tt : TT) (te : TE) (vs : List Nat) (σ : L2.St) (x : V) (H1 : Hp) (Q : VK) : Prop := ∃ a, x = .ref a ∧ (∃ xs, SqL K H1 a xs) ∧ ∀ D, H1 D = none → ∃ W : Nat → Nat → Hp → Prop, (∃ m, W 0 m (upd H1 D (.lst []))) ∧ ∀ i m H, W i m H →
  ((Itl K a).stop i H ∧ Q (.ref D) H) ∨ ((Itl K a).go i H ∧ ∃ Nx : Hp → Prop, (∀ H', Nx H' → ∃ m', m' < m ∧ W (i + 1) m' H') ∧ ∀ x H', (Itl K a).yld i H x H' → g x (wipe σ vs) H' fun σ2 H2 => wipe σ2 vs = wipe σ vs ∧ tt σ2 H2 fun b H3 =>
    if b = true then te σ2 H3 fun y H4 => ∃ acc, H4 D = some (.lst acc) ∧ acc.length < sizeLine ∧ Nx (upd H4 D (.lst (acc ++ [y]))) else Nx H3)
theorem d_lc {g : TG} {vs : List Nat} (q : tl σ H fun x H1 => rLc K g tt te vs σ x H1 Q) : tLc (iList K tl) g tt te vs σ H Q := q
theorem d_rLcM {p kd : Addr} {xs : List V} {j : Nat} {vs : List Nat} {kvs : List (List Key × V)} (hz : xs.length ≤ 100000) (R : Nat → List V → Hp → Prop) (h1 : H p = some (.lst xs)) (hkd : H kd = some (.dT kvs))
    (hR : ∀ D i acc acc' H1 H2, Exb D H1 H2 → H1 D = some (.lst acc') → R i acc H1 → R i acc H2) (hw : ∀ x, wipe ((wipe σ vs).set j (some x)) vs = wipe σ vs) (h0 : ∀ H1, Ex H H1 → R 0 [] H1)
    (hs : ∀ i x acc H', xs[i]? = some x → Exb kd H H' → acc.length ≤ i → R i acc H' → ∀ Q' : VK, (∀ y H4, Exb kd H' H4 → R (i + 1) (acc ++ [y]) H4 → Q' y H4) → te ((wipe σ vs).set j (some x)) H' Q')
    (q : ∀ p H2 acc, H p = none → Exb kd H H2 → H2 p = some (.lst acc) → R xs.length acc H2 → Q (.ref p) H2) : rLc K (gName j) tYes te vs σ (.ref p) H Q := ⟨p, rfl, ⟨xs, sq_of h1⟩, fun D hD =>
  have ne : D ≠ kd := fun z => by rw [z, hkd] at hD; cases hD
  have nb : p ≠ kd := ne_of h1 hkd (by intro z; cases z)
  lc_list (xs := xs) (Lcm R kd H D) ⟨[], hD, ne, Exb.of (Ex.new hD), upd_same, Nat.le_refl _, h0 _ (Ex.new hD)⟩ (fun i H' _ q' => by
      obtain ⟨acc, p1, p2, p3, _⟩ := q'
      exact sq_of (p3 p _ h1 nb))
    (fun i x H' hi p' => ⟨hw x, by
      obtain ⟨acc, p1, p2, p3, p4, p5, p6⟩ := p'
      refine (show ∀ (Q : Bool → Hp → Prop), Q true H' → tYes (List.set (wipe σ vs) j (some x)) H' Q from fun _ q => q) _ ?_
      rw [if_pos rfl]
      refine hs i x acc H' hi p3 p5 p6 _ fun y H4 e4 r => ?_
      have hD4 := e4 _ _ p4 p2
      have e14 := p3.trans e4
      exact ⟨acc, hD4, sz_lt (by have := (List.getElem?_eq_some_iff.mp hi).1; omega), acc ++ [y], p1, p2, fun c o hc n => by
          rw [upd_ne (ne_of_none hc p1)]
          exact e14 c o hc n, upd_same, by simp; omega, hR D _ _ acc _ _ Exb.upd hD4 r⟩⟩)
    fun H' p' => by
      obtain ⟨acc, p1, p2, p3, p4, p5, p6⟩ := p'
      exact q D H' acc p1 p3 p4 p6⟩
end

/-! ### slices, sums of lists, enumerate, in over pairs -/
theorem u65 {k : Nat} {A : Around} (r : Room k A) : A.units + 65 < cLine := by have := r.un; omega
section
variable {K : PySem.W.Frag} {σ : L2.St} {H H0 : Hp} {Q : VK} {te tl : TE} {tt : TT} {v u : V} {D : Ends} {ts : TS} {T : List (Int × Int)}
theorem d_neB {i j : Bool} (q : Q (.bl (!decide (i = j))) H) : rNe (.bl i) (.bl j) H Q := by
  have e : decide (V.bl i = V.bl j) = decide (i = j) := by simp
  exact ⟨rfl, by rw [e]; exact q⟩
theorem d_sl {r : V → Option Int → Option Int → Hp → VK → Prop} {to tp : TO} (q : te σ H fun x H1 => to σ H1 fun l H2 => tp σ H2 fun u H3 => r x l u H3 Q) : tSl r te to tp σ H Q := q
theorem d_noPart {R : Option Int → Hp → Prop} (q : R none H) : tNoPart σ H R := q
def rPart (R : Option Int → Hp → Prop) (x : V) (H : Hp) : Prop := ∃ i, x = .int i ∧ R (some i) H
theorem d_part {R : Option Int → Hp → Prop} (q : te σ H fun x H1 => rPart R x H1) : tPart te σ H R := q
theorem d_rPart {R : Option Int → Hp → Prop} {i : Int} (q : R (some i) H) : rPart R (.int i) H := ⟨i, rfl, q⟩
theorem cut_take (xs : List V) {n : Int} (h : 0 ≤ n) : cutV xs none (some n) = xs.take n.toNat := by
  obtain ⟨k, rfl⟩ := Int.eq_ofNat_of_zero_le h
  unfold cutV
  rw [HT.sIx_none, show HT.sIx xs.length xs.length (some (k : Int)) = min k xs.length from HT.sIx_nat _ _ _, List.drop_zero, Nat.sub_zero, Int.toNat_natCast]
  by_cases c : k ≤ xs.length
  · rw [Nat.min_eq_left c]
  · rw [Nat.min_eq_right (by omega), List.take_length, List.take_of_length_le (by omega)]
theorem cut_drop (xs : List V) {n : Int} (h : 0 ≤ n) : cutV xs (some n) none = xs.drop n.toNat := by
  obtain ⟨k, rfl⟩ := Int.eq_ofNat_of_zero_le h
  unfold cutV
  rw [HT.sIx_none, show HT.sIx xs.length 0 (some (k : Int)) = min k xs.length from HT.sIx_nat _ _ _, Int.toNat_natCast]
  by_cases c : k ≤ xs.length
  · rw [Nat.min_eq_left c, List.take_of_length_le (by simp)]
  · rw [Nat.min_eq_right (by omega), List.drop_of_length_le (Nat.le_refl _), List.drop_of_length_le (by omega), List.take_nil]
theorem d_slTake {n : Int} (hT : Tb K H v T) (h0 : 0 ≤ n) (q : ∀ p H2 ws, H p = none → Ex H H2 → H2 p = some (.lst ws) → Prs K H2 ws (T.take n.toNat) → Q (.ref p) H2) : rSlL K v none (some n) H Q := by
  obtain ⟨a, ws, rfl, h1, h2⟩ := hT
  exact ⟨a, ws, rfl, h1, fun p hp => q p _ _ hp (Ex.new hp) upd_same (by rw [cut_take ws h0]; exact (h2.take _).mono (Ex.new hp))⟩
theorem d_slDrop {n : Int} (hT : Tb K H v T) (h0 : 0 ≤ n) (q : ∀ p H2 ws, H p = none → Ex H H2 → H2 p = some (.lst ws) → Prs K H2 ws (T.drop n.toNat) → Q (.ref p) H2) : rSlL K v (some n) none H Q := by
  obtain ⟨a, ws, rfl, h1, h2⟩ := hT
  exact ⟨a, ws, rfl, h1, fun p hp => q p _ _ hp (Ex.new hp) upd_same (by rw [cut_drop ws h0]; exact (h2.drop _).mono (Ex.new hp))⟩
theorem d_cat {l b : Addr} {xs zs : List V} (h1 : H l = some (.lst xs)) (h2 : H b = some (.lst zs)) (hl : xs.length + zs.length ≤ 100000) (q : ∀ p H2, H p = none → Ex H H2 → H2 p = some (.lst (xs ++ zs)) → Q (.ref p) H2) : rCat (.ref l) (.ref b) H Q :=
  ⟨l, b, xs, zs, rfl, rfl, h1, h2, sz_of hl, fun p hp => q p _ hp (Ex.new hp) upd_same⟩
/-- for over enumerate(table) -/
theorem d_forE {ta : TA} {ii jj : Nat} (h : EvA ta σ H [v]) (hT : Tb K H0 v T) (e0 : Ex H0 H) (Pv : Nat → L2.St → Hp → Prop) (h0 : ∀ H1, Ex H H1 → Pv 0 σ H1) (hl : ∀ i σ' H', Pv i σ' H' → Ex H0 H') (hm : ∀ i σ' H1 H2, Pv i σ' H1 → Ex H1 H2 → Pv i σ' H2)
    (hs : ∀ i w p σ' H', T[i]? = some p → Pr K H' w p.1 p.2 → Pv i σ' H' → ts { D with nx := Pv (i + 1), ct := Pv (i + 1), bk := D.nx } ((σ'.set ii (some (.int (i : Int)))).set jj (some w)) H') (hd : ∀ σ' H', Pv T.length σ' H' → D.nx σ' H') :
    tFor (iEnum K ta) (gTup K 2 (gCons (gName ii) (gCons (gName jj) gNil))) ts D σ H := by
  obtain ⟨a, ws, rfl, h1, h2⟩ := hT
  refine h H (Ex.refl H) _ fun H1 e1 => ⟨a, ws, rfl, ex_l (e0.trans e1) h1, for_it (walk_enum (K := K) (a := a) (xs := ws)) Pv (h0 H1 e1) (fun i σ' H' _ p => ex_l (hl i σ' H' p) h1) (fun i x σ' H2 H3 hi p y => ?_) (fun σ' H' p => hd σ' H' (by rw [← h2.len]; exact p))⟩
  obtain ⟨t, a1, a2, rfl, ht, rfl, e5, e6⟩ := y
  cases e5
  obtain ⟨pp, e7, h7⟩ := h2.get e6
  have hp2 := hm i σ' _ _ p (Ex.new (o := .tup [.int (i : Int), a2]) ht)
  exact ⟨t, _, rfl, st_of upd_same, rfl, _, _, rfl, _, _, rfl, rfl, hs i a2 pp σ' _ e7 (h7.mono (hl i σ' _ hp2)) hp2⟩
/-- for over a table, the base further back -/
theorem d_forT0 {j : Nat} (h : Ev tl σ H v) (hT : Tb K H0 v T) (e0 : Ex H0 H) (Pv : Nat → L2.St → Hp → Prop) (h0 : ∀ H1, Ex H H1 → Pv 0 σ H1) (hl : ∀ i σ' H', Pv i σ' H' → Ex H0 H')
    (hs : ∀ i w p σ' H', T[i]? = some p → Pr K H' w p.1 p.2 → Pv i σ' H' → ts { D with nx := Pv (i + 1), ct := Pv (i + 1), bk := D.nx } (σ'.set j (some w)) H') (hd : ∀ σ' H', Pv T.length σ' H' → D.nx σ' H') : tFor (iList K tl) (gName j) ts D σ H := by
  obtain ⟨a, ws, rfl, h1, h2⟩ := hT
  refine s_forL (xs := ws) h (ex_l e0 h1) Pv h0 (fun i σ' H' _ p => ex_l (hl i σ' H' p) h1) (fun i w σ' H' e p => ?_) (fun σ' H' p => hd σ' H' (by rw [← h2.len]; exact p))
  obtain ⟨q, e2, h3⟩ := h2.get e
  exact hs i w q σ' H' e2 (h3.mono (hl i σ' H' p)) p
/-- for over a list of values that is made on the way -/
theorem d_forNL {xs : List V} {j : Nat} (h : EvL tl σ H xs) (Pv : Hp → Nat → L2.St → Hp → Prop) (h0 : ∀ H1, Ex H H1 → Pv H1 0 σ H1) (hk : ∀ p H1 i σ' H', H p = none → H1 p = some (.lst xs) → Pv H1 i σ' H' → H' p = some (.lst xs))
    (hs : ∀ H1 i x σ' H', Ex H H1 → xs[i]? = some x → Pv H1 i σ' H' → ts { D with nx := Pv H1 (i + 1), ct := Pv H1 (i + 1), bk := D.nx } (σ'.set j (some x)) H') (hd : ∀ H1 σ' H', Ex H H1 → Pv H1 xs.length σ' H' → D.nx σ' H') : tFor (iList K tl) (gName j) ts D σ H :=
  h H (Ex.refl H) _ fun p H1 hp e h1 => ⟨p, rfl, ⟨xs, sq_of h1⟩, for_list (Pv H1) (h0 H1 e) (fun i σ' H' _ q => sq_of (hk p H1 i σ' H' hp h1 q)) (fun i x σ' H' hx q => hs H1 i x σ' H' e hx q) (fun σ' H' q => hd H1 σ' H' e q)⟩
/-- in over a list of pairs -/
theorem any_dP (p : Int × Int) (L : List (Int × Int)) : ((L.map dP).any fun z => PyData.eqv z (dP p)) = decide (p ∈ L) := by
  rw [Bool.eq_iff_iff, List.any_map, List.any_eq_true, decide_eq_true_eq]
  constructor
  · rintro ⟨q, hq, e⟩
    have e : PyData.eqv (dP q) (dP p) = true := e
    rw [dP_eqv] at e
    exact of_decide_eq_true e ▸ hq
  · intro h
    exact ⟨p, h, by show PyData.eqv (dP p) (dP p) = true; rw [dP_eqv]; simp⟩
theorem d_inP {x y : Int} {L : List (Int × Int)} (h : Pr K H v x y) (hL : Tb K H u L) (q : Q (.bl (decide ((x, y) ∈ L))) H) : rInD K v u H Q := ⟨_, _, h.dp, hL.dp, dP_shaped _, dT_shaped _, by rw [any_dP]; exact q⟩
theorem d_notInP {x y : Int} {L : List (Int × Int)} (h : Pr K H v x y) (hL : Tb K H u L) (q : Q (.bl (!decide ((x, y) ∈ L))) H) : rNotInD K v u H Q := ⟨_, _, h.dp, hL.dp, dP_shaped _, dT_shaped _, by rw [any_dP]; exact q⟩
theorem d_lenP {x y : Int} (h : Pr K H v x y) (q : Q (.int 2) H) : rLenS K [v] H Q := by
  obtain ⟨a, rfl, h⟩ := h
  exact ⟨a, _, rfl, .inr h, q⟩
theorem Tb.nil {p : Addr} (h : H p = some (.lst [])) : Tb K H (.ref p) [] := ⟨p, [], rfl, sq_of h, trivial⟩
end
end Tk

namespace Tk
open PySem PySem.Spec PyProof.Rows L2 Evl

/-! ### the quotients -/
def euN (g s : Nat) : List Int := if h : s = 0 then [] else ((g / s : Nat) : Int) :: euN s (g % s)
termination_by s
decreasing_by exact Nat.mod_lt _ (Nat.pos_of_ne_zero h)
def eu (g s : Int) : List Int := euN g.toNat s.toNat
theorem euN_zero (g : Nat) : euN g 0 = [] := by rw [euN]; rfl
theorem euN_step {g s : Nat} (h : 0 < s) : euN g s = ((g / s : Nat) : Int) :: euN s (g % s) := by
  rw [euN, dif_neg (by omega)]
theorem eu_zero {g s : Int} (h : s ≤ 0) : eu g s = [] := by
  unfold eu
  rw [show s.toNat = 0 by omega]
  exact euN_zero _
theorem eu_step {g s : Int} (hg : 0 ≤ g) (hs : 0 < s) : eu g s = g / s :: eu s (g % s) := by
  obtain ⟨a, rfl⟩ := Int.eq_ofNat_of_zero_le hg
  obtain ⟨b, rfl⟩ := Int.eq_ofNat_of_zero_le (Int.le_of_lt hs)
  have hb : 0 < b := by omega
  show euN a b = _ :: euN b (((a : Int) % (b : Int)).toNat)
  rw [euN_step hb]
  rfl
theorem half_mod {s r : Nat} (h0 : 0 < r) (h : r < s) : s % r < (s + 1) / 2 := by
  by_cases c : 2 * r ≤ s
  · have := Nat.mod_lt s h0
    omega
  · have e : s % r = s - r := by
      rw [Nat.mod_eq_sub_mod (by omega), Nat.mod_eq_of_lt (by omega)]
    omega
theorem euN_len : ∀ (k g s : Nat), s < 2 ^ k → (euN g s).length ≤ 2 * k
  | 0, g, s, h => by
    have e : s = 0 := by simpa using h
    rw [e, euN_zero]
    exact Nat.le_refl _
  | k + 1, g, s, h => by
    by_cases c : s = 0
    · rw [c, euN_zero]; simp
    · rw [euN_step (by omega)]
      by_cases d : g % s = 0
      · rw [d, euN_zero]; simp; omega
      · rw [euN_step (by omega)]
        have h1 : g % s < s := Nat.mod_lt _ (by omega)
        have h2 := half_mod (by omega : 0 < g % s) h1
        have h3 : s % (g % s) < 2 ^ k := by
          rw [Nat.pow_succ] at h
          omega
        have := euN_len k (g % s) (s % (g % s)) h3
        simp only [List.length_cons]
        omega
theorem eu_len {g s : Int} (h : s ≤ 1000000000000000000000000000000) : (eu g s).length ≤ 200 := by
  refine euN_len 100 _ _ ?_
  have e : (2 : Nat) ^ 100 = 1267650600228229401496703205376 := by decide
  rw [e]
  omega
/-- the quotients of the pair x, y -/
def qs (x y : Int) : List Int := eu (max x y) (min x y)
theorem qs_comm (x y : Int) : qs x y = qs y x := by
  unfold qs
  rw [Int.max_comm, Int.min_comm]
theorem qs_len {x y : Int} (h : x ≤ 1000000000000000000000000000000) : (qs x y).length ≤ 200 := eu_len (by omega)
theorem take_succ' {α : Type} {l : List α} {i : Nat} {x : α} (h : l[i]? = some x) : l.take (i + 1) = l.take i ++ [x] := by
  rw [List.take_succ, h]
  rfl

local macro_rules | `(tactic| walk_at "ps") => `(tactic| first
  | assumption
  | (apply PrS.mono; (· assumption); walk_at "ps")
  | fail "ps")
local macro_rules | `(tactic| walk_at "pr") => `(tactic| first
  | assumption
  | (apply PrS.pr; assumption)
  | exact Pr.of (by assumption)
  | (apply Pr.mono; (· assumption); walk_at "pr")
  | (apply Exb.pr; (· assumption); (· walk_at "hl"); walk_at "pr")
  | fail "pr")
local macro_rules | `(tactic| walk_at "ex") => `(tactic| first
  | exact Ex.refl _
  | assumption
  | exact Ex.new (by assumption)
  | (refine Ex.trans ?_ (by assumption); walk_at "ex")
  | (apply Exb.base; (· assumption); (· walk_at "fr"); walk_at "ex")
  | fail "ex")
local macro_rules | `(tactic| walk_at "fr") => `(tactic| first
  | assumption
  | (apply fresh_back; rotate_left; (· assumption); walk_at "ex")
  | fail "fr")
local macro_rules | `(tactic| walk_at "hl") => `(tactic| first
  | assumption
  | (apply Ex.at; (· assumption); walk_at "hl")
  | fail "hl")
local macro_rules | `(tactic| walk_at "len") => `(tactic| first
  | (exact sz_lt (by omega))
  | (exact sz_lt (by simp; omega))
  | (exact sz_lt (by simp))
  | assumption
  | fail "len")
local macro_rules | `(tactic| walk_at "sz") => `(tactic| first
  | omega
  | (simp; omega)
  | (simp; done)
  | fail "sz")
local macro_rules | `(tactic| walk_at "at") => `(tactic| first
  | assumption
  | exact rfl
  | exact at_int (by assumption)
  | fail "at")
local macro_rules | `(tactic| walk_at "sl") => `(tactic| first
  | assumption
  | exact sq_of (by assumption)
  | (apply ex_l; (· assumption); walk_at "sl")
  | fail "sl")
local macro_rules | `(tactic| walk_at "st") => `(tactic| first
  | assumption
  | exact st_of (by assumption)
  | (apply ex_t; (· assumption); walk_at "st")
  | fail "st")
local macro_rules | `(tactic| walk_at "tb") => `(tactic| first
  | assumption
  | exact ⟨_, _, rfl, sq_of (by assumption), by assumption⟩
  | exact Tb.nil (by assumption)
  | (apply Tb.mono; (· assumption); walk_at "tb")
  | fail "tb")
local macro_rules | `(tactic| walk_at "nx") => `(tactic| ((try with_reducible refine d_gName ?_); (try dsimp only [List.set, wipe])))
local macro_rules | `(tactic| walk_at "side") => `(tactic| first
  | assumption
  | exact divW (by omega) (by omega)
  | (show (0 : Int) < _; omega)
  | exact mulW ⟨by omega, by omega⟩ ⟨by omega, by omega⟩
  | exact ⟨by decide, by decide, by decide⟩
  | decide
  | omega
  | fail "side")
local macro_rules | `(tactic| walk_at "bd") => `(tactic| first
  | assumption
  | exact ⟨by omega, by omega⟩
  | fail "bd")
local macro_rules | `(tactic| walk_at "gd") => `(tactic| first
  | assumption
  | exact ⟨by omega, by omega⟩
  | fail "gd")
local macro_rules | `(tactic| walk_at "ty") => `(tactic| first
  | exact ty_int
  | exact ty_bl
  | exact ty_str
  | exact ty_non
  | (apply ty_list; walk_at "sl")
  | (apply ty_pr; walk_at "pr")
  | (apply ty_tup; walk_at "st")
  | fail "ty")
local macro_rules | `(tactic| walk_at "spcall") => `(tactic| fail)
local macro_rules | `(tactic| walk_at "go1") => `(tactic| (first
  | ((with_reducible apply d_var); (· exact rfl))
  | (with_reducible refine d_c ?_)
  | (with_reducible refine d_op ?_)
  | (with_reducible refine d_un ?_)
  | (with_reducible refine d_pow30 ?_)
  | (with_reducible refine d_rI0 ?_)
  | ((with_reducible refine d_rI ?_ ?_); (· walk_at "side"))
  | (with_reducible refine d_rU ?_)
  | (with_reducible refine d_eqI ?_)
  | (with_reducible refine d_neI ?_)
  | (with_reducible refine d_eqS ?_)
  | (with_reducible refine d_neS ?_)
  | (with_reducible refine d_eqB ?_)
  | (with_reducible refine d_nil ?_)
  | (with_reducible refine d_cons ?_)
  | (with_reducible refine d_tup ?_)
  | (with_reducible refine d_lst ?_)
  | ((with_reducible refine d_newP ?_); intro _ _ _ _)
  | ((with_reducible refine d_newT ?_ ?_); (· (simp; done)); intro _ _ _ _ _)
  | ((with_reducible refine d_newL ?_ ?_); (· (simp; done)); intro _ _ _ _ _)
  | (with_reducible refine d_call ?_)
  | (with_reducible refine d_cb ?_)
  | ((with_reducible apply d_maxT); (· walk_at "pr"))
  | ((with_reducible apply d_minT); (· walk_at "pr"))
  | (with_reducible refine d_max2 ?_)
  | (with_reducible refine d_min2 ?_)
  | ((with_reducible apply d_ixP0); (· walk_at "pr"))
  | ((with_reducible apply d_ixP1); (· walk_at "pr"))
  | ((with_reducible apply d_ixL); (· walk_at "sl"); (· walk_at "at"))
  | ((with_reducible apply d_ixT); (· walk_at "st"); (· walk_at "at"))
  | ((with_reducible apply d_eqP); (· walk_at "pr"); (· walk_at "pr"))
  | ((with_reducible apply d_neP); (· walk_at "pr"); (· walk_at "pr"))
  | ((with_reducible apply d_eqT); (· walk_at "tb"); (· walk_at "tb"))
  | ((with_reducible apply d_neT); (· walk_at "tb"); (· walk_at "tb"))
  | ((with_reducible apply d_listT); (· walk_at "tb"); intro _ _ _ _ _ _ _ _)
  | ((with_reducible apply d_listL); (· walk_at "sl"); intro _ _ _ _ _)
  | ((with_reducible apply d_lenT); (· walk_at "tb"))
  | ((with_reducible apply d_ixTb); (· walk_at "tb"); (· assumption); intro _ _)
  | ((with_reducible apply d_len); (· walk_at "sl"))
  | ((with_reducible apply d_lenP); (· walk_at "pr"))
  | ((with_reducible apply d_sum); (· walk_at "sl"))
  | (with_reducible refine d_dnot ?_)
  | (with_reducible refine d_dget ?_)
  | (with_reducible refine d_dput ?_)
  | ((with_reducible refine d_dnew ?_); intro _ _ _ _ _)
  | ((with_reducible apply d_rDNot); (· walk_at "hl"); (· walk_at "ps"))
  | (with_reducible refine d_neB ?_)
  | (with_reducible refine d_sl ?_)
  | (with_reducible refine d_noPart ?_)
  | (with_reducible refine d_part ?_)
  | (with_reducible refine d_rPart ?_)
  | ((with_reducible apply d_slTake); (· walk_at "tb"); (· omega); intro _ _ _ _ _ _ _)
  | ((with_reducible apply d_slDrop); (· walk_at "tb"); (· omega); intro _ _ _ _ _ _ _)
  | ((with_reducible apply d_cat); (· walk_at "hl"); (· walk_at "hl"); (· walk_at "sz"); intro _ _ _ _ _)
  | ((with_reducible apply d_inP); (· walk_at "pr"); (· walk_at "tb"))
  | ((with_reducible apply d_notInP); (· walk_at "pr"); (· walk_at "tb"))
  | (with_reducible refine d_lenSet ?_)
  | ((with_reducible apply d_rLenSet); (· walk_at "sl"); (· assumption); (· assumption))
  | ((with_reducible apply d_inI); (· walk_at "sl"))
  | ((with_reducible apply d_notInI); (· walk_at "sl"))
  | (with_reducible refine d_isNn ?_)
  | (with_reducible refine d_notNn ?_)
  | (with_reducible refine d_intB ?_)
  | ((with_reducible apply d_isi); (· walk_at "ty"); (· first | exact k_ii | exact k_ib | exact k_bb | exact k_ll | exact k_tt | exact k_ss | exact k_ls))
  | walk_at "spcall"
  | (with_reducible refine d_bmL ?_)
  | ((with_reducible apply d_rBmL); (· walk_at "sl"))
  | ((with_reducible apply d_append); (· walk_at "hl"); (· walk_at "len"); intro _ _ _)
  | (with_reducible refine d_seq ?_)
  | (with_reducible refine d_asg ?_)
  | (with_reducible refine d_asgG ?_)
  | ((with_reducible apply d_gTupP); (· walk_at "pr"))
  | ((with_reducible apply d_gTup2); (· walk_at "st"))
  | (with_reducible refine d_ret ?_)
  | (with_reducible refine d_retN ?_)
  | (with_reducible refine d_drop ?_)
  | (with_reducible refine d_next ?_)
  | (with_reducible refine d_par ?_)
  | (with_reducible refine d_rPar ?_)
  | fail "go1"); walk_at "nx")
local macro_rules | `(tactic| walk_at "go") => `(tactic| repeat walk_at "go1")
/- an expression's value -/
local macro_rules | `(tactic| walk_at "ev") => `(tactic| first
  | ((with_reducible apply ev_andV); (· walk_at "ev"); (· intro hb; (try simp only [Bool.and_eq_true, Bool.or_eq_true, decide_eq_true_eq, Bool.not_eq_true', decide_eq_false_iff_not, Bool.or_eq_false_iff, Bool.not_eq_false', Bool.not_eq_false, Bool.not_eq_true] at hb) ; walk_at "ev"))
  | ((with_reducible apply ev_orV); (· walk_at "ev"); (· intro hb; (try simp only [Bool.and_eq_true, Bool.or_eq_true, decide_eq_true_eq, Bool.not_eq_true', decide_eq_false_iff_not, Bool.or_eq_false_iff, Bool.not_eq_false', Bool.not_eq_false, Bool.not_eq_true] at hb) ; walk_at "ev"))
  | ((with_reducible apply ev_notV); walk_at "ev")
  | ((with_reducible apply ev_chain); (· walk_at "ev"); (· walk_at "ev"); (· walk_at "ev"))
  | ((with_reducible apply ev_intro); intro _ _ _ q; walk_at "nx"; walk_at "go"; exact q _ (by walk_at "ex"))
  | fail "ev")
/- a test's -/
local macro_rules | `(tactic| walk_at "et") => `(tactic| first
  | ((with_reducible apply et_and); (· walk_at "et"); (· intro hb; (try simp only [Bool.and_eq_true, Bool.or_eq_true, decide_eq_true_eq, Bool.not_eq_true', decide_eq_false_iff_not, Bool.or_eq_false_iff, Bool.not_eq_false', Bool.not_eq_false, Bool.not_eq_true] at hb) ; walk_at "et"))
  | ((with_reducible apply et_or); (· walk_at "et"); (· intro hb; (try simp only [Bool.and_eq_true, Bool.or_eq_true, decide_eq_true_eq, Bool.not_eq_true', decide_eq_false_iff_not, Bool.or_eq_false_iff, Bool.not_eq_false', Bool.not_eq_false, Bool.not_eq_true] at hb) ; walk_at "et"))
  | ((with_reducible apply et_not); walk_at "et")
  | ((with_reducible apply et_test); walk_at "ev")
  | ((with_reducible apply et_B); walk_at "ev")
  | fail "et")
local macro_rules | `(tactic| walk_at "if") => `(tactic| ((with_reducible apply d_if); (· walk_at "et")))
local macro_rules | `(tactic| walk_at "ea") => `(tactic| first
  | exact ea_nil
  | ((with_reducible apply ea_cons); (· walk_at "ev"); walk_at "ea")
  | fail "ea")
local macro_rules | `(tactic| walk_at "eu") => `(tactic| (apply eu_tup; (· walk_at "ea"); (· simp)))
local macro_rules | `(tactic| walk_at "el") => `(tactic| (apply el_lst; (· walk_at "ea"); (· simp)))

def topS (i : Nat) : Stmt := PySem.Challenge.pw_takepairs_k09_whole_played.main.body.getD i (.Pass ⟨0, 0, 0, 0⟩)
abbrev s_asked_pair : Stmt := topS 7
abbrev s_moves_of : Stmt := topS 8
abbrev s_behind : Stmt := topS 10
abbrev s_worth_of : Stmt := topS 12
abbrev s_added : Stmt := topS 17
abbrev s__law_cell_at : Stmt := topS 23
abbrev s_moves : Stmt := topS 9
abbrev s_leading_of : Stmt := topS 13
abbrev s_asked_table : Stmt := topS 16
abbrev s__law_small_by : Stmt := topS 24
abbrev s_together : Stmt := topS 18
abbrev s_moved : Stmt := topS 21
abbrev s__law_drawn : Stmt := topS 25
abbrev s_wins : Stmt := topS 19
abbrev s_winning : Stmt := topS 20
abbrev s_law : Stmt := topS 26
structure Txt (K : PySem.W.Frag) (mg : Str → Option Value) : Prop where
  b_enumerate : mg "enumerate" = none
  b_len : mg "len" = none
  b_max : mg "max" = none
  b_min : mg "min" = none
  b_range : mg "range" = none
  g_GREATEST : ∃ u, mg "GREATEST" = some u ∧ RelV (.int 1000000000000000000000000000000) u
  g_MOST : ∃ u, mg "MOST" = some u ∧ RelV (.int 6) u
theorem sc_asked_pair : FnScope ["pair", "pile"] ["pair"] (defScope s_asked_pair) := ⟨rfl, rfl, rfl, by decide +kernel, rfl, by decide +kernel, by decide +kernel⟩
theorem sc_moves_of : FnScope ["pair"] ["pair"] (defScope s_moves_of) := ⟨rfl, rfl, rfl, by decide +kernel, rfl, by decide +kernel, by decide +kernel⟩
theorem sc_behind : FnScope ["pair", "times"] ["pair", "times"] (defScope s_behind) := ⟨rfl, rfl, rfl, by decide +kernel, rfl, by decide +kernel, by decide +kernel⟩
theorem sc_worth_of : FnScope ["pair", "great", "small"] ["pair"] (defScope s_worth_of) := ⟨rfl, rfl, rfl, by decide +kernel, rfl, by decide +kernel, by decide +kernel⟩
theorem sc_added : FnScope ["one", "other", "total", "figure"] ["one", "other"] (defScope s_added) := ⟨rfl, rfl, rfl, by decide +kernel, rfl, by decide +kernel, by decide +kernel⟩
theorem sc__law_cell_at : FnScope ["script", "k"] ["script", "k"] (defScope s__law_cell_at) := ⟨rfl, rfl, rfl, by decide +kernel, rfl, by decide +kernel, by decide +kernel⟩
theorem sc_moves : FnScope ["pair"] ["pair"] (defScope s_moves) := ⟨rfl, rfl, rfl, by decide +kernel, rfl, by decide +kernel, by decide +kernel⟩
theorem sc_leading_of : FnScope ["pair", "aim", "most", "quotient", "left", "times"] ["pair", "aim"] (defScope s_leading_of) := ⟨rfl, rfl, rfl, by decide +kernel, rfl, by decide +kernel, by decide +kernel⟩
theorem sc_asked_table : FnScope ["table", "pair"] ["table"] (defScope s_asked_table) := ⟨rfl, rfl, rfl, by decide +kernel, rfl, by decide +kernel, by decide +kernel⟩
theorem sc__law_small_by : FnScope ["script", "at", "most", "one", "other"] ["script", "at", "most"] (defScope s__law_small_by) := ⟨rfl, rfl, rfl, by decide +kernel, rfl, by decide +kernel, by decide +kernel⟩
theorem sc_together : FnScope ["table", "total", "pair"] ["table"] (defScope s_together) := ⟨rfl, rfl, rfl, by decide +kernel, rfl, by decide +kernel, by decide +kernel⟩
theorem sc_moved : FnScope ["table", "number", "times"] ["table", "number", "times"] (defScope s_moved) := ⟨rfl, rfl, rfl, by decide +kernel, rfl, by decide +kernel, by decide +kernel⟩
theorem sc__law_drawn : FnScope ["table", "cell", "spots", "number", "times"] ["table", "cell"] (defScope s__law_drawn) := ⟨rfl, rfl, rfl, by decide +kernel, rfl, by decide +kernel, by decide +kernel⟩
theorem sc_wins : FnScope ["table"] ["table"] (defScope s_wins) := ⟨rfl, rfl, rfl, by decide +kernel, rfl, by decide +kernel, by decide +kernel⟩
theorem sc_winning : FnScope ["table", "total", "found", "number", "pair", "times"] ["table"] (defScope s_winning) := ⟨rfl, rfl, rfl, by decide +kernel, rfl, by decide +kernel, by decide +kernel⟩
theorem sc_law : FnScope ["script", "table", "told", "turn", "move", "good", "k"] ["script"] (defScope s_law) := ⟨rfl, rfl, rfl, by decide +kernel, rfl, by decide +kernel, by decide +kernel⟩
section
variable {P : Program} {w : World} {K : PySem.W.Frag} {mg : Str → Option Value} {base : Heap}
/-! ### asked_pair -/
def sp_asked_pair (K : PySem.W.Frag) : Sp := fun vs H Q _ => ∃ v x y, vs = [v] ∧ Pr K H v x y ∧ Gd x ∧ Gd y ∧ RetV .non H Q
theorem ok_asked_pair (F : Df K mg "asked_pair" s_asked_pair) (T : Txt K mg)  : Cl P w K mg base 1 "asked_pair" (sp_asked_pair K) := by
  refine cl_of (N := ["pair", "pile"]) (ps := ["pair"]) F (fun _ _ _ _ _ _ us hl => match us, hl with | [_], _ => rfl) sc_asked_pair (fun vs H Q E h => by obtain ⟨_, _, _, rfl, _⟩ := h; rfl) (fun f cdv A outer s H vs Q E hr h => ⟨_, (pss_one (ps_for PassesOwn.never rfl (pi_tup (pv 0)) (pg_name (i := 1) sc_asked_pair.nd rfl (.inl rfl)) (pss_one (ps_if (PW.pt (pw_or (pt_cmpR op_lt (pv 1) pe_int (nomark _)) (pw_or1 (pt_cmpR op_gt (pv 1) (pe_gc (by rfl) T.g_GREATEST) (nomark _))))) (pss_one ps_never) pss_nil)))), ?_⟩)
  obtain ⟨v, x, y, rfl, hp, hx, hy, q⟩ := h
  obtain ⟨a, rfl, hq⟩ := id hp
  rw [show start ["pair", "pile"] [.ref a] = [some (.ref a), none] from rfl]
  refine ⟨_, rfl, a, rfl, ⟨_, hq⟩, for_tup (K := K) (a := a) (xs := [.int x, .int y]) (fun i σ H' => Ex H H' ∧ ∃ z, σ = [some (.ref a), z])
    ⟨Ex.refl _, none, rfl⟩ (fun i σ H' _ h => ex_t h.1 hq) ?_ ?_⟩
  · rintro i z σ H' hi ⟨e, z', rfl⟩
    have hz : ∃ n, z = .int n ∧ Gd n := by
      match i, hi with
      | 0, hi => exact ⟨x, (Option.some.inj hi).symm, hx⟩
      | 1, hi => exact ⟨y, (Option.some.inj hi).symm, hy⟩
    obtain ⟨n, rfl, hn1, hn2⟩ := hz
    walk_at "nx"
    walk_at "if"
    · intro hb
      simp at hb
      omega
    · intro hb H1 e1
      exact ⟨e.trans e1, some (.int n), rfl⟩
  · rintro σ H' ⟨e, z, rfl⟩
    exact q _ e
theorem u_asked_pair {H : Hp} {Q : VK} {E : XK} {v : V} {x y : Int} (hp : Pr K H v x y) (hx : Gd x) (hy : Gd y) (q : ∀ H2, Ex H H2 → Q .non H2) : sp_asked_pair K [v] H Q E := ⟨v, x, y, rfl, hp, hx, hy, q⟩
local macro_rules | `(tactic| walk_at "spcall") => `(tactic| ((with_reducible apply u_asked_pair); (· walk_at "pr"); (· walk_at "gd"); (· walk_at "gd"); intro _ _))

/-! ### moves_of -/
def mvs (x y : Int) : Int := (max x y - 1) / min x y

def sp_moves_of (K : PySem.W.Frag) : Sp := fun vs H Q _ => ∃ v x y, vs = [v] ∧ Pr K H v x y ∧ Gd x ∧ Gd y ∧ RetV (.int (mvs x y)) H Q
theorem ok_moves_of (F : Df K mg "moves_of" s_moves_of) (T : Txt K mg)  : Cl P w K mg base 1 "moves_of" (sp_moves_of K) := by
  refine cl_of (N := ["pair"]) (ps := ["pair"]) F (fun _ _ _ _ _ _ us hl => match us, hl with | [_], _ => rfl) sc_moves_of (fun vs H Q E h => by obtain ⟨_, _, _, rfl, _⟩ := h; rfl) (fun f cdv A outer s H vs Q E hr h => ⟨_, (pss_one (ps_ret (pe_op op_fdivW (pe_op op_sub (pe_callB (call_maxT rfl) (by rfl) T.b_max (by decide +kernel) (pa_cons (pv 0) pa_nil)) pe_int) (pe_callB (call_minT rfl) (by rfl) T.b_min (by decide +kernel) (pa_cons (pv 0) pa_nil))))), ?_⟩)
  obtain ⟨v, x, y, rfl, hp, ⟨hx1, hx2⟩, ⟨hy1, hy2⟩, q⟩ := h
  rw [show start ["pair"] [v] = [some (v)] from rfl]
  walk_at "go"
  exact q _ (by walk_at "ex")
theorem u_moves_of {H : Hp} {Q : VK} {E : XK} {v : V} {x y : Int} (hp : Pr K H v x y) (hx : Gd x) (hy : Gd y) (q : ∀ H2, Ex H H2 → Q (.int (mvs x y)) H2) : sp_moves_of K [v] H Q E := ⟨v, x, y, rfl, hp, hx, hy, q⟩
local macro_rules | `(tactic| walk_at "spcall") => `(tactic| ((with_reducible apply u_moves_of); (· walk_at "pr"); (· walk_at "gd"); (· walk_at "gd"); intro _ _))

/-! ### behind -/
/-- behind a move -/
def bh (x y t : Int) : Int × Int := if y < x then (x - t * y, y) else (x, y - t * x)
theorem mvs_mul {x y t : Int} (hx : 1 ≤ x) (hy : 1 ≤ y) (h : t ≤ mvs x y) : t * min x y ≤ max x y - 1 := by
  have h1 := Int.mul_le_mul_of_nonneg_right h (show 0 ≤ min x y by omega)
  have h2 : mvs x y * min x y ≤ max x y - 1 := Int.ediv_mul_le _ (by omega)
  omega
theorem mvs_le {x y : Int} (hx : Gd x) (hy : Gd y) : 0 ≤ mvs x y ∧ mvs x y ≤ 1000000000000000000000000000000 := by
  have h0 := hx.1
  have h1 := hy.1
  have h2 := hx.2
  have h3 := hy.2
  refine ⟨Int.ediv_nonneg (by omega) (by omega), ?_⟩
  have : mvs x y ≤ max x y - 1 := Int.ediv_le_self _ (by omega)
  omega
theorem bh_gd {x y t : Int} (hx : Gd x) (hy : Gd y) (h1 : 1 ≤ t) (h2 : t ≤ mvs x y) : Gd (bh x y t).1 ∧ Gd (bh x y t).2 := by
  have h3 := mvs_mul hx.1 hy.1 h2
  have h4 : 0 ≤ t * min x y := Int.mul_nonneg (by omega) (by have := hx.1; have := hy.1; omega)
  obtain ⟨a1, a2⟩ := hx
  obtain ⟨b1, b2⟩ := hy
  unfold bh
  by_cases c : y < x
  · rw [if_pos c]
    rw [show max x y = x by omega, show min x y = y by omega] at h3
    rw [show min x y = y by omega] at h4
    exact ⟨⟨by show 1 ≤ x - t * y; omega, by show x - t * y ≤ _; omega⟩, ⟨b1, b2⟩⟩
  · rw [if_neg c]
    rw [show max x y = y by omega, show min x y = x by omega] at h3
    rw [show min x y = x by omega] at h4
    exact ⟨⟨a1, a2⟩, ⟨by show 1 ≤ y - t * x; omega, by show y - t * x ≤ _; omega⟩⟩

def sp_behind (K : PySem.W.Frag) : Sp := fun vs H Q _ => ∃ v x y t, vs = [v, .int t] ∧ Pr K H v x y ∧ Gd x ∧ Gd y ∧ 1 ≤ t ∧ t ≤ mvs x y ∧ ∀ v' H', Ex H H' → Pr K H' v' (bh x y t).1 (bh x y t).2 → Q v' H'
theorem ok_behind (F : Df K mg "behind" s_behind) (T : Txt K mg)  : Cl P w K mg base 1 "behind" (sp_behind K) := by
  refine cl_of (N := ["pair", "times"]) (ps := ["pair", "times"]) F (fun _ _ _ _ _ _ us hl => match us, hl with | [_, _], _ => rfl) sc_behind (fun vs H Q E h => by obtain ⟨_, _, _, _, rfl, _⟩ := h; rfl) (fun f cdv A outer s H vs Q E hr h => ⟨_, (pss_cons (ps_if (pt_cmpR op_gt (pe_ix ix_tup (pv 0) pe_int (fun _ _ => rfl)) (pe_ix ix_tup (pv 0) pe_int (fun _ _ => rfl)) (nomark _)) (pss_one (ps_ret (pe_tup (pa_cons (pe_op op_sub (pe_ix ix_tup (pv 0) pe_int (fun _ _ => rfl)) (pe_op op_mulW (pv 1) (pe_ix ix_tup (pv 0) pe_int (fun _ _ => rfl)))) (pa_cons (pe_ix ix_tup (pv 0) pe_int (fun _ _ => rfl)) pa_nil))))) pss_nil)
    (pss_one (ps_ret (pe_tup (pa_cons (pe_ix ix_tup (pv 0) pe_int (fun _ _ => rfl)) (pa_cons (pe_op op_sub (pe_ix ix_tup (pv 0) pe_int (fun _ _ => rfl)) (pe_op op_mulW (pv 1) (pe_ix ix_tup (pv 0) pe_int (fun _ _ => rfl)))) pa_nil)))))), ?_⟩)
  obtain ⟨v, x, y, t, rfl, hp, hx, hy, h1, h2, q⟩ := h
  rw [show start ["pair", "times"] [v, .int t] = [some (v), some (.int t)] from rfl]
  have h3 := (mvs_le hx hy).2
  obtain ⟨a1, a2⟩ := hx
  obtain ⟨b1, b2⟩ := hy
  walk_at "go"
  walk_at "if"
  · intro hb H1 e1
    have hb := of_decide_eq_true hb
    have e : bh x y t = (x - t * y, y) := if_pos hb
    rw [e] at q
    walk_at "go"
    exact q _ _ (by walk_at "ex") (by walk_at "pr")
  · intro hb H1 e1
    have hb := of_decide_eq_false hb
    have e : bh x y t = (x, y - t * x) := if_neg hb
    rw [e] at q
    walk_at "go"
    exact q _ _ (by walk_at "ex") (by walk_at "pr")
theorem u_behind {H : Hp} {Q : VK} {E : XK} {v : V} {x y t : Int} (hp : Pr K H v x y) (hx : Gd x) (hy : Gd y) (h1 : 1 ≤ t) (h2 : t ≤ mvs x y) (q : ∀ v' H', Ex H H' → Pr K H' v' (bh x y t).1 (bh x y t).2 → Gd (bh x y t).1 → Gd (bh x y t).2 → Q v' H') : sp_behind K [v, .int t] H Q E :=
  ⟨v, x, y, t, rfl, hp, hx, hy, h1, h2, fun v' H' e p => q v' H' e p (bh_gd hx hy h1 h2).1 (bh_gd hx hy h1 h2).2⟩
local macro_rules | `(tactic| walk_at "spcall") => `(tactic| ((with_reducible apply u_behind); (· walk_at "pr"); (· walk_at "gd"); (· walk_at "gd"); (· omega); (· omega); intro _ _ _ _ _ _))

/-! ### worth_of -/
/-! ### worths -/
def wt (x y : Int) : Int := (max x y * max x y - min x y * min x y) / (max x y * min x y)
theorem wt_comm (x y : Int) : wt x y = wt y x := by
  unfold wt
  rw [Int.max_comm, Int.min_comm]
theorem prod_pos {x y : Int} (hx : 1 ≤ x) (hy : 1 ≤ y) : 0 < max x y * min x y := Int.mul_pos (by omega) (by omega)
theorem prod_le {a b : Int} (ha : 0 ≤ a) (ha2 : a ≤ 1000000000000000000000000000000) (hb : 0 ≤ b) (hb2 : b ≤ 1000000000000000000000000000000) : 0 ≤ a * b ∧ a * b ≤ 1000000000000000000000000000000000000000000000000000000000000 := by
  refine ⟨Int.mul_nonneg ha hb, ?_⟩
  have := Int.mul_le_mul ha2 hb2 hb (by decide)
  have e : (1000000000000000000000000000000 : Int) * 1000000000000000000000000000000 = 1000000000000000000000000000000000000000000000000000000000000 := by decide
  omega
theorem sq_le {a b : Int} (h0 : 0 ≤ a) (h : a ≤ b) : a * a ≤ b * b := Int.mul_le_mul h h h0 (by omega)
theorem wt_nonneg {x y : Int} (hx : 1 ≤ x) (hy : 1 ≤ y) : 0 ≤ wt x y := by
  have h1 := sq_le (show 0 ≤ min x y by omega) (show min x y ≤ max x y by omega)
  exact Int.ediv_nonneg (by omega) (Int.le_of_lt (prod_pos hx hy))
theorem wt_low {x y : Int} (hx : 1 ≤ x) (hy : 1 ≤ y) : wt x y * (max x y * min x y) ≤ max x y * max x y - min x y * min x y := Int.ediv_mul_le _ (Int.ne_of_gt (prod_pos hx hy))
theorem wt_high {x y : Int} (hx : 1 ≤ x) (hy : 1 ≤ y) : max x y * max x y - min x y * min x y < (wt x y + 1) * (max x y * min x y) := Int.lt_ediv_add_one_mul_self _ (prod_pos hx hy)
theorem wt_le {x y : Int} (hx : Gd x) (hy : Gd y) : wt x y ≤ 1000000000000000000000000000000 := by
  have m1 : 1 ≤ min x y := by have := hx.1; have := hy.1; omega
  have m2 : max x y ≤ 1000000000000000000000000000000 := by have := hx.2; have := hy.2; omega
  have m3 : 1 ≤ max x y := by have := hx.1; omega
  have h1 := prod_pos hx.1 hy.1
  refine Int.le_trans (Int.ediv_le_of_le_mul h1 (b := max x y) ?_) m2
  have h2 : max x y * max x y ≤ max x y * max x y * min x y := by
    have := Int.mul_le_mul_of_nonneg_left m1 (Int.mul_nonneg (show 0 ≤ max x y by omega) (show 0 ≤ max x y by omega))
    rw [Int.mul_one] at this
    exact this
  have h3 : 0 ≤ min x y * min x y := Int.mul_nonneg (by omega) (by omega)
  rw [← Int.mul_assoc]
  omega
theorem prod_mm (x y : Int) : max x y * min x y = x * y := by
  by_cases h : x ≤ y
  · rw [show max x y = y by omega, show min x y = x by omega, Int.mul_comm]
  · rw [show max x y = x by omega, show min x y = y by omega]
def sp_worth_of (K : PySem.W.Frag) : Sp := fun vs H Q _ => ∃ v x y, vs = [v] ∧ Pr K H v x y ∧ Gd x ∧ Gd y ∧ RetV (.int (wt x y)) H Q
theorem ok_worth_of (F : Df K mg "worth_of" s_worth_of) (T : Txt K mg)  : Cl P w K mg base 1 "worth_of" (sp_worth_of K) := by
  refine cl_of (N := ["pair", "great", "small"]) (ps := ["pair"]) F (fun _ _ _ _ _ _ us hl => match us, hl with | [_], _ => rfl) sc_worth_of (fun vs H Q E h => by obtain ⟨_, _, _, rfl, _⟩ := h; rfl) (fun f cdv A outer s H vs Q E hr h => ⟨_, (pss_cons (ps_set (i := 1) sc_worth_of.nd rfl (.inl rfl) (pe_callB (call_maxT rfl) (by rfl) T.b_max (by decide +kernel) (pa_cons (pv 0) pa_nil)))
    (pss_cons (ps_set (i := 2) sc_worth_of.nd rfl (.inl rfl) (pe_callB (call_minT rfl) (by rfl) T.b_min (by decide +kernel) (pa_cons (pv 0) pa_nil)))
    (pss_one (ps_ret (pe_op op_fdivW (pe_op op_sub (pe_op op_mulW (pv 1) (pv 1)) (pe_op op_mulW (pv 2) (pv 2))) (pe_op op_mulW (pv 1) (pv 2))))))), ?_⟩)
  obtain ⟨v, x, y, rfl, hp, ⟨hx1, hx2⟩, ⟨hy1, hy2⟩, q⟩ := h
  rw [show start ["pair", "great", "small"] [v] = [some (v), none, none] from rfl]
  have h0 := prod_pos hx1 hy1
  have h1 := prod_le (a := max x y) (b := min x y) (by omega) (by omega) (by omega) (by omega)
  walk_at "go"
  exact q _ (by walk_at "ex")
theorem u_worth_of {H : Hp} {Q : VK} {E : XK} {v : V} {x y : Int} (hp : Pr K H v x y) (hx : Gd x) (hy : Gd y) (q : ∀ H2, Ex H H2 → Q (.int (wt x y)) H2) : sp_worth_of K [v] H Q E := ⟨v, x, y, rfl, hp, hx, hy, q⟩
local macro_rules | `(tactic| walk_at "spcall") => `(tactic| ((with_reducible apply u_worth_of); (· walk_at "pr"); (· walk_at "gd"); (· walk_at "gd"); intro _ _))

/-! ### added -/
/-! ### adding without carrying -/
def xr (i j : Int) : Int := ((i.toNat ^^^ j.toNat : Nat) : Int)
def Bd (i : Int) : Prop := 0 ≤ i ∧ i < 1267650600228229401496703205376
theorem two100 : (2 : Nat) ^ 100 = 1267650600228229401496703205376 := by decide
theorem xor_mod2 (a b : Nat) : (a ^^^ b) % 2 = (a + b) % 2 := by
  have h := @Nat.xor_mod_two_pow a b 1
  rw [Nat.pow_one] at h
  rw [h]
  rcases Nat.mod_two_eq_zero_or_one a with h1 | h1 <;> rcases Nat.mod_two_eq_zero_or_one b with h2 | h2 <;> rw [h1, h2] <;> simp <;> omega
theorem xr_bd {i j : Int} (hi : Bd i) (hj : Bd j) : Bd (xr i j) := by
  have h1 : i.toNat < 2 ^ 100 := by rw [two100]; have := hi.1; have := hi.2; omega
  have h2 : j.toNat < 2 ^ 100 := by rw [two100]; have := hj.1; have := hj.2; omega
  have := Nat.xor_lt_two_pow h1 h2
  rw [two100] at this
  refine ⟨?_, ?_⟩ <;> unfold xr <;> omega
theorem xr_rec {a b : Int} (ha : 0 ≤ a) (hb : 0 ≤ b) : xr a b = 2 * xr (a / 2) (b / 2) + (if a % 2 = b % 2 then 0 else 1) := by
  obtain ⟨m, rfl⟩ := Int.eq_ofNat_of_zero_le ha
  obtain ⟨n, rfl⟩ := Int.eq_ofNat_of_zero_le hb
  show ((m ^^^ n : Nat) : Int) = 2 * (((m / 2) ^^^ (n / 2) : Nat) : Int) + _
  rw [← Nat.xor_div_two]
  have h := xor_mod2 m n
  generalize m ^^^ n = x at *
  split <;> omega
theorem xr_zero : xr 0 0 = 0 := rfl
theorem xr_comm (a b : Int) : xr a b = xr b a := by
  unfold xr
  rw [Nat.xor_comm]
def sp_added (K : PySem.W.Frag) : Sp := fun vs H Q _ => ∃ i j : Int, vs = [.int i, .int j] ∧ Bd i ∧ Bd j ∧ RetV (.int (xr i j)) H Q
theorem ok_added (F : Df K mg "added" s_added) (T : Txt K mg)  : Cl P w K mg base 1 "added" (sp_added K) := by
  refine cl_of (N := ["one", "other", "total", "figure"]) (ps := ["one", "other"]) F (fun _ _ _ _ _ _ us hl => match us, hl with | [_, _], _ => rfl) sc_added (fun vs H Q E h => by obtain ⟨_, _, rfl, _⟩ := h; rfl) (fun f cdv A outer s H vs Q E hr h => ⟨_, (pss_cons (ps_set (i := 2) sc_added.nd rfl (.inl rfl) pe_int)
    (pss_cons (ps_set (i := 3) sc_added.nd rfl (.inl rfl) pe_int)
    (pss_cons (ps_while PassesOwn.never (PW.pt (pw_or (pt_cmpR op_gt (pv 0) pe_int (nomark _)) (pw_or1 (pt_cmpR op_gt (pv 1) pe_int (nomark _))))) (pss_cons (ps_if (pt_cmpR op_ne (pe_op op_mod (pv 0) pe_int) (pe_op op_mod (pv 1) pe_int) (nomark _)) (pss_one (ps_set (i := 2) sc_added.nd rfl (.inl rfl) (pe_op op_add (pv 2) (pv 3)))) pss_nil)
    (pss_cons (ps_set (i := 0) sc_added.nd rfl (.inl rfl) (pe_op op_fdivW (pv 0) pe_int))
    (pss_cons (ps_set (i := 1) sc_added.nd rfl (.inl rfl) (pe_op op_fdivW (pv 1) pe_int))
    (pss_one (ps_set (i := 3) sc_added.nd rfl (.inl rfl) (pe_op op_mulW pe_int (pv 3))))))))
    (pss_one (ps_ret (pv 2)))))), ?_⟩)
  obtain ⟨i, j, rfl, ⟨hi0, hi1⟩, ⟨hj0, hj1⟩, q⟩ := h
  rw [show start ["one", "other", "total", "figure"] [.int i, .int j] = [some (.int i), some (.int j), none, none] from rfl]
  walk_at "go"
  refine d_while (fun m σ' H' => ∃ a b t f : Int, σ' = [some (.int a), some (.int b), some (.int t), some (.int f)] ∧ 0 ≤ a ∧ 0 ≤ b ∧ 0 < f ∧ f * (a + b) ≤ i + j ∧ t + f * xr a b = xr i j ∧ m = (a + b).toNat ∧ Ex H H') _
    ⟨i, j, 0, 1, rfl, hi0, hj0, by decide, by omega, by omega, rfl, Ex.refl _⟩ ?_
  rintro m σ' H' ⟨a, b, t, f, rfl, ha, hb, hf, hc, ht, rfl, e⟩
  refine ⟨decide (0 < a) || decide (0 < b), by walk_at "et", fun hb1 H3 e3 => ?_, fun hb1 H3 e3 => ?_⟩
  · simp at hb1
    have hf2 : f ≤ f * (a + b) := by
      have := Int.mul_le_mul_of_nonneg_left (show 1 ≤ a + b by omega) (Int.le_of_lt hf)
      omega
    have hc2 : 2 * f * (a / 2 + b / 2) ≤ i + j := by
      have := Int.mul_le_mul_of_nonneg_left (show 2 * (a / 2 + b / 2) ≤ a + b by omega) (Int.le_of_lt hf)
      have e1 : 2 * f * (a / 2 + b / 2) = f * (2 * (a / 2 + b / 2)) := by rw [Int.mul_comm 2 f, Int.mul_assoc]
      omega
    rw [xr_rec ha hb, Int.mul_add] at ht
    have e2 : f * (2 * xr (a / 2) (b / 2)) = 2 * f * xr (a / 2) (b / 2) := by rw [Int.mul_comm 2 f, Int.mul_assoc]
    rw [e2] at ht
    walk_at "go"
    walk_at "if"
    · intro hb2 H4 e4
      simp at hb2
      rw [if_neg hb2, Int.mul_one] at ht
      walk_at "go"
      exact ⟨(a / 2 + b / 2).toNat, by omega, _, _, _, _, rfl, by omega, by omega, by omega, hc2, by omega, rfl, by walk_at "ex"⟩
    · intro hb2 H4 e4
      simp at hb2
      rw [if_pos hb2, Int.mul_zero] at ht
      walk_at "go"
      exact ⟨(a / 2 + b / 2).toNat, by omega, _, _, _, _, rfl, by omega, by omega, by omega, hc2, by omega, rfl, by walk_at "ex"⟩
  · simp at hb1
    have a0 : a = 0 := by omega
    have b0 : b = 0 := by omega
    subst a0 b0
    rw [xr_zero, Int.mul_zero, Int.add_zero] at ht
    walk_at "go"
    rw [ht]
    exact q _ (by walk_at "ex")
theorem u_added {H : Hp} {Q : VK} {E : XK} {i j : Int} (hi : Bd i) (hj : Bd j) (q : ∀ H2, Ex H H2 → Q (.int (xr i j)) H2) : sp_added K [.int i, .int j] H Q E := ⟨i, j, rfl, hi, hj, q⟩
local macro_rules | `(tactic| walk_at "spcall") => `(tactic| ((with_reducible apply u_added); (· walk_at "bd"); (· walk_at "bd"); intro _ _))

/-! ### _law_cell_at -/
def cellL (ns : List Int) (k : Nat) : Int := ns.getD k 0
def sp__law_cell_at (K : PySem.W.Frag) : Sp := fun vs H Q _ => ∃ (a : Addr) (ns : List Int) (k : Nat), vs = [.ref a, .int (k : Int)] ∧ SqL K H a (ns.map V.int) ∧ RetV (.int (cellL ns k)) H Q
theorem ok__law_cell_at (F : Df K mg "_law_cell_at" s__law_cell_at) (T : Txt K mg)  : Cl P w K mg base 1 "_law_cell_at" (sp__law_cell_at K) := by
  refine cl_of (N := ["script", "k"]) (ps := ["script", "k"]) F (fun _ _ _ _ _ _ us hl => match us, hl with | [_, _], _ => rfl) sc__law_cell_at (fun vs H Q E h => by obtain ⟨_, _, _, rfl, _⟩ := h; rfl) (fun f cdv A outer s H vs Q E hr h => ⟨_, (pss_cons (ps_if (pt_cmpR op_lt (pv 1) (pe_callB call_lenL (by rfl) T.b_len (by decide +kernel) (pa_cons (pv 0) pa_nil)) (nomark _)) (pss_one (ps_ret (pe_ix ix_list (pv 0) (pv 1) (fun _ _ => rfl)))) pss_nil)
    (pss_one (ps_ret pe_int))), ?_⟩)
  obtain ⟨a, ns, k, rfl, hs, q⟩ := h
  rw [show start ["script", "k"] [.ref a, .int (k : Int)] = [some (.ref a), some (.int (k : Int))] from rfl]
  walk_at "go"
  walk_at "if"
  · intro hb H1 e1
    simp at hb
    walk_at "go"
    have hk : ns[k]? = some ns[k] := List.getElem?_eq_getElem hb
    refine d_ixL (xs := ns.map V.int) (v := .int (cellL ns k)) (by walk_at "sl") ?_ ?_
    · refine atI_nat ?_
      rw [List.getElem?_map, hk]
      unfold cellL
      rw [List.getD_eq_getElem?_getD, hk]
      rfl
    · exact q _ (by walk_at "ex")
  · intro hb H1 e1
    simp at hb
    walk_at "go"
    have e : cellL ns k = 0 := by
      unfold cellL
      rw [List.getD_eq_getElem?_getD, List.getElem?_eq_none (by omega)]
      rfl
    rw [e] at q
    exact q _ (by walk_at "ex")
theorem u_cell {H : Hp} {Q : VK} {E : XK} {a : Addr} {ns : List Int} {k : Int} (hs : SqL K H a (ns.map V.int)) (hk : 0 ≤ k) (q : ∀ H2, Ex H H2 → Q (.int (cellL ns k.toNat)) H2) : sp__law_cell_at K [.ref a, .int k] H Q E :=
  ⟨a, ns, k.toNat, by rw [Int.toNat_of_nonneg hk], hs, q⟩
local macro_rules | `(tactic| walk_at "spcall") => `(tactic| ((with_reducible apply u_cell); (· walk_at "sl"); (· omega); intro _ _))

/-! ### moves -/
def sp_moves (K : PySem.W.Frag) : Sp := fun vs H Q _ => ∃ v x y, vs = [v] ∧ Pr K H v x y ∧ Gd x ∧ Gd y ∧ RetV (.int (mvs x y)) H Q
theorem ok_moves (F : Df K mg "moves" s_moves) (T : Txt K mg) (c_asked_pair : Cl P w K mg base 1 "asked_pair" (sp_asked_pair K)) (c_moves_of : Cl P w K mg base 1 "moves_of" (sp_moves_of K)) : Cl P w K mg base 2 "moves" (sp_moves K) := by
  refine cl_of (N := ["pair"]) (ps := ["pair"]) F (fun _ _ _ _ _ _ us hl => match us, hl with | [_], _ => rfl) sc_moves (fun vs H Q E h => by obtain ⟨_, _, _, rfl, _⟩ := h; rfl) (fun f cdv A outer s H vs Q E hr h => ⟨_, (pss_cons (ps_expr (pe_cl c_asked_pair hr (by decide) (by rfl) (pa_cons (pv 0) pa_nil)))
    (pss_one (ps_ret (pe_cl c_moves_of hr (by decide) (by rfl) (pa_cons (pv 0) pa_nil))))), ?_⟩)
  obtain ⟨v, x, y, rfl, hp, hx, hy, q⟩ := h
  rw [show start ["pair"] [v] = [some (v)] from rfl]
  walk_at "go"
  exact q _ (by walk_at "ex")
theorem u_moves {H : Hp} {Q : VK} {E : XK} {v : V} {x y : Int} (hp : Pr K H v x y) (hx : Gd x) (hy : Gd y) (q : ∀ H2, Ex H H2 → Q (.int (mvs x y)) H2) : sp_moves K [v] H Q E := ⟨v, x, y, rfl, hp, hx, hy, q⟩
local macro_rules | `(tactic| walk_at "spcall") => `(tactic| ((with_reducible apply u_moves); (· walk_at "pr"); (· walk_at "gd"); (· walk_at "gd"); intro _ _))

/-! ### leading_of -/
/-! ### worths by quotient and rest -/
theorem noeq_nat : ∀ (n : Nat) (s r k : Int), r.toNat < n → 0 < r → r < s → 0 ≤ k → r * (k * s + r) ≠ s * s
  | 0, _, _, _, h, _, _, _ => absurd h (Nat.not_lt_zero _)
  | n + 1, s, r, k, h, h0, h1, hk => fun e => by
    -- t = s - k r; r * r = s * t
    have e1 : r * r = s * (s - k * r) := by
      rw [Int.mul_sub, ← e, Int.mul_add]
      have : r * (k * s) = s * (k * r) := by rw [← Int.mul_assoc, Int.mul_comm r k, Int.mul_comm (k * r) s]
      omega
    generalize ht : s - k * r = t at e1
    have t0 : 0 < t := by
      have h2 : 0 < s * t := by rw [← e1]; exact Int.mul_pos h0 h0
      exact Int.pos_of_mul_pos_right h2 (by omega) |> fun z => z
    have t1 : t < r := by
      have h2 : r * r < s * r := Int.mul_lt_mul_of_pos_right h1 h0
      rw [e1] at h2
      exact Int.lt_of_mul_lt_mul_left h2 (by omega)
    refine noeq_nat n r t k (by omega) t0 t1 hk ?_
    have es : s = k * r + t := by omega
    rw [es] at e1
    rw [e1, Int.mul_comm]
theorem noeq {s r k : Int} (h0 : 0 < r) (h1 : r < s) (hk : 0 ≤ k) : r * (k * s + r) ≠ s * s := noeq_nat (r.toNat + 1) s r k (Nat.lt_succ_self _) h0 h1 hk
/-- the worth of the pair k * s + r, s -/
def lv (s r k : Int) : Int := if r = 0 then k - 1 else if k = 0 then wt s r else if wt s r < k then k else k - 1
theorem wt_lv {s r k : Int} (hs : 0 < s) (hr : 0 ≤ r) (hr2 : r < s) (hk : 0 ≤ k) (hk2 : r = 0 → 1 ≤ k) : wt (k * s + r) s = lv s r k := by
  by_cases k0 : k = 0
  · have r0 : r ≠ 0 := fun z => by have := hk2 z; omega
    subst k0
    unfold lv
    rw [if_neg r0, if_pos rfl, Int.zero_mul, Int.zero_add, wt_comm]
  · have g1 : s ≤ k * s := by
      have := Int.mul_le_mul_of_nonneg_right (show 1 ≤ k by omega) (Int.le_of_lt hs)
      omega
    generalize hg : k * s + r = g
    have gs : s ≤ g := by omega
    have hgs : 0 < g * s := Int.mul_pos (by omega) hs
    have e1 : g * g - s * s = (g * r - s * s) + g * s * k := by
      have : g * g = g * (k * s + r) := by rw [hg]
      rw [this, Int.mul_add]
      have : g * (k * s) = g * s * k := by rw [Int.mul_comm k s, Int.mul_assoc]
      omega
    have e2 : wt g s = k + (g * r - s * s) / (g * s) := by
      unfold wt
      rw [show max g s = g by omega, show min g s = s by omega, e1, Int.add_mul_ediv_left _ _ (by omega)]
      omega
    have grs : g * r < g * s := Int.mul_lt_mul_of_pos_left hr2 (by omega)
    have ssg : s * s ≤ g * s := Int.mul_le_mul_of_nonneg_right gs (by omega)
    have ss0 : 0 < s * s := Int.mul_pos hs hs
    have gr0 : 0 ≤ g * r := Int.mul_nonneg (by omega) hr
    have hi : s * s ≤ g * r → wt g s = k := fun c => by
      rw [e2, Int.ediv_eq_zero_of_lt (by omega) (by omega)]
      omega
    have lo : ¬ s * s ≤ g * r → wt g s = k - 1 := fun c => by
      have e3 : (g * r - s * s) / (g * s) = -1 := by
        have e4 : g * r - s * s = (g * r - s * s + g * s) + g * s * (-1) := by omega
        rw [e4, Int.add_mul_ediv_left _ _ (by omega), Int.ediv_eq_zero_of_lt (by omega) (by omega)]
        rfl
      rw [e2, e3]
      omega
    unfold lv
    by_cases r0 : r = 0
    · rw [if_pos r0]
      refine lo ?_
      rw [r0, Int.mul_zero]
      omega
    · rw [if_neg r0, if_neg k0]
      have hr0 : 0 < r := by omega
      have hsr : 0 < s * r := Int.mul_pos hs hr0
      have w1 : wt s r = (s * s - r * r) / (s * r) := by
        unfold wt
        rw [show max s r = s by omega, show min s r = r by omega]
      have key : wt s r < k ↔ s * s < g * r := by
        rw [w1, Int.ediv_lt_iff_lt_mul hsr]
        have : k * (s * r) = g * r - r * r := by
          rw [← hg, Int.add_mul, ← Int.mul_assoc]
          omega
        omega
      have ne : g * r ≠ s * s := by
        have := noeq hr0 hr2 hk
        rw [hg, Int.mul_comm] at this
        exact this
      by_cases c : wt s r < k
      · rw [if_pos c]
        exact hi (by have := key.mp c; omega)
      · rw [if_neg c]
        exact lo (fun z => c (key.mpr (by omega)))
theorem lv_low {s r : Int} (hs : 0 < s) (hr : 0 ≤ r) (hr2 : r < s) : r = 0 ∨ 0 ≤ wt s r := by
  by_cases c : r = 0
  · exact .inl c
  · exact .inr (wt_nonneg (by omega) (by omega))
theorem lv_inj {s r k k' : Int} (hw : r = 0 ∨ 0 ≤ wt s r) (hk : 0 ≤ k) (hk' : 0 ≤ k') (h1 : r = 0 → 1 ≤ k) (h2 : r = 0 → 1 ≤ k') (e : lv s r k = lv s r k') : k = k' := by
  unfold lv at e
  by_cases c : r = 0
  · rw [if_pos c, if_pos c] at e; omega
  · rw [if_neg c, if_neg c] at e
    have hw2 : 0 ≤ wt s r := hw.resolve_left c
    generalize wt s r = w at *
    split at e <;> split at e <;> (try split at e) <;> (try split at e) <;> omega
theorem lv_nonneg {s r k : Int} (hw : r = 0 ∨ 0 ≤ wt s r) (hk : 0 ≤ k) (h1 : r = 0 → 1 ≤ k) : 0 ≤ lv s r k := by
  unfold lv
  by_cases c : r = 0
  · rw [if_pos c]; have := h1 c; omega
  · rw [if_neg c]
    have hw2 : 0 ≤ wt s r := hw.resolve_left c
    split
    · exact hw2
    · split <;> omega
theorem lv_surj {s r q n : Int} (hw : r = 0 ∨ 0 ≤ wt s r) (hq : 1 ≤ q) (hn : 0 ≤ n) (h : n < lv s r q) : ∃ k, 0 ≤ k ∧ k < q ∧ (r = 0 → 1 ≤ k) ∧ lv s r k = n := by
  unfold lv at h
  by_cases c : r = 0
  · rw [if_pos c] at h
    refine ⟨n + 1, by omega, by omega, fun _ => by omega, ?_⟩
    unfold lv
    rw [if_pos c]
    omega
  · rw [if_neg c, if_neg (by omega)] at h
    have hw2 : 0 ≤ wt s r := hw.resolve_left c
    have form : ∀ k, lv s r k = if k = 0 then wt s r else if wt s r < k then k else k - 1 := fun k => by unfold lv; rw [if_neg c]
    generalize hwt : wt s r = w at *
    by_cases d : n < w
    · refine ⟨n + 1, by omega, ?_, fun z => absurd z c, ?_⟩
      · split at h <;> omega
      · rw [form, if_neg (by omega), if_neg (by omega)]
        omega
    · by_cases e : n = w
      · refine ⟨0, by omega, by omega, fun z => absurd z c, ?_⟩
        rw [form, if_pos rfl, e]
      · refine ⟨n, hn, ?_, fun z => absurd z c, ?_⟩
        · split at h <;> omega
        · rw [form, if_neg (by omega), if_pos (by omega)]
theorem lv_greater {s r q k : Int} (hw : r = 0 ∨ 0 ≤ wt s r) (hk : 0 ≤ k) (hkq : k < q) (h : lv s r q < lv s r k) : k = 0 := by
  unfold lv at h
  by_cases c : r = 0
  · rw [if_pos c, if_pos c] at h; omega
  · rw [if_neg c, if_neg c] at h
    generalize wt s r = w at *
    split at h <;> split at h <;> (try split at h) <;> (try split at h) <;> omega
theorem lv_at {s r k : Int} : k = lv s r k ∨ k = lv s r k + 1 ∨ k = 0 := by
  unfold lv
  split
  · omega
  · split
    · omega
    · split <;> omega
/-! ### moves and their worths -/
/-- the worth behind a move -/
def wtb (x y t : Int) : Int := wt (bh x y t).1 (bh x y t).2
structure Qr (x y s r q : Int) : Prop where
  hs : 0 < s
  hr : 0 ≤ r
  hr2 : r < s
  hq : 1 ≤ q
  hq0 : max x y / min x y = q
  own : wt x y = lv s r q
  mv : mvs x y = q - (if r = 0 then 1 else 0)
  bt : ∀ t, 1 ≤ t → t ≤ mvs x y → wtb x y t = lv s r (q - t)
theorem qr_of {x y : Int} (hx : 1 ≤ x) (hy : 1 ≤ y) : Qr x y (min x y) (max x y % min x y) (max x y / min x y) := by
  have hs : 0 < min x y := by omega
  have h1 := Int.emod_add_mul_ediv (max x y) (min x y)
  have h2 := Int.emod_nonneg (max x y) (by omega : min x y ≠ 0)
  have h3 := Int.emod_lt_of_pos (max x y) hs
  have hq : 1 ≤ max x y / min x y := by
    rw [Int.le_ediv_iff_mul_le hs]
    omega
  have hmv : mvs x y = max x y / min x y - (if max x y % min x y = 0 then 1 else 0) := by
    unfold mvs
    generalize hM : max x y = M at *
    generalize hm : min x y = m at *
    generalize M / m = q at *
    by_cases c : M % m = 0
    · rw [if_pos c]
      rw [c] at h1
      have e : M - 1 = (m - 1) + m * (q - 1) := by rw [Int.mul_sub]; omega
      rw [e, Int.add_mul_ediv_left _ _ (by omega), Int.ediv_eq_zero_of_lt (by omega) (by omega)]
      omega
    · rw [if_neg c]
      have e : M - 1 = (M % m - 1) + m * q := by omega
      rw [e, Int.add_mul_ediv_left _ _ (by omega), Int.ediv_eq_zero_of_lt (by omega) (by omega)]
      omega
  have hk2 : ∀ t, t ≤ mvs x y → max x y % min x y = 0 → 1 ≤ max x y / min x y - t := fun t ht c => by
    rw [hmv, if_pos c] at ht
    omega
  have hk : ∀ t, t ≤ mvs x y → 0 ≤ max x y / min x y - t := fun t ht => by
    rw [hmv] at ht
    split at ht <;> omega
  refine ⟨hs, h2, h3, hq, rfl, ?_, hmv, fun t h5 h6 => ?_⟩
  · have e := wt_lv hs h2 h3 (show 0 ≤ max x y / min x y by omega) fun _ => hq
    rw [← e]
    have e2 : max x y / min x y * min x y + max x y % min x y = max x y := by
      rw [Int.mul_comm]
      omega
    rw [e2]
    by_cases c : x ≤ y
    · rw [show max x y = y by omega, show min x y = x by omega, wt_comm]
    · rw [show max x y = x by omega, show min x y = y by omega]
  · have e := wt_lv hs h2 h3 (hk t h6) (hk2 t h6)
    rw [← e]
    have e2 : (max x y / min x y - t) * min x y + max x y % min x y = max x y - t * min x y := by
      rw [Int.sub_mul, Int.mul_comm (max x y / min x y)]
      omega
    rw [e2]
    unfold wtb bh
    by_cases c : y < x
    · rw [if_pos c, show max x y = x by omega, show min x y = y by omega]
    · rw [if_neg c, show max x y = y by omega, show min x y = x by omega, wt_comm]
theorem Qr.k0 {x y s r q t : Int} (h : Qr x y s r q) (h1 : 1 ≤ t) (h2 : t ≤ mvs x y) : 0 ≤ q - t ∧ (r = 0 → 1 ≤ q - t) := by
  rw [h.mv] at h2
  refine ⟨by split at h2 <;> omega, fun c => ?_⟩
  rw [if_pos c] at h2
  omega
theorem Qr.low {x y s r q : Int} (h : Qr x y s r q) : r = 0 ∨ 0 ≤ wt s r := lv_low h.hs h.hr h.hr2
/-- no two moves lead to one worth -/
theorem wtb_inj {x y t u : Int} (hx : 1 ≤ x) (hy : 1 ≤ y) (h1 : 1 ≤ t) (h2 : t ≤ mvs x y) (h3 : 1 ≤ u) (h4 : u ≤ mvs x y) (e : wtb x y t = wtb x y u) : t = u := by
  have h := qr_of hx hy
  generalize min x y = s at h
  generalize max x y % s = r at h
  generalize max x y / s = q at h
  rw [h.bt t h1 h2, h.bt u h3 h4] at e
  have := lv_inj h.low (h.k0 h1 h2).1 (h.k0 h3 h4).1 (h.k0 h1 h2).2 (h.k0 h3 h4).2 e
  omega
/-- none leads to the pair's own -/
theorem wtb_ne {x y t : Int} (hx : 1 ≤ x) (hy : 1 ≤ y) (h1 : 1 ≤ t) (h2 : t ≤ mvs x y) : wtb x y t ≠ wt x y := fun e => by
  have h := qr_of hx hy
  generalize min x y = s at h
  generalize max x y % s = r at h
  generalize max x y / s = q at h
  rw [h.bt t h1 h2, h.own] at e
  have := lv_inj h.low (h.k0 h1 h2).1 (by have := h.hq; omega) (h.k0 h1 h2).2 (fun _ => h.hq) e
  omega
/-- each lesser worth is led to -/
theorem wtb_surj {x y n : Int} (hx : 1 ≤ x) (hy : 1 ≤ y) (h0 : 0 ≤ n) (h1 : n < wt x y) : ∃ t, 1 ≤ t ∧ t ≤ mvs x y ∧ wtb x y t = n := by
  have h := qr_of hx hy
  generalize min x y = s at h
  generalize max x y % s = r at h
  generalize max x y / s = q at h
  rw [h.own] at h1
  obtain ⟨k, k0, k1, k2, k3⟩ := lv_surj h.low h.hq h0 h1
  have hm := h.mv
  have ht : q - k ≤ mvs x y := by
    rw [hm]
    split
    · rename_i c
      have := k2 c
      omega
    · omega
  refine ⟨q - k, by omega, ht, ?_⟩
  rw [h.bt _ (by omega) ht, show q - (q - k) = k by omega]
  exact k3
/-- at most one leads to a greater one -/
theorem wtb_greater {x y t u : Int} (hx : 1 ≤ x) (hy : 1 ≤ y) (h1 : 1 ≤ t) (h2 : t ≤ mvs x y) (h3 : 1 ≤ u) (h4 : u ≤ mvs x y) (g1 : wt x y < wtb x y t) (g2 : wt x y < wtb x y u) : t = u := by
  have h := qr_of hx hy
  generalize min x y = s at h
  generalize max x y % s = r at h
  generalize max x y / s = q at h
  rw [h.bt t h1 h2, h.own] at g1
  rw [h.bt u h3 h4, h.own] at g2
  have := lv_greater h.low (h.k0 h1 h2).1 (by omega) g1
  have := lv_greater h.low (h.k0 h3 h4).1 (by omega) g2
  omega
theorem wtb_nonneg {x y t : Int} (hx : 1 ≤ x) (hy : 1 ≤ y) (h1 : 1 ≤ t) (h2 : t ≤ mvs x y) : 0 ≤ wtb x y t := by
  have h := qr_of hx hy
  generalize min x y = s at h
  generalize max x y % s = r at h
  generalize max x y / s = q at h
  rw [h.bt t h1 h2]
  exact lv_nonneg h.low (h.k0 h1 h2).1 (h.k0 h1 h2).2
/-- where the move is found -/
theorem wtb_at {x y t : Int} (hx : 1 ≤ x) (hy : 1 ≤ y) (h1 : 1 ≤ t) (h2 : t ≤ mvs x y) : t = max x y / min x y - wtb x y t ∨ t = max x y / min x y - (wtb x y t + 1) ∨ t = max x y / min x y - 0 := by
  have h := qr_of hx hy
  have hq0 := h.hq0
  generalize min x y = s at *
  generalize max x y % s = r at *
  generalize max x y / s = q at *
  rw [h.bt t h1 h2]
  have := @lv_at s r (q - t)
  omega

/-- what leads to a worth -/
def optV : Option Int → V
  | some t => .int t
  | none => .non
def ldOk (x y aim left : Int) : Bool := decide (1 ≤ max x y / min x y - left ∧ max x y / min x y - left ≤ mvs x y ∧ wtb x y (max x y / min x y - left) = aim)
def ld (x y aim : Int) : Option Int := if ldOk x y aim aim = true then some (max x y / min x y - aim) else if ldOk x y aim (aim + 1) = true then some (max x y / min x y - (aim + 1)) else if ldOk x y aim 0 = true then some (max x y / min x y - 0) else none
theorem ld_some {x y aim t : Int} (h : ld x y aim = some t) : 1 ≤ t ∧ t ≤ mvs x y ∧ wtb x y t = aim := by
  unfold ld at h
  split at h
  · rename_i c
    cases h
    exact of_decide_eq_true c
  · split at h
    · rename_i c
      cases h
      exact of_decide_eq_true c
    · split at h
      · rename_i c
        cases h
        exact of_decide_eq_true c
      · cases h
theorem ld_none {x y aim : Int} (hx : 1 ≤ x) (hy : 1 ≤ y) (h : ld x y aim = none) : ∀ t, 1 ≤ t → t ≤ mvs x y → wtb x y t ≠ aim := fun t h1 h2 e => by
  unfold ld at h
  split at h
  · cases h
  · rename_i c1
    split at h
    · cases h
    · rename_i c2
      split at h
      · cases h
      · rename_i c3
        have yes : ∀ left, t = max x y / min x y - left → ldOk x y aim left = true := fun left z => decide_eq_true (by rw [← z]; exact ⟨h1, h2, e⟩)
        rcases wtb_at hx hy h1 h2 with z | z | z
        · rw [e] at z; exact c1 (yes _ z)
        · rw [e] at z; exact c2 (yes _ z)
        · exact c3 (yes _ z)
theorem ld_of {x y aim t : Int} (hx : 1 ≤ x) (hy : 1 ≤ y) (h1 : 1 ≤ t) (h2 : t ≤ mvs x y) (e : wtb x y t = aim) : ld x y aim = some t := by
  cases h : ld x y aim with
  | none => exact absurd e (ld_none hx hy h t h1 h2)
  | some u =>
    obtain ⟨a, b, c⟩ := ld_some h
    rw [wtb_inj hx hy h1 h2 a b (by rw [e, c])]
def sp_leading_of (K : PySem.W.Frag) : Sp := fun vs H Q _ => ∃ v x y aim, vs = [v, .int aim] ∧ Pr K H v x y ∧ Gd x ∧ Gd y ∧ RetV (optV (ld x y aim)) H Q
theorem ok_leading_of (F : Df K mg "leading_of" s_leading_of) (T : Txt K mg) (c_moves_of : Cl P w K mg base 1 "moves_of" (sp_moves_of K)) (c_behind : Cl P w K mg base 1 "behind" (sp_behind K)) (c_worth_of : Cl P w K mg base 1 "worth_of" (sp_worth_of K)) : Cl P w K mg base 2 "leading_of" (sp_leading_of K) := by
  refine cl_of (N := ["pair", "aim", "most", "quotient", "left", "times"]) (ps := ["pair", "aim"]) F (fun _ _ _ _ _ _ us hl => match us, hl with | [_, _], _ => rfl) sc_leading_of (fun vs H Q E h => by obtain ⟨_, _, _, _, rfl, _⟩ := h; rfl) (fun f cdv A outer s H vs Q E hr h => ⟨_, (pss_cons (ps_set (i := 2) sc_leading_of.nd rfl (.inl rfl) (pe_cl c_moves_of hr (by decide) (by rfl) (pa_cons (pv 0) pa_nil)))
    (pss_cons (ps_set (i := 3) sc_leading_of.nd rfl (.inl rfl) (pe_op op_fdivW (pe_callB (call_maxT rfl) (by rfl) T.b_max (by decide +kernel) (pa_cons (pv 0) pa_nil)) (pe_callB (call_minT rfl) (by rfl) T.b_min (by decide +kernel) (pa_cons (pv 0) pa_nil))))
    (pss_cons (ps_for PassesOwn.never rfl (pi_tup (pe_tup (pa_cons (pv 1) (pa_cons (pe_op op_add (pv 1) pe_int) (pa_cons pe_int pa_nil))))) (pg_name (i := 4) sc_leading_of.nd rfl (.inl rfl)) (pss_cons (ps_set (i := 5) sc_leading_of.nd rfl (.inl rfl) (pe_op op_sub (pv 3) (pv 4)))
    (pss_one (ps_if (PW.pt (pw_and (pt_chain op_le op_le pe_int (pv 5) (pv 2)) (pw_and1 (pt_cmpR op_eq (pe_cl c_worth_of hr (by decide) (by rfl) (pa_cons (pe_cl c_behind hr (by decide) (by rfl) (pa_cons (pv 0) (pa_cons (pv 5) pa_nil))) pa_nil)) (pv 1) (nomark _))))) (pss_one (ps_ret (pv 5))) pss_nil))))
    (pss_one (ps_ret pe_non))))), ?_⟩)
  obtain ⟨v, x, y, aim, rfl, hp, ⟨hx1, hx2⟩, ⟨hy1, hy2⟩, q⟩ := h
  rw [show start ["pair", "aim", "most", "quotient", "left", "times"] [v, .int aim] = [some (v), some (.int aim), none, none, none, none] from rfl]
  walk_at "go"
  rename_i H1 e1
  refine d_forU (xs := [.int aim, .int (aim + 1), .int 0]) (by walk_at "eu") (fun H2 i σ' H' => Ex H2 H' ∧ (∃ z z2, σ' = [some v, some (.int aim), some (.int (mvs x y)), some (.int (max x y / min x y)), z, z2]) ∧
      ∀ j < i, ∀ l, ([.int aim, .int (aim + 1), .int 0] : List V)[j]? = some (.int l) → ldOk x y aim l = false)
    (fun H2 e2 => ⟨Ex.refl _, ⟨_, _, rfl⟩, fun j hj => absurd hj (Nat.not_lt_zero j)⟩) (fun H2 i σ' H' h => h.1) ?_ ?_
  · rintro H2 i xv σ' H' e2 hi ⟨e3, ⟨z, z2, rfl⟩, hj⟩
    obtain ⟨l, rfl⟩ : ∃ l, xv = .int l := by
      match i, hi with
      | 0, hi => exact ⟨_, (Option.some.inj hi).symm⟩
      | 1, hi => exact ⟨_, (Option.some.inj hi).symm⟩
      | 2, hi => exact ⟨_, (Option.some.inj hi).symm⟩
    walk_at "nx"
    walk_at "go"
    walk_at "if"
    · intro hb H4 e4
      simp at hb
      have hld : ld x y aim = some (max x y / min x y - l) := ld_of hx1 hy1 hb.1.1 hb.1.2 hb.2
      rw [hld] at q
      walk_at "go"
      exact q _ (by walk_at "ex")
    · intro hb H4 e4
      refine ⟨by walk_at "ex", ⟨_, _, rfl⟩, fun j hj2 l' hl' => ?_⟩
      by_cases c : j = i
      · subst c
        rw [hi] at hl'
        cases hl'
        refine decide_eq_false fun z => ?_
        obtain ⟨z1, z2, z3⟩ := z
        unfold wtb at z3
        simp [z1, z2, z3] at hb
      · exact hj j (by omega) l' hl'
  · rintro H2 σ' H' e2 ⟨e3, ⟨z, z2, rfl⟩, hj⟩
    have hld : ld x y aim = none := by
      unfold ld
      rw [hj 0 (by simp) _ rfl, hj 1 (by simp) _ rfl, hj 2 (by simp) _ rfl]
      rfl
    rw [hld] at q
    walk_at "go"
    exact q _ (by walk_at "ex")
theorem u_leading_of {H : Hp} {Q : VK} {E : XK} {v : V} {x y aim : Int} (hp : Pr K H v x y) (hx : Gd x) (hy : Gd y) (q : ∀ H2, Ex H H2 → Q (optV (ld x y aim)) H2) : sp_leading_of K [v, .int aim] H Q E := ⟨v, x, y, aim, rfl, hp, hx, hy, q⟩
local macro_rules | `(tactic| walk_at "spcall") => `(tactic| ((with_reducible apply u_leading_of); (· walk_at "pr"); (· walk_at "gd"); (· walk_at "gd"); intro _ _))

/-! ### asked_table -/
def sp_asked_table (K : PySem.W.Frag) : Sp := fun vs H Q _ => ∃ v T, vs = [v] ∧ Tb K H v T ∧ T.length ≤ 6 ∧ GdT T ∧ RetV .non H Q
theorem ok_asked_table (F : Df K mg "asked_table" s_asked_table) (T : Txt K mg) (c_asked_pair : Cl P w K mg base 1 "asked_pair" (sp_asked_pair K)) : Cl P w K mg base 2 "asked_table" (sp_asked_table K) := by
  refine cl_of (N := ["table", "pair"]) (ps := ["table"]) F (fun _ _ _ _ _ _ us hl => match us, hl with | [_], _ => rfl) sc_asked_table (fun vs H Q E h => by obtain ⟨_, _, rfl, _⟩ := h; rfl) (fun f cdv A outer s H vs Q E hr h => ⟨_, (pss_cons (ps_if (pt_cmpR op_gt (pe_callB call_lenL (by rfl) T.b_len (by decide +kernel) (pa_cons (pv 0) pa_nil)) (pe_gc (by rfl) T.g_MOST) (nomark _)) (pss_one ps_never) pss_nil)
    (pss_one (ps_for PassesOwn.never rfl (pi_list (pv 0)) (pg_name (i := 1) sc_asked_table.nd rfl (.inl rfl)) (pss_one (ps_expr (pe_cl c_asked_pair hr (by decide) (by rfl) (pa_cons (pv 1) pa_nil))))))), ?_⟩)
  obtain ⟨v, T, rfl, hT, hl, hG, q⟩ := h
  rw [show start ["table", "pair"] [v] = [some (v), none] from rfl]
  walk_at "go"
  walk_at "if"
  · intro hb
    simp at hb
    omega
  · intro hb H1 e1
    walk_at "go"
    refine d_forT (T := T) (by walk_at "ev") (by walk_at "tb") (fun i σ' H' => Ex H1 H' ∧ ∃ z, σ' = [some v, z]) (fun H2 e2 => ⟨e2, _, rfl⟩) (fun i σ' H' h => h.1) ?_ ?_
    · rintro i w p σ' H' hi hp ⟨e2, z, rfl⟩
      obtain ⟨g1, g2⟩ := hG p (List.mem_of_getElem? hi)
      walk_at "nx"
      walk_at "go"
      exact ⟨by walk_at "ex", _, rfl⟩
    · rintro σ' H' ⟨e2, z, rfl⟩
      exact q _ (by walk_at "ex")
theorem u_asked_table {H : Hp} {Q : VK} {E : XK} {v : V} {T : List (Int × Int)} (hT : Tb K H v T) (hl : T.length ≤ 6) (hG : GdT T) (q : ∀ H2, Ex H H2 → Q .non H2) : sp_asked_table K [v] H Q E := ⟨v, T, rfl, hT, hl, hG, q⟩
local macro_rules | `(tactic| walk_at "spcall") => `(tactic| ((with_reducible apply u_asked_table); (· walk_at "tb"); (· assumption); (· assumption); intro _ _))

/-! ### _law_small_by -/
def sp__law_small_by (K : PySem.W.Frag) : Sp := fun vs H Q _ => ∃ (a : Addr) (ns : List Int) (n m : Int), vs = [.ref a, .int n, .int m] ∧ SqL K H a (ns.map V.int) ∧ 0 ≤ n ∧ 1 ≤ m ∧ m ≤ 100 ∧
  ∀ v H' x y, Ex H H' → PrS H' v x y → 1 ≤ x → x ≤ m → 1 ≤ y → y ≤ m → Q v H'
theorem ok__law_small_by (F : Df K mg "_law_small_by" s__law_small_by) (T : Txt K mg) (c__law_cell_at : Cl P w K mg base 1 "_law_cell_at" (sp__law_cell_at K)) : Cl P w K mg base 2 "_law_small_by" (sp__law_small_by K) := by
  refine cl_of (N := ["script", "at", "most", "one", "other"]) (ps := ["script", "at", "most"]) F (fun _ _ _ _ _ _ us hl => match us, hl with | [_, _, _], _ => rfl) sc__law_small_by (fun vs H Q E h => by obtain ⟨_, _, _, _, rfl, _⟩ := h; rfl) (fun f cdv A outer s H vs Q E hr h => ⟨_, (pss_cons (ps_set (i := 3) sc__law_small_by.nd rfl (.inl rfl) (pe_op op_add pe_int (pe_op op_mod (pe_cl c__law_cell_at hr (by decide) (by rfl) (pa_cons (pv 0) (pa_cons (pv 1) pa_nil))) (pv 2))))
    (pss_cons (ps_set (i := 4) sc__law_small_by.nd rfl (.inl rfl) (pe_op op_add pe_int (pe_op op_mod (pe_cl c__law_cell_at hr (by decide) (by rfl) (pa_cons (pv 0) (pa_cons (pe_op op_add (pv 1) pe_int) pa_nil))) (pv 2))))
    (pss_one (ps_ret (pe_tup (pa_cons (pv 3) (pa_cons (pv 4) pa_nil))))))), ?_⟩)
  obtain ⟨a, ns, n, m, rfl, hs, hn, hm, hm2, q⟩ := h
  rw [show start ["script", "at", "most", "one", "other"] [.ref a, .int n, .int m] = [some (.ref a), some (.int n), some (.int m), none, none] from rfl]
  walk_at "go"
  have r0 := Int.emod_nonneg (cellL ns n.toNat) (show m ≠ 0 by omega)
  have r1 := Int.emod_lt_of_pos (cellL ns n.toNat) (show 0 < m by omega)
  have r2 := Int.emod_nonneg (cellL ns (n + 1).toNat) (show m ≠ 0 by omega)
  have r3 := Int.emod_lt_of_pos (cellL ns (n + 1).toNat) (show 0 < m by omega)
  exact q _ _ _ _ (by walk_at "ex") (by walk_at "ps") (by omega) (by omega) (by omega) (by omega)
theorem u_small_by {H : Hp} {Q : VK} {E : XK} {a : Addr} {ns : List Int} {n m : Int} (hs : SqL K H a (ns.map V.int)) (hn : 0 ≤ n) (hm : 1 ≤ m) (hm2 : m ≤ 100) (q : ∀ v H' x y, Ex H H' → PrS H' v x y → 1 ≤ x → x ≤ m → 1 ≤ y → y ≤ m → Q v H') :
    sp__law_small_by K [.ref a, .int n, .int m] H Q E := ⟨a, ns, n, m, rfl, hs, hn, hm, hm2, q⟩
local macro_rules | `(tactic| walk_at "spcall") => `(tactic| ((with_reducible apply u_small_by); (· walk_at "sl"); (· omega); (· omega); (· omega); intro _ _ _ _ _ _ _ _ _ _))

/-! ### together -/
/-! ### a table's worth -/
def nimT (T : List (Int × Int)) : Int := T.foldl (fun t p => xr t (wt p.1 p.2)) 0
theorem wt_bd {x y : Int} (hx : Gd x) (hy : Gd y) : Bd (wt x y) := ⟨wt_nonneg hx.1 hy.1, by have := wt_le hx hy; omega⟩
theorem nimT_bd_go : ∀ (T : List (Int × Int)) (t : Int), Bd t → GdT T → Bd (T.foldl (fun t p => xr t (wt p.1 p.2)) t)
  | [], _, h, _ => h
  | p :: T, t, h, g => nimT_bd_go T _ (xr_bd h (wt_bd (g p List.mem_cons_self).1 (g p List.mem_cons_self).2)) fun q hq => g q (List.mem_cons_of_mem _ hq)
theorem nimT_bd {T : List (Int × Int)} (g : GdT T) : Bd (nimT T) := nimT_bd_go T 0 ⟨by decide, by decide⟩ g
theorem nimT_take {T : List (Int × Int)} {i : Nat} {p : Int × Int} (h : T[i]? = some p) : nimT (T.take (i + 1)) = xr (nimT (T.take i)) (wt p.1 p.2) := by
  unfold nimT
  rw [take_succ' h, List.foldl_append]
  rfl
theorem GdT.take {T : List (Int × Int)} (g : GdT T) (n : Nat) : GdT (T.take n) := fun p hp => g p (List.mem_of_mem_take hp)

def sp_together (K : PySem.W.Frag) : Sp := fun vs H Q _ => ∃ v T, vs = [v] ∧ Tb K H v T ∧ T.length ≤ 6 ∧ GdT T ∧ RetV (.int (nimT T)) H Q
theorem ok_together (F : Df K mg "together" s_together) (T : Txt K mg) (c_worth_of : Cl P w K mg base 1 "worth_of" (sp_worth_of K)) (c_asked_table : Cl P w K mg base 2 "asked_table" (sp_asked_table K)) (c_added : Cl P w K mg base 1 "added" (sp_added K)) : Cl P w K mg base 3 "together" (sp_together K) := by
  refine cl_of (N := ["table", "total", "pair"]) (ps := ["table"]) F (fun _ _ _ _ _ _ us hl => match us, hl with | [_], _ => rfl) sc_together (fun vs H Q E h => by obtain ⟨_, _, rfl, _⟩ := h; rfl) (fun f cdv A outer s H vs Q E hr h => ⟨_, (pss_cons (ps_expr (pe_cl c_asked_table hr (by decide) (by rfl) (pa_cons (pv 0) pa_nil)))
    (pss_cons (ps_set (i := 1) sc_together.nd rfl (.inl rfl) pe_int)
    (pss_cons (ps_for PassesOwn.never rfl (pi_list (pv 0)) (pg_name (i := 2) sc_together.nd rfl (.inl rfl)) (pss_one (ps_set (i := 1) sc_together.nd rfl (.inl rfl) (pe_cl c_added hr (by decide) (by rfl) (pa_cons (pv 1) (pa_cons (pe_cl c_worth_of hr (by decide) (by rfl) (pa_cons (pv 2) pa_nil)) pa_nil))))))
    (pss_one (ps_ret (pv 1)))))), ?_⟩)
  obtain ⟨v, T, rfl, hT, hl, hG, q⟩ := h
  rw [show start ["table", "total", "pair"] [v] = [some (v), none, none] from rfl]
  walk_at "go"
  rename_i H1 e1
  refine d_forT (T := T) (by walk_at "ev") (by walk_at "tb") (fun i σ' H' => Ex H1 H' ∧ ∃ z, σ' = [some v, some (.int (nimT (T.take i))), z]) (fun H2 e2 => ⟨e2, _, rfl⟩) (fun i σ' H' h => h.1) ?_ ?_
  · rintro i w p σ' H' hi hp ⟨e2, z, rfl⟩
    obtain ⟨g1, g2⟩ := hG p (List.mem_of_getElem? hi)
    have b1 := nimT_bd (hG.take i)
    have b2 := wt_bd g1 g2
    walk_at "nx"
    walk_at "go"
    rw [← nimT_take hi]
    exact ⟨by walk_at "ex", _, rfl⟩
  · rintro σ' H' ⟨e2, z, rfl⟩
    rw [List.take_length]
    walk_at "go"
    exact q _ (by walk_at "ex")
theorem u_together {H : Hp} {Q : VK} {E : XK} {v : V} {T : List (Int × Int)} (hT : Tb K H v T) (hl : T.length ≤ 6) (hG : GdT T) (q : ∀ H2, Ex H H2 → Q (.int (nimT T)) H2) : sp_together K [v] H Q E := ⟨v, T, rfl, hT, hl, hG, q⟩
local macro_rules | `(tactic| walk_at "spcall") => `(tactic| ((with_reducible apply u_together); (· walk_at "tb"); (· assumption); (· assumption); intro _ _))

/-! ### moved -/


/-! ### winning moves -/
theorem xr_assoc (a b c : Int) : xr (xr a b) c = xr a (xr b c) := by
  unfold xr
  rw [Int.toNat_natCast, Int.toNat_natCast, Nat.xor_assoc]
theorem xr_nonneg (a b : Int) : 0 ≤ xr a b := by
  unfold xr
  omega
theorem xr_z {a : Int} (h : 0 ≤ a) : xr a 0 = a := by
  unfold xr
  rw [show (0 : Int).toNat = 0 from rfl, Nat.xor_zero]
  omega
theorem xr_self (a : Int) : xr a a = 0 := by
  unfold xr
  rw [Nat.xor_self]
  rfl
theorem xr_eq0 {a b : Int} (ha : 0 ≤ a) (hb : 0 ≤ b) : xr a b = 0 ↔ a = b := by
  constructor
  · intro h
    have e : xr (xr a b) b = a := by rw [xr_assoc, xr_self, xr_z ha]
    rw [h, xr_comm, xr_z hb] at e
    exact e.symm
  · rintro rfl
    exact xr_self a
theorem nim_go : ∀ (T : List (Int × Int)) (t : Int), 0 ≤ t → T.foldl (fun t p => xr t (wt p.1 p.2)) t = xr t (nimT T)
  | [], t, h => (xr_z h).symm
  | p :: T, t, h => by
    unfold nimT
    rw [List.foldl_cons, List.foldl_cons, nim_go T _ (xr_nonneg _ _), nim_go T _ (xr_nonneg _ _), xr_assoc, xr_assoc]
    congr 1
    unfold xr
    simp
theorem nimT_nonneg : ∀ T : List (Int × Int), 0 ≤ nimT T
  | [] => Int.le_refl _
  | p :: T => by
    unfold nimT
    rw [List.foldl_cons, nim_go _ _ (xr_nonneg _ _)]
    exact xr_nonneg _ _
theorem nimT_app (T U : List (Int × Int)) : nimT (T ++ U) = xr (nimT T) (nimT U) := by
  show (T ++ U).foldl _ 0 = _
  rw [List.foldl_append]
  exact nim_go U _ (nimT_nonneg T)
theorem nimT_one (p : Int × Int) (h : 0 ≤ wt p.1 p.2) : nimT [p] = wt p.1 p.2 := by
  show xr 0 (wt p.1 p.2) = _
  rw [xr_comm, xr_z h]
/-- the pair at k put otherwise -/
def putT (T : List (Int × Int)) (k : Nat) (b : Int × Int) : List (Int × Int) := T.take k ++ [b] ++ T.drop (k + 1)
theorem putT_same {T : List (Int × Int)} {k : Nat} {p : Int × Int} (h : T[k]? = some p) : T = putT T k p := by
  unfold putT
  have e := (List.getElem?_eq_some_iff.mp h)
  obtain ⟨hk, e⟩ := e
  rw [List.append_assoc, List.singleton_append]
  subst e
  rw [← List.drop_eq_getElem_cons hk, List.take_append_drop]
theorem putT_len {T : List (Int × Int)} {k : Nat} {b : Int × Int} (h : k < T.length) : (putT T k b).length = T.length := by
  unfold putT
  simp
  omega
theorem putT_gd {T : List (Int × Int)} {k : Nat} {b : Int × Int} (g : GdT T) (h1 : Gd b.1) (h2 : Gd b.2) : GdT (putT T k b) := fun p hp => by
  unfold putT at hp
  rcases List.mem_append.mp hp with hp | hp
  · rcases List.mem_append.mp hp with hp | hp
    · exact g p (List.mem_of_mem_take hp)
    · rw [List.mem_singleton.mp hp]
      exact ⟨h1, h2⟩
  · exact g p (List.mem_of_mem_drop hp)
theorem nimT_put {T : List (Int × Int)} {k : Nat} {p b : Int × Int} (h : T[k]? = some p) (hp : 0 ≤ wt p.1 p.2) (hb : 0 ≤ wt b.1 b.2) : nimT (putT T k b) = xr (xr (nimT T) (wt p.1 p.2)) (wt b.1 b.2) := by
  have e : nimT T = nimT (putT T k p) := congrArg nimT (putT_same h)
  rw [e]
  unfold putT
  rw [nimT_app, nimT_app, nimT_app, nimT_app, nimT_one b hb, nimT_one p hp]
  generalize nimT (T.take k) = a
  generalize nimT (T.drop (k + 1)) = c
  generalize wt p.1 p.2 = u
  generalize wt b.1 b.2 = w
  unfold xr
  simp only [Int.toNat_natCast]
  congr 1
  refine Nat.eq_of_testBit_eq fun i => ?_
  simp only [Nat.testBit_xor]
  cases a.toNat.testBit i <;> cases c.toNat.testBit i <;> cases u.toNat.testBit i <;> cases w.toNat.testBit i <;> rfl
theorem nim_bit (d : Nat) : ∀ T : List (Int × Int), (nimT T).toNat.testBit d = true → ∃ (k : Nat) (p : Int × Int), T[k]? = some p ∧ (wt p.1 p.2).toNat.testBit d = true
  | [], h => by
    have e : (nimT []).toNat = 0 := rfl
    rw [e, Nat.zero_testBit] at h
    cases h
  | p :: T, h => by
    by_cases c : (wt p.1 p.2).toNat.testBit d = true
    · exact ⟨0, p, rfl, c⟩
    · have e : nimT (p :: T) = xr (xr 0 (wt p.1 p.2)) (nimT T) := nim_go T _ (xr_nonneg _ _)
      rw [e] at h
      unfold xr at h
      simp only [Int.toNat_natCast, Nat.testBit_xor, Nat.zero_testBit, show (0 : Int).toNat = 0 from rfl] at h
      have c2 : (wt p.1 p.2).toNat.testBit d = false := by
        cases z : (wt p.1 p.2).toNat.testBit d with
        | true => exact absurd z c
        | false => rfl
      rw [c2] at h
      obtain ⟨k, q, h1, h2⟩ := nim_bit d T (by simpa using h)
      exact ⟨k + 1, q, h1, h2⟩
theorem xor_less {x d w : Nat} (hn : x ≠ 0) (hd : x.log2 = d) (hb : w.testBit d = true) : x ^^^ w < w := by
  have h1 : 2 ^ d ≤ x := by rw [← hd]; exact Nat.log2_self_le hn
  have h2 : x < 2 ^ (d + 1) := by rw [← hd]; exact Nat.lt_log2_self
  have h0 := Nat.two_pow_pos d
  have h3 : x / 2 ^ d = 1 := by
    rw [Nat.pow_succ] at h2
    have a : 1 ≤ x / 2 ^ d := (Nat.le_div_iff_mul_le h0).mpr (by omega)
    have b : x / 2 ^ d < 2 := (Nat.div_lt_iff_lt_mul h0).mpr (by omega)
    omega
  rw [Nat.testBit_eq_decide_div_mod_eq] at hb
  have hb := of_decide_eq_true hb
  have h4 : (x ^^^ w) / 2 ^ d < w / 2 ^ d := by
    rw [Nat.xor_div_two_pow, h3]
    generalize w / 2 ^ d = m at *
    have e1 := xor_mod2 1 m
    have e2 : (1 ^^^ m) / 2 = m / 2 := by
      rw [Nat.xor_div_two, show 1 / 2 = 0 from rfl, Nat.zero_xor]
    omega
  exact Nat.lt_of_div_lt_div h4
theorem nim_less {T : List (Int × Int)} (h : nimT T ≠ 0) : ∃ (k : Nat) (p : Int × Int), T[k]? = some p ∧ xr (nimT T) (wt p.1 p.2) < wt p.1 p.2 := by
  have h0 := nimT_nonneg T
  have hn : (nimT T).toNat ≠ 0 := by omega
  obtain ⟨k, p, hk, hb⟩ := nim_bit (nimT T).toNat.log2 T (Nat.testBit_log2 hn)
  refine ⟨k, p, hk, ?_⟩
  generalize hx : (nimT T).toNat = x at *
  generalize hd : x.log2 = d at *
  have hb1 : x.testBit d = true := by rw [← hd]; exact Nat.testBit_log2 hn
  have := xor_less hn hd hb
  unfold xr
  rw [hx]
  omega
def winN (T : List (Int × Int)) (X : Int) : Nat → List (Int × Int)
  | 0 => []
  | i + 1 => winN T X i ++ (match T[i]? with
    | some p => (match ld p.1 p.2 (xr X (wt p.1 p.2)) with
      | some t => [((i : Int), t)]
      | none => [])
    | none => [])
theorem winN_some {T : List (Int × Int)} {X t : Int} {i : Nat} {p : Int × Int} (h : T[i]? = some p) (e : ld p.1 p.2 (xr X (wt p.1 p.2)) = some t) : winN T X (i + 1) = winN T X i ++ [((i : Int), t)] := by
  rw [winN, h]
  simp only [e]
theorem winN_none {T : List (Int × Int)} {X : Int} {i : Nat} {p : Int × Int} (h : T[i]? = some p) (e : ld p.1 p.2 (xr X (wt p.1 p.2)) = none) : winN T X (i + 1) = winN T X i := by
  rw [winN, h]
  simp only [e, List.append_nil]
theorem winN_len (T : List (Int × Int)) (X : Int) : ∀ n, (winN T X n).length ≤ n
  | 0 => Nat.le_refl _
  | n + 1 => by
    have := winN_len T X n
    rw [winN, List.length_append]
    split
    · split
      · simp; omega
      · simp; omega
    · simp; omega
theorem winN_mem {T : List (Int × Int)} {X i t : Int} : ∀ {n : Nat}, (i, t) ∈ winN T X n ↔ ∃ k : Nat, k < n ∧ i = (k : Int) ∧ ∃ p, T[k]? = some p ∧ ld p.1 p.2 (xr X (wt p.1 p.2)) = some t
  | 0 => ⟨fun h => (List.not_mem_nil h).elim, fun ⟨k, h, _⟩ => absurd h (Nat.not_lt_zero k)⟩
  | n + 1 => by
    constructor
    · intro h
      rw [winN] at h
      rcases List.mem_append.mp h with h | h
      · obtain ⟨k, h1, h2⟩ := winN_mem.mp h
        exact ⟨k, by omega, h2⟩
      · split at h
        · rename_i p hp
          split at h
          · rename_i u hu
            have h := List.mem_singleton.mp h
            cases h
            exact ⟨n, by omega, rfl, p, hp, hu⟩
          · cases h
        · cases h
    · rintro ⟨k, h1, rfl, p, h2, h3⟩
      by_cases c : k = n
      · subst c
        rw [winN_some h2 h3]
        exact List.mem_append_right _ (List.mem_singleton.mpr rfl)
      · rw [winN]
        exact List.mem_append_left _ (winN_mem.mpr ⟨k, by omega, rfl, p, h2, h3⟩)
/-- the winning moves of a table -/
def winT (T : List (Int × Int)) : List (Int × Int) := winN T (nimT T) T.length
theorem winT_mem {T : List (Int × Int)} (g : GdT T) {k : Nat} {p : Int × Int} {t : Int} (h : T[k]? = some p) (h1 : 1 ≤ t) (h2 : t ≤ mvs p.1 p.2) : ((k : Int), t) ∈ winT T ↔ nimT (putT T k (bh p.1 p.2 t)) = 0 := by
  obtain ⟨g1, g2⟩ := g p (List.mem_of_getElem? h)
  rw [nimT_put h (wt_nonneg g1.1 g2.1) (wtb_nonneg g1.1 g2.1 h1 h2)]
  show _ ↔ xr (xr (nimT T) (wt p.1 p.2)) (wtb p.1 p.2 t) = 0
  rw [xr_eq0 (xr_nonneg _ _) (wtb_nonneg g1.1 g2.1 h1 h2)]
  unfold winT
  rw [winN_mem]
  constructor
  · rintro ⟨j, _, hj, q, e1, e2⟩
    obtain rfl : k = j := by omega
    rw [h] at e1
    cases e1
    exact (ld_some e2).2.2.symm
  · intro e
    exact ⟨k, (List.getElem?_eq_some_iff.mp h).1, rfl, p, h, ld_of g1.1 g2.1 h1 h2 e.symm⟩
theorem winT_is {T : List (Int × Int)} (g : GdT T) {i t : Int} (h : (i, t) ∈ winT T) : ∃ k : Nat, k < T.length ∧ i = (k : Int) ∧ ∃ p, T[k]? = some p ∧ 1 ≤ t ∧ t ≤ mvs p.1 p.2 ∧ nimT (putT T k (bh p.1 p.2 t)) = 0 := by
  obtain ⟨k, h1, rfl, p, h2, h3⟩ := winN_mem.mp h
  obtain ⟨a, b, c⟩ := ld_some h3
  exact ⟨k, h1, rfl, p, h2, a, b, (winT_mem g h2 a b).mp h⟩
theorem winT_nil {T : List (Int × Int)} (g : GdT T) : winT T = [] ↔ nimT T = 0 := by
  constructor
  · intro h
    apply Classical.byContradiction
    intro c
    obtain ⟨k, p, h1, h2⟩ := nim_less c
    obtain ⟨g1, g2⟩ := g p (List.mem_of_getElem? h1)
    obtain ⟨t, t1, t2, t3⟩ := wtb_surj g1.1 g2.1 (xr_nonneg _ _) h2
    have : ((k : Int), t) ∈ winT T := winN_mem.mpr ⟨k, (List.getElem?_eq_some_iff.mp h1).1, rfl, p, h1, ld_of g1.1 g2.1 t1 t2 t3⟩
    rw [h] at this
    cases this
  · intro h
    cases e : winT T with
    | nil => rfl
    | cons q r =>
      obtain ⟨i, t⟩ := q
      have hm : (i, t) ∈ winT T := by rw [e]; exact List.mem_cons_self
      obtain ⟨k, h1, rfl, p, h2, h3⟩ := winN_mem.mp hm
      obtain ⟨g1, g2⟩ := g p (List.mem_of_getElem? h2)
      obtain ⟨a, b, c⟩ := ld_some h3
      rw [h, xr_comm, xr_z (wt_nonneg g1.1 g2.1)] at c
      exact absurd c (wtb_ne g1.1 g2.1 a b)

def sp_moved (K : PySem.W.Frag) : Sp := fun vs H Q _ => ∃ (v : V) (T : List (Int × Int)) (k : Nat) (p : Int × Int) (t : Int), vs = [v, .int (k : Int), .int t] ∧ Tb K H v T ∧ T.length ≤ 6 ∧ GdT T ∧ T[k]? = some p ∧ 1 ≤ t ∧ t ≤ mvs p.1 p.2 ∧
  ∀ a H2 ws, H a = none → Ex H H2 → H2 a = some (.lst ws) → Prs K H2 ws (putT T k (bh p.1 p.2 t)) → Q (.ref a) H2
theorem ok_moved (F : Df K mg "moved" s_moved) (T : Txt K mg) (c_moves_of : Cl P w K mg base 1 "moves_of" (sp_moves_of K)) (c_behind : Cl P w K mg base 1 "behind" (sp_behind K)) (c_asked_table : Cl P w K mg base 2 "asked_table" (sp_asked_table K)) : Cl P w K mg base 3 "moved" (sp_moved K) := by
  refine cl_of (N := ["table", "number", "times"]) (ps := ["table", "number", "times"]) F (fun _ _ _ _ _ _ us hl => match us, hl with | [_, _, _], _ => rfl) sc_moved (fun vs H Q E h => by obtain ⟨_, _, _, _, _, rfl, _⟩ := h; rfl) (fun f cdv A outer s H vs Q E hr h => ⟨_, (pss_cons (ps_expr (pe_cl c_asked_table hr (by decide) (by rfl) (pa_cons (pv 0) pa_nil)))
    (pss_cons (ps_if (PW.pt (pw_or (pt_cmpR op_lt (pv 1) pe_int (nomark _)) (pw_or (pt_cmpR op_ge (pv 1) (pe_callB call_lenL (by rfl) T.b_len (by decide +kernel) (pa_cons (pv 0) pa_nil)) (nomark _)) (pw_or (pt_cmpR op_lt (pv 2) pe_int (nomark _)) (pw_or1 (pt_cmpR op_gt (pv 2) (pe_cl c_moves_of hr (by decide) (by rfl) (pa_cons (pe_ix ix_list (pv 0) (pv 1) (fun _ _ => rfl)) pa_nil)) (nomark _))))))) (pss_one ps_never) pss_nil)
    (pss_one (ps_ret (pe_op op_cat (pe_op op_cat (pe_slice sl_list (pv 0) po_none (po_some (pv 1))) (pe_lst (pa_cons (pe_cl c_behind hr (by decide) (by rfl) (pa_cons (pe_ix ix_list (pv 0) (pv 1) (fun _ _ => rfl)) (pa_cons (pv 2) pa_nil))) pa_nil))) (pe_slice sl_list (pv 0) (po_some (pe_op op_add (pv 1) pe_int)) po_none)))))), ?_⟩)
  obtain ⟨v, T, k, p, t, rfl, hT, hl, hG, hk, h1, h2, q⟩ := h
  rw [show start ["table", "number", "times"] [v, .int (k : Int), .int t] = [some (v), some (.int (k : Int)), some (.int t)] from rfl]
  have hk2 := (List.getElem?_eq_some_iff.mp hk).1
  obtain ⟨g1, g2⟩ := hG p (List.mem_of_getElem? hk)
  walk_at "go"
  walk_at "if"
  · intro hb
    simp at hb
    omega
  · intro hb H1 e1
    walk_at "go"
    rename_i l1 H2 ws1 n1 e2 f1 r1 wp hwp w H3 e3 hw gw1 gw2 l2 H4 n2 e4 f2
    have z1 := r1.len
    have z2 : (T.take (k : Int).toNat).length ≤ 6 := by simp; omega
    walk_at "go"
    rename_i l3 H5 n3 e5 f3 l4 H6 ws2 n4 e6 f4 r4
    have z3 := r4.len
    have z4 : (T.drop ((k : Int) + 1).toNat).length ≤ 6 := by simp; omega
    walk_at "go"
    rename_i l5 H7 n5 e7 f5
    refine q l5 _ _ (by walk_at "fr") (by walk_at "ex") f5 ?_
    unfold putT
    have a1 : Prs K H7 ws1 (T.take k) := r1.mono (by walk_at "ex")
    have a2 : Prs K H7 ws2 (T.drop (k + 1)) := by
      have e : ((k : Int) + 1).toNat = k + 1 := by omega
      rw [e] at r4
      exact r4.mono (by walk_at "ex")
    exact (a1.app (Prs.one (by walk_at "pr"))).app a2
theorem u_moved {H : Hp} {Q : VK} {E : XK} {v : V} {T : List (Int × Int)} {k : Nat} {p : Int × Int} {t : Int} (hT : Tb K H v T) (hl : T.length ≤ 6) (hG : GdT T) (hk : T[k]? = some p) (h1 : 1 ≤ t) (h2 : t ≤ mvs p.1 p.2)
    (q : ∀ a H2 ws, H a = none → Ex H H2 → H2 a = some (.lst ws) → Prs K H2 ws (putT T k (bh p.1 p.2 t)) → Tb K H2 (.ref a) (putT T k (bh p.1 p.2 t)) → (putT T k (bh p.1 p.2 t)).length ≤ 6 → GdT (putT T k (bh p.1 p.2 t)) → Q (.ref a) H2) : sp_moved K [v, .int (k : Int), .int t] H Q E :=
  ⟨v, T, k, p, t, rfl, hT, hl, hG, hk, h1, h2, fun a H2 ws n e f r => q a H2 ws n e f r ⟨a, ws, rfl, sq_of f, r⟩ (by rw [putT_len (List.getElem?_eq_some_iff.mp hk).1]; exact hl)
    (putT_gd hG (bh_gd (hG p (List.mem_of_getElem? hk)).1 (hG p (List.mem_of_getElem? hk)).2 h1 h2).1 (bh_gd (hG p (List.mem_of_getElem? hk)).1 (hG p (List.mem_of_getElem? hk)).2 h1 h2).2)⟩
local macro_rules | `(tactic| walk_at "spcall") => `(tactic| ((with_reducible apply u_moved); (· walk_at "tb"); (· assumption); (· assumption); (· assumption); (· omega); (· omega); intro _ _ _ _ _ _ _ _ _ _))

/-! ### _law_drawn -/



def NoMv (T : List (Int × Int)) : Prop := ∀ (k : Nat) (p : Int × Int), T[k]? = some p → mvs p.1 p.2 ≤ 0
def Drawn (K : PySem.W.Frag) (H : Hp) (v : V) (T : List (Int × Int)) : Prop := (v = .non ∧ NoMv T) ∨ ∃ (k : Nat) (p : Int × Int) (t : Int), T[k]? = some p ∧ 1 ≤ t ∧ t ≤ mvs p.1 p.2 ∧ Pr K H v (k : Int) t
def OkMv (T : List (Int × Int)) (q : Int × Int) : Prop := ∃ (k : Nat) (p : Int × Int), q.1 = (k : Int) ∧ T[k]? = some p ∧ 1 ≤ q.2 ∧ q.2 ≤ mvs p.1 p.2
def SmT (T : List (Int × Int)) : Prop := ∀ p ∈ T, p.1 ≤ 30 ∧ p.2 ≤ 30
def sp__law_drawn (K : PySem.W.Frag) : Sp := fun vs H Q _ => ∃ v T c, vs = [v, .int c] ∧ Tb K H v T ∧ T.length ≤ 6 ∧ GdT T ∧ SmT T ∧ ∀ v' H', Ex H H' → Drawn K H' v' T → Q v' H'
theorem ok__law_drawn (F : Df K mg "_law_drawn" s__law_drawn) (T : Txt K mg) (c_moves : Cl P w K mg base 2 "moves" (sp_moves K)) : Cl P w K mg base 3 "_law_drawn" (sp__law_drawn K) := by
  refine cl_of (N := ["table", "cell", "spots", "number", "times"]) (ps := ["table", "cell"]) F (fun _ _ _ _ _ _ us hl => match us, hl with | [_, _], _ => rfl) sc__law_drawn (fun vs H Q E h => by obtain ⟨_, _, _, rfl, _⟩ := h; rfl) (fun f cdv A outer s H vs Q E hr h => ⟨_, (pss_cons (ps_set (i := 2) sc__law_drawn.nd rfl (.inl rfl) (pe_lst pa_nil))
    (pss_cons (ps_for PassesOwn.never rfl (pi_range1 (by rfl) T.b_range (pa_cons (pe_callB call_lenL (by rfl) T.b_len (by decide +kernel) (pa_cons (pv 0) pa_nil)) pa_nil)) (pg_name (i := 3) sc__law_drawn.nd rfl (.inr rfl)) (pss_one (ps_set (i := 2) sc__law_drawn.nd rfl (.inl rfl) (pe_op op_cat (pv 2) (pe_lc (own := [("times", 4)]) (g := gName 4) rfl sc__law_drawn.nd (pi_range2 (by rfl) T.b_range (pa_cons pe_int (pa_cons (pe_op op_add (pe_cl c_moves hr (by decide) (by rfl) (pa_cons (pe_ix ix_list (pv 0) (pv 3) (fun _ _ => rfl)) pa_nil)) pe_int) pa_nil))) (blkOk_by (own := [("times", 4)]) (N := ["table", "cell", "spots", "number", "times"]) (sc := defScope s__law_drawn) (by decide +kernel)) (fun _ _ _ _ _ => (pg_name (i := 4) sc__law_drawn.nd rfl (.inl rfl))) (fun _ _ _ _ _ => pts_nil) (fun _ _ _ _ _ => (pe_tup (pa_cons (pv 3) (pa_cons (pv 4) pa_nil)))))))))
    (pss_cons (ps_if (pt_cmpR (op_eqD hr.units) (pv 2) (pe_lst pa_nil) (nomark _)) (pss_one (ps_ret pe_non)) pss_nil)
    (pss_one (ps_ret (pe_ix ix_list (pv 2) (pe_op op_mod (pv 1) (pe_callB call_lenL (by rfl) T.b_len (by decide +kernel) (pa_cons (pv 2) pa_nil))) (fun _ _ => rfl))))))), ?_⟩)
  obtain ⟨v, T, c, rfl, hT, hl, hG, hS, q⟩ := h
  rw [show start ["table", "cell", "spots", "number", "times"] [v, .int c] = [some (v), some (.int c), none, none, none] from rfl]
  walk_at "go"
  rename_i l0 H1 n1 e1 f1
  refine d_for1 (n := (T.length : Int)) (by walk_at "ea") (by omega) (fun i σ' H' => Ex H H' ∧ ∃ l ws S z, σ' = [some v, some (.int c), some (.ref l), z, none] ∧ H' l = some (.lst ws) ∧ Prs K H' ws S ∧ S.length ≤ 30 * i ∧ (∀ q ∈ S, OkMv T q) ∧ (S = [] → ∀ k < i, ∀ p, T[k]? = some p → mvs p.1 p.2 ≤ 0))
    (fun H2 e2 => ⟨by walk_at "ex", l0, [], [], _, rfl, by walk_at "hl", trivial, Nat.le_refl _, (fun q hq => (List.not_mem_nil hq).elim), fun _ k hk => absurd hk (Nat.not_lt_zero k)⟩) ?_ ?_
  · rintro i σ' H2 hi ⟨e2, l, ws, S, z, rfl, f2, r2, g1, g2, g3⟩
    have hi2 : i < T.length := by omega
    have hk : T[i]? = some (T[i]) := List.getElem?_eq_getElem hi2
    generalize T[i] = p at hk
    obtain ⟨p1, p2⟩ := hG p (List.mem_of_getElem? hk)
    obtain ⟨s1, s2⟩ := hS p (List.mem_of_getElem? hk)
    have m0 := (mvs_le p1 p2).1
    have m1 : mvs p.1 p.2 ≤ max p.1 p.2 - 1 := Int.ediv_le_self _ (by have := p1.1; omega)
    walk_at "nx"
    walk_at "go"
    refine d_lcR2 (lo := 1) (n := mvs p.1 p.2 + 1) (by walk_at "ea") (by omega) (fun j acc H' => ∃ U, Prs K H' acc U ∧ U.length = j ∧ ∀ q ∈ U, OkMv T q)
      (fun D i acc acc' H1 H2 b h r => by obtain ⟨T, r1, r2, r3⟩ := r; exact ⟨T, r1.exb b h, r2, r3⟩) (fun _ => rfl) (fun H1 _ => ⟨[], trivial, rfl, fun q hq => (List.not_mem_nil hq).elim⟩) ?_ ?_
    · rintro j acc H3 hj e3 hl3 ⟨U, r3, u1, u2⟩
      refine ⟨true, et_yes, fun _ H4 e4 => ?_, fun z => nomatch z⟩
      intro Q' q'
      walk_at "nx"
      walk_at "go"
      rename_i w H5 e5 hw
      refine q' _ _ (by walk_at "ex") ⟨U ++ [((i : Int), 1 + (j : Int))], ?_, by simp [u1], ?_⟩
      · exact ((r3.mono e4).mono (by walk_at "ex")).app (Prs.one (by walk_at "pr"))
      · intro q hq
        rcases List.mem_append.mp hq with hq | hq
        · exact u2 q hq
        · rw [List.mem_singleton.mp hq]
          exact ⟨i, p, rfl, hk, by show 1 ≤ 1 + (j : Int); omega, by show 1 + (j : Int) ≤ _; omega⟩
    · rintro d H3 acc n3 e3 f3 ⟨U, r3, u1, u2⟩
      have l1 := r2.len
      have l2 := r3.len
      walk_at "go"
      rename_i d2 H4 n4 e4 f4
      refine ⟨by walk_at "ex", d2, ws ++ acc, S ++ U, _, rfl, f4, (r2.mono (by walk_at "ex")).app (r3.mono (by walk_at "ex")), by rw [List.length_append]; omega, ?_, ?_⟩
      · intro q hq
        rcases List.mem_append.mp hq with hq | hq
        · exact g2 q hq
        · exact u2 q hq
      · intro hn k hk2 p' hp'
        obtain ⟨a1, a2⟩ := List.append_eq_nil_iff.mp hn
        by_cases ck : k = i
        · subst ck
          rw [hk] at hp'
          cases hp'
          rw [a2] at u1
          have : (0 : Nat) = (mvs p.1 p.2 + 1 - 1).toNat := u1
          omega
        · exact g3 a1 k (by omega) p' hp'
  · rintro σ' H2 ⟨e2, l, ws, S, z, rfl, f2, r2, g1, g2, g3⟩
    have htb : Tb K H2 (.ref l) S := ⟨l, ws, rfl, sq_of f2, r2⟩
    walk_at "go"
    walk_at "if"
    · intro hb H3 e3
      have hb := of_decide_eq_true hb
      walk_at "go"
      refine q _ _ (by walk_at "ex") (.inl ⟨rfl, fun k p hk => g3 hb k ?_ p hk⟩)
      have := (List.getElem?_eq_some_iff.mp hk).1
      omega
    · intro hb H3 e3
      have hb := of_decide_eq_false hb
      have hpos : 0 < S.length := List.length_pos_iff.mpr hb
      walk_at "go"
      have c0 := Int.emod_nonneg c (show (S.length : Int) ≠ 0 by omega)
      have c1 := Int.emod_lt_of_pos c (show 0 < (S.length : Int) by omega)
      obtain ⟨m, hm⟩ := Int.eq_ofNat_of_zero_le c0
      rw [hm] at c1
      have hm2 : m < S.length := by omega
      have hk : S[m]? = some (S[m]) := List.getElem?_eq_getElem hm2
      generalize S[m] = p at hk
      rw [hm]
      refine d_ixTb (T := S) (by walk_at "tb") hk fun w hw => ?_
      obtain ⟨k, p', o1, o2, o3, o4⟩ := g2 p (List.mem_of_getElem? hk)
      refine q _ _ (by walk_at "ex") (.inr ⟨k, p', p.2, o2, o3, o4, ?_⟩)
      rw [← o1]
      exact hw
theorem u_law_drawn {H : Hp} {Q : VK} {E : XK} {v : V} {T : List (Int × Int)} {c : Int} (hT : Tb K H v T) (hl : T.length ≤ 6) (hG : GdT T) (hS : SmT T) (q : ∀ v' H', Ex H H' → Drawn K H' v' T → Q v' H') : sp__law_drawn K [v, .int c] H Q E := ⟨v, T, c, rfl, hT, hl, hG, hS, q⟩
local macro_rules | `(tactic| walk_at "spcall") => `(tactic| ((with_reducible apply u_law_drawn); (· walk_at "tb"); (· assumption); (· assumption); (· assumption); intro _ _ _ _))

/-! ### wins -/
def sp_wins (K : PySem.W.Frag) : Sp := fun vs H Q _ => ∃ v T, vs = [v] ∧ Tb K H v T ∧ T.length ≤ 6 ∧ GdT T ∧ RetV (.bl (decide (0 < nimT T))) H Q
theorem ok_wins (F : Df K mg "wins" s_wins) (T : Txt K mg) (c_together : Cl P w K mg base 3 "together" (sp_together K)) : Cl P w K mg base 4 "wins" (sp_wins K) := by
  refine cl_of (N := ["table"]) (ps := ["table"]) F (fun _ _ _ _ _ _ us hl => match us, hl with | [_], _ => rfl) sc_wins (fun vs H Q E h => by obtain ⟨_, _, rfl, _⟩ := h; rfl) (fun f cdv A outer s H vs Q E hr h => ⟨_, (pss_one (ps_ret (pe_cmpR op_gt (pe_cl c_together hr (by decide) (by rfl) (pa_cons (pv 0) pa_nil)) pe_int (nomark _)))), ?_⟩)
  obtain ⟨v, T, rfl, hT, hl, hG, q⟩ := h
  rw [show start ["table"] [v] = [some (v)] from rfl]
  walk_at "go"
  exact q _ (by walk_at "ex")
theorem u_wins {H : Hp} {Q : VK} {E : XK} {v : V} {T : List (Int × Int)} (hT : Tb K H v T) (hl : T.length ≤ 6) (hG : GdT T) (q : ∀ H2, Ex H H2 → Q (.bl (decide (0 < nimT T))) H2) : sp_wins K [v] H Q E := ⟨v, T, rfl, hT, hl, hG, q⟩
local macro_rules | `(tactic| walk_at "spcall") => `(tactic| ((with_reducible apply u_wins); (· walk_at "tb"); (· assumption); (· assumption); intro _ _))

/-! ### winning -/



def sp_winning (K : PySem.W.Frag) : Sp := fun vs H Q _ => ∃ v T, vs = [v] ∧ Tb K H v T ∧ T.length ≤ 6 ∧ GdT T ∧
  ∀ p H2 ws, H p = none → Ex H H2 → H2 p = some (.lst ws) → Prs K H2 ws (winT T) → Q (.ref p) H2
theorem ok_winning (F : Df K mg "winning" s_winning) (T : Txt K mg) (c_worth_of : Cl P w K mg base 1 "worth_of" (sp_worth_of K)) (c_leading_of : Cl P w K mg base 2 "leading_of" (sp_leading_of K)) (c_added : Cl P w K mg base 1 "added" (sp_added K)) (c_together : Cl P w K mg base 3 "together" (sp_together K)) : Cl P w K mg base 4 "winning" (sp_winning K) := by
  refine cl_of (N := ["table", "total", "found", "number", "pair", "times"]) (ps := ["table"]) F (fun _ _ _ _ _ _ us hl => match us, hl with | [_], _ => rfl) sc_winning (fun vs H Q E h => by obtain ⟨_, _, rfl, _⟩ := h; rfl) (fun f cdv A outer s H vs Q E hr h => ⟨_, (pss_cons (ps_set (i := 1) sc_winning.nd rfl (.inl rfl) (pe_cl c_together hr (by decide) (by rfl) (pa_cons (pv 0) pa_nil)))
    (pss_cons (ps_set (i := 2) sc_winning.nd rfl (.inl rfl) (pe_lst pa_nil))
    (pss_cons (ps_for PassesOwn.never rfl (pi_enum (by rfl) T.b_enumerate (pa_cons (pv 0) pa_nil)) (pg_tup (n := 2) rfl (pgs_cons (pg_name (i := 3) sc_winning.nd rfl (.inl rfl)) (pgs_cons (pg_name (i := 4) sc_winning.nd rfl (.inl rfl)) pgs_nil))) (pss_cons (ps_set (i := 5) sc_winning.nd rfl (.inl rfl) (pe_cl c_leading_of hr (by decide) (by rfl) (pa_cons (pv 4) (pa_cons (pe_cl c_added hr (by decide) (by rfl) (pa_cons (pv 1) (pa_cons (pe_cl c_worth_of hr (by decide) (by rfl) (pa_cons (pv 4) pa_nil)) pa_nil))) pa_nil))))
    (pss_one (ps_if (pt_cmpR op_notNn (pv 5) pe_non (nomark _)) (pss_one (ps_expr (pe_bm PySem.F.plainAttrs_list PySem.F.slot_list_append PySem.F.type_list_append mt_append (pv 2) (pa_cons (pe_tup (pa_cons (pv 3) (pa_cons (pv 5) pa_nil))) pa_nil)))) pss_nil))))
    (pss_one (ps_ret (pv 2)))))), ?_⟩)
  obtain ⟨v, T, rfl, hT, hl, hG, q⟩ := h
  rw [show start ["table", "total", "found", "number", "pair", "times"] [v] = [some (v), none, none, none, none, none] from rfl]
  have b := nimT_bd hG
  walk_at "go"
  rename_i H1 e1 l H2 hl2 e2 h2
  refine d_forE (T := T) (H0 := H1) (by walk_at "ea") (by walk_at "tb") (by walk_at "ex") (fun i σ' H' => Ex H1 H' ∧ ∃ z z2 z3 ws, σ' = [some v, some (.int (nimT T)), some (.ref l), z, z2, z3] ∧ H' l = some (.lst ws) ∧ Prs K H' ws (winN T (nimT T) i))
    (fun H3 e3 => ⟨by walk_at "ex", _, _, _, [], rfl, by walk_at "hl", trivial⟩) (fun i σ' H' h => h.1) (fun i σ' H3 H4 h e => ?_) ?_ ?_
  · obtain ⟨e3, z, z2, z3, ws, h3, h4, h5⟩ := h
    exact ⟨e3.trans e, z, z2, z3, ws, h3, e _ _ h4, h5.mono e⟩
  · rintro i w p σ' H' hi hp ⟨e3, z, z2, z3, ws, rfl, h4, h5⟩
    obtain ⟨g1, g2⟩ := hG p (List.mem_of_getElem? hi)
    have b2 := wt_bd g1 g2
    have hlen := winN_len T (nimT T) i
    have hi2 := (List.getElem?_eq_some_iff.mp hi).1
    rw [← h5.len] at hlen
    walk_at "nx"
    walk_at "go"
    rename_i H3 e4 H4 e5 H5 e6
    cases hld : ld p.1 p.2 (xr (nimT T) (wt p.1 p.2)) with
    | none =>
      simp only [optV]
      walk_at "if"
      · intro hb
        simp at hb
      · intro hb H6 e7
        walk_at "go"
        refine ⟨by walk_at "ex", _, _, _, ws, rfl, by walk_at "hl", ?_⟩
        rw [winN_none hi hld]
        exact h5.mono (by walk_at "ex")
    | some t =>
      simp only [optV]
      walk_at "if"
      · intro hb H6 e7
        walk_at "go"
        rename_i H8 b8 h8
        refine ⟨by walk_at "ex", _, _, _, _, rfl, h8, ?_⟩
        rw [winN_some hi hld]
        exact (h5.mono (by walk_at "ex")).exb b8 (by walk_at "hl") |>.app (Prs.one (by walk_at "pr"))
      · intro hb
        simp at hb
  · rintro σ' H' ⟨e3, z, z2, z3, ws, rfl, h4, h5⟩
    walk_at "go"
    exact q l _ ws (by walk_at "fr") (by walk_at "ex") h4 h5
theorem u_winning {H : Hp} {Q : VK} {E : XK} {v : V} {T : List (Int × Int)} (hT : Tb K H v T) (hl : T.length ≤ 6) (hG : GdT T) (q : ∀ p H2 ws, H p = none → Ex H H2 → H2 p = some (.lst ws) → Prs K H2 ws (winT T) → Tb K H2 (.ref p) (winT T) → Q (.ref p) H2) : sp_winning K [v] H Q E :=
  ⟨v, T, rfl, hT, hl, hG, fun p H2 ws h1 h2 h3 h4 => q p H2 ws h1 h2 h3 h4 ⟨p, ws, rfl, sq_of h3, h4⟩⟩
local macro_rules | `(tactic| walk_at "spcall") => `(tactic| ((with_reducible apply u_winning); (· walk_at "tb"); (· assumption); (· assumption); intro _ _ _ _ _ _ _ _))

/-! ### law -/
theorem bh_sum {x y t : Int} (hx : 1 ≤ x) (hy : 1 ≤ y) (h1 : 1 ≤ t) : (bh x y t).1 + (bh x y t).2 + 1 ≤ x + y := by
  unfold bh
  by_cases c : y < x
  · rw [if_pos c]
    have := Int.mul_le_mul_of_nonneg_right h1 (show 0 ≤ y by omega)
    show x - t * y + y + 1 ≤ _
    omega
  · rw [if_neg c]
    have := Int.mul_le_mul_of_nonneg_right h1 (show 0 ≤ x by omega)
    show x + (y - t * x) + 1 ≤ _
    omega
theorem bh_small {x y t : Int} (hx : 1 ≤ x) (hy : 1 ≤ y) (h1 : 1 ≤ t) (hx9 : x ≤ 30) (hy9 : y ≤ 30) : (bh x y t).1 ≤ 30 ∧ (bh x y t).2 ≤ 30 := by
  unfold bh
  by_cases c : y < x
  · rw [if_pos c]
    have := Int.mul_le_mul_of_nonneg_right h1 (show 0 ≤ y by omega)
    exact ⟨by show x - t * y ≤ 30; omega, hy9⟩
  · rw [if_neg c]
    have := Int.mul_le_mul_of_nonneg_right h1 (show 0 ≤ x by omega)
    exact ⟨hx9, by show y - t * x ≤ 30; omega⟩

def psum (T : List (Int × Int)) : Int := (T.map fun p => p.1 + p.2).sum
theorem psum_app (T U : List (Int × Int)) : psum (T ++ U) = psum T + psum U := by
  unfold psum
  rw [List.map_append, List.sum_append]
theorem psum_put {T : List (Int × Int)} {k : Nat} {p b : Int × Int} (h : T[k]? = some p) : psum (putT T k b) = psum T - (p.1 + p.2) + (b.1 + b.2) := by
  have e : psum T = psum (putT T k p) := congrArg psum (putT_same h)
  rw [e]
  unfold putT
  rw [psum_app, psum_app, psum_app, psum_app]
  have o : ∀ q : Int × Int, psum [q] = q.1 + q.2 := fun q => by unfold psum; simp
  rw [o, o]
  omega
theorem psum_nonneg : ∀ {T : List (Int × Int)}, GdT T → 0 ≤ psum T
  | [], _ => Int.le_refl _
  | p :: T, g => by
    have h := psum_nonneg (T := T) fun q hq => g q (List.mem_cons_of_mem _ hq)
    obtain ⟨a, b⟩ := g p List.mem_cons_self
    have := a.1
    have := b.1
    unfold psum at *
    rw [List.map_cons, List.sum_cons]
    omega
theorem psum_le : ∀ {T : List (Int × Int)}, SmT T → psum T ≤ 60 * (T.length : Int)
  | [], _ => Int.le_refl _
  | p :: T, g => by
    have h := psum_le (T := T) fun q hq => g q (List.mem_cons_of_mem _ hq)
    obtain ⟨a, b⟩ := g p List.mem_cons_self
    unfold psum at *
    rw [List.map_cons, List.sum_cons, List.length_cons]
    omega
theorem putT_sm {T : List (Int × Int)} {k : Nat} {b : Int × Int} (g : SmT T) (h1 : b.1 ≤ 30) (h2 : b.2 ≤ 30) : SmT (putT T k b) := fun p hp => by
  unfold putT at hp
  rcases List.mem_append.mp hp with hp | hp
  · rcases List.mem_append.mp hp with hp | hp
    · exact g p (List.mem_of_mem_take hp)
    · rw [List.mem_singleton.mp hp]
      exact ⟨h1, h2⟩
  · exact g p (List.mem_of_mem_drop hp)
theorem wt_end {x y : Int} (hx : 1 ≤ x) (hy : 1 ≤ y) (h : mvs x y ≤ 0) : wt x y = 0 := by
  have h1 : max x y - 1 < min x y := by
    apply Classical.byContradiction
    intro c
    have : 1 ≤ (max x y - 1) / min x y := (Int.le_ediv_iff_mul_le (by omega)).mpr (by omega)
    unfold mvs at h
    omega
  have e : max x y = min x y := by omega
  unfold wt
  rw [e, Int.sub_self, Int.zero_ediv]
theorem nim_end : ∀ {T : List (Int × Int)}, GdT T → NoMv T → nimT T = 0
  | [], _, _ => rfl
  | p :: T, g, n => by
    obtain ⟨a, b⟩ := g p List.mem_cons_self
    have h := nim_end (T := T) (fun q hq => g q (List.mem_cons_of_mem _ hq)) fun k q hk => n (k + 1) q hk
    have e : nimT (p :: T) = xr (xr 0 (wt p.1 p.2)) (nimT T) := nim_go T _ (xr_nonneg _ _)
    rw [e, h, wt_end a.1 b.1 (n 0 p rfl)]
    rfl
theorem nim_left {T : List (Int × Int)} (g : GdT T) {k : Nat} {p : Int × Int} {t : Int} (h : T[k]? = some p) (h1 : 1 ≤ t) (h2 : t ≤ mvs p.1 p.2) (h0 : nimT T = 0) : nimT (putT T k (bh p.1 p.2 t)) ≠ 0 := fun e => by
  have := (winT_mem g h h1 h2).mpr e
  rw [(winT_nil g).mpr h0] at this
  cases this
def sp_law (K : PySem.W.Frag) : Sp := fun vs H Q _ => ∃ (a : Addr) (ns : List Int), vs = [.ref a] ∧ SqL K H a (ns.map V.int) ∧ ns.length ≤ 63 ∧ RetV (.bl true) H Q
theorem ok_law {fa : Addr} {fd : FuncData} (F : L2.Fun K "law" "law" s_law fa fd) (T : Txt K mg) (c_wins : Cl P w K mg base 4 "wins" (sp_wins K)) (c_winning : Cl P w K mg base 4 "winning" (sp_winning K)) (c_moved : Cl P w K mg base 3 "moved" (sp_moved K)) (c__law_cell_at : Cl P w K mg base 1 "_law_cell_at" (sp__law_cell_at K)) (c__law_small_by : Cl P w K mg base 2 "_law_small_by" (sp__law_small_by K)) (c__law_drawn : Cl P w K mg base 3 "_law_drawn" (sp__law_drawn K)) : FnOk P w K mg base CX0 5 fa fd ["script"] (sp_law K) := by
  refine F.ok sc_law (fun vs H Q E h => by obtain ⟨_, _, rfl, _⟩ := h; rfl) (fun cdv A outer s H vs Q E hr h => ⟨_, (pss_cons (ps_setLc (i := 1) (own := [("k", 6)]) (g := gName 6) rfl sc_law.nd rfl rfl (sw_true rfl rfl rfl (by decide +kernel)) (pi_range1 (by rfl) T.b_range (pa_cons (pe_op op_mod (pe_cl c__law_cell_at hr (by decide) (by rfl) (pa_cons (pv 0) (pa_cons pe_int pa_nil))) pe_int) pa_nil)) (blkOk_by (own := [("k", 6)]) (N := ["script", "table", "told", "turn", "move", "good", "k"]) (sc := defScope s_law) (by decide +kernel)) (fun _ _ _ _ _ => (pg_name (i := 6) sc_law.nd rfl (.inl rfl))) (fun _ _ _ _ _ => pts_nil) (fun _ _ _ _ _ => (pe_cl c__law_small_by hr (by decide) (by rfl) (pa_cons (pv 0) (pa_cons (pe_op op_add pe_int (pe_op op_mulW pe_int (pv 6))) (pa_cons pe_int pa_nil))))))
    (pss_cons (ps_set (i := 2) sc_law.nd rfl (.inl rfl) (pe_cl c_wins hr (by decide) (by rfl) (pa_cons (pv 1) pa_nil)))
    (pss_cons (ps_set (i := 3) sc_law.nd rfl (.inl rfl) pe_int)
    (pss_cons (ps_set (i := 4) sc_law.nd rfl (.inl rfl) (pe_cl c__law_drawn hr (by decide) (by rfl) (pa_cons (pv 1) (pa_cons pe_int pa_nil))))
    (pss_cons (ps_while PassesOwn.never (pt_cmpR op_notNn (pv 4) pe_non (nomark _)) (pss_cons (ps_set (i := 4) sc_law.nd rfl (.inl rfl) (pe_cl c__law_drawn hr (by decide) (by rfl) (pa_cons (pv 1) (pa_cons (pe_op op_fdivW (pe_cl c__law_cell_at hr (by decide) (by rfl) (pa_cons (pv 0) (pa_cons (pe_op op_add pe_int (pe_op op_mod (pv 3) pe_int)) pa_nil))) (pe_op op_add pe_int (pe_op op_fdivW (pv 3) pe_int))) pa_nil))))
    (pss_cons (ps_if (pt_cmpR op_eq (pe_cmpR op_eq (pe_op op_mod (pv 3) pe_int) pe_int (nomark _)) (pv 2) (nomark _)) (pss_cons (ps_set (i := 5) sc_law.nd rfl (.inl rfl) (pe_cl c_winning hr (by decide) (by rfl) (pa_cons (pv 1) pa_nil)))
    (pss_cons (ps_if (pt_cmpR (op_eqD hr.units) (pv 5) (pe_lst pa_nil) (nomark _)) (pss_one (ps_ret pe_bl)) pss_nil)
    (pss_one (ps_set (i := 4) sc_law.nd rfl (.inl rfl) (pe_ix ix_list (pv 5) pe_int (fun _ _ => rfl)))))) pss_nil)
    (pss_cons (ps_set (i := 1) sc_law.nd rfl (.inl rfl) (pe_cl c_moved hr (by decide) (by rfl) (pa_cons (pv 1) (pa_cons (pe_ix ix_tup (pv 4) pe_int (fun _ _ => rfl)) (pa_cons (pe_ix ix_tup (pv 4) pe_int (fun _ _ => rfl)) pa_nil)))))
    (pss_cons (ps_set (i := 3) sc_law.nd rfl (.inl rfl) (pe_op op_add (pv 3) pe_int))
    (pss_one (ps_set (i := 4) sc_law.nd rfl (.inl rfl) (pe_cl c__law_drawn hr (by decide) (by rfl) (pa_cons (pv 1) (pa_cons pe_int pa_nil))))))))))
    (pss_one (ps_ret (pe_cmpR op_eq (pe_cmpR op_eq (pe_op op_mod (pv 3) pe_int) pe_int (nomark _)) (pv 2) (nomark _))))))))), ?_⟩)
  obtain ⟨a, ns, rfl, hs, hn, q⟩ := h
  rw [show start ["script", "table", "told", "turn", "move", "good", "k"] [.ref a] = [some (.ref a), none, none, none, none, none, none] from rfl]
  walk_at "go"
  have c0 := Int.emod_nonneg (cellL ns (Int.toNat 0)) (by decide : (5 : Int) ≠ 0)
  have c1 := Int.emod_lt_of_pos (cellL ns (Int.toNat 0)) (by decide : (0 : Int) < 5)
  refine d_lcR (n := cellL ns (Int.toNat 0) % 5) (by walk_at "ea") (by omega) (fun i acc H' => ∃ T, Prs K H' acc T ∧ T.length ≤ i ∧ GdT T ∧ SmT T)
    (fun D i acc acc' H1 H2 b h r => by obtain ⟨T, r1, r2, r3⟩ := r; exact ⟨T, r1.exb b h, r2, r3⟩) (fun _ => rfl) (fun H1 _ => ⟨[], trivial, Nat.le_refl _, (by intro p z; cases z), (by intro p z; cases z)⟩) ?_ ?_
  · rintro i acc H' hi e hl ⟨T, r1, r2, r3, r4⟩
    refine ⟨true, et_yes, fun _ H3 e3 => ?_, fun z => nomatch z⟩
    intro Q' q'
    walk_at "nx"
    walk_at "go"
    rename_i v H4 x y e4 hp x1 x2 y1 y2
    refine q' _ _ (by walk_at "ex") ⟨T ++ [(x, y)], ?_, by simp; omega, ?_, ?_⟩
    · exact ((r1.mono e3).mono (by walk_at "ex")).app (Prs.one (by walk_at "pr"))
    · intro p hp
      rcases List.mem_append.mp hp with hp | hp
      · exact r3 p hp
      · rw [List.mem_singleton.mp hp]
        exact ⟨⟨x1, by show x ≤ _; omega⟩, ⟨y1, by show y ≤ _; omega⟩⟩
    · intro p hp
      rcases List.mem_append.mp hp with hp | hp
      · exact r4 p hp
      · rw [List.mem_singleton.mp hp]
        exact ⟨by show x ≤ _; omega, by show y ≤ _; omega⟩
  · rintro p H1 acc n1 e1 f1 ⟨T0, r1, l0, hG0, hS0⟩
    have hT0 : Tb K H1 (.ref p) T0 := ⟨p, acc, rfl, sq_of f1, r1⟩
    have hl0 : T0.length ≤ 6 := by omega
    walk_at "nx"
    walk_at "go"
    rename_i H2 e2 mv0 H3 e3 hd0
    generalize htold : decide (0 < nimT T0) = told
    have hs0 := psum_le hS0
    refine d_while (fun m σ' H' => ∃ t T mv z, ∃ n : Nat, σ' = [some (.ref a), some t, some (.bl told), some (.int (n : Int)), some mv, z, none] ∧ Ex H H' ∧ Tb K H' t T ∧ T.length ≤ 6 ∧ GdT T ∧ SmT T ∧ Drawn K H' mv T ∧ (n : Int) + psum T ≤ 1000 ∧ m = (psum T).toNat ∧
        (decide ((n : Int) % 2 = 0) = told → nimT T ≠ 0) ∧ (decide ((n : Int) % 2 = 0) ≠ told → nimT T = 0)) _
      ⟨_, T0, mv0, _, 0, rfl, by walk_at "ex", hT0.mono (by walk_at "ex"), hl0, hG0, hS0, hd0, by show (0 : Int) + psum T0 ≤ 1000; omega, rfl, ?_, ?_⟩ ?_
    · intro e
      rw [← htold] at e
      have : 0 < nimT T0 := of_decide_eq_true e.symm
      omega
    · intro e
      rw [← htold] at e
      have : ¬ 0 < nimT T0 := fun z => e (decide_eq_true z).symm
      have := nimT_nonneg T0
      omega
    clear hs0 hd0 hS0 hG0 hl0 hT0 htold e3 e2 r1 f1 e1
    rintro m σ' H4 ⟨t, T, mv, z, n, rfl, e4, hT, hl, hG, hS, hD, hn, rfl, p1, p2⟩
    have hpn := psum_nonneg hG
    refine ⟨!decide (mv = .non), by walk_at "et", fun hb H5 e5 => ?_, fun hb H5 e5 => ?_⟩
    · walk_at "go"
      rename_i H6 e6 mv2 H7 e7 hD2
      rcases hD2 with ⟨rfl, hno⟩ | ⟨k, p, u, hk, u1, u2, hpr⟩
      · -- there is a move
        rcases hD with ⟨rfl, _⟩ | ⟨k, p, u, hk, u1, u2, _⟩
        · simp at hb
        · have := hno k p hk
          omega
      -- the rest of a turn
      have sm : ∀ (k : Nat) (p : Int × Int) (u : Int), T[k]? = some p → 1 ≤ u → u ≤ mvs p.1 p.2 → SmT (putT T k (bh p.1 p.2 u)) ∧ psum (putT T k (bh p.1 p.2 u)) + 1 ≤ psum T := fun k p u hk u1 u2 => by
        obtain ⟨g1, g2⟩ := hG p (List.mem_of_getElem? hk)
        obtain ⟨s1, s2⟩ := hS p (List.mem_of_getElem? hk)
        have b := bh_small g1.1 g2.1 u1 s1 s2
        have b2 := bh_sum g1.1 g2.1 u1
        refine ⟨putT_sm hS b.1 b.2, ?_⟩
        rw [psum_put hk]
        omega
      have par : decide (((n + 1 : Nat) : Int) % 2 = 0) = !decide ((n : Int) % 2 = 0) := by
        by_cases c : (n : Int) % 2 = 0
        · have : ¬ ((n + 1 : Nat) : Int) % 2 = 0 := by omega
          simp only [c, this]
          rfl
        · have : ((n + 1 : Nat) : Int) % 2 = 0 := by omega
          simp only [c, this]
          rfl
      walk_at "if"
      · intro hb2 H8 e8
        have hb2 := of_decide_eq_true hb2
        have hnz := p1 hb2
        walk_at "go"
        rename_i gd H9 ws9 n9 e9 f9 r9 tb9
        walk_at "if"
        · intro hb3
          have hb3 := of_decide_eq_true hb3
          exact absurd ((winT_nil hG).mp hb3) hnz
        · intro hb3 H10 e10
          have hb3 := of_decide_eq_false hb3
          have hpos : 0 < (winT T).length := List.length_pos_iff.mpr hb3
          have hk0 : (winT T)[0]? = some ((winT T)[0]) := List.getElem?_eq_getElem hpos
          generalize (winT T)[0] = q0 at hk0
          obtain ⟨i', u'⟩ := q0
          obtain ⟨k', hk1, rfl, p', hp', v1, v2, v3⟩ := winT_is hG (List.mem_of_getElem? hk0)
          obtain ⟨s1, s2⟩ := sm k' p' u' hp' v1 v2
          walk_at "go"
          refine d_ixTb (T := winT T) (i := 0) (by walk_at "tb") hk0 fun w hw => ?_
          have hw : Pr K H10 w (k' : Int) u' := hw
          walk_at "nx"
          walk_at "go"
          rename_i l11 H11 ws11 n11 e11 f11 r11 tb11 tl11 tg11 mv3 H12 e12 hD3
          refine ⟨_, ?_, _, _, mv3, _, n + 1, rfl, by walk_at "ex", tb11.mono (by walk_at "ex"), tl11, tg11, s1, hD3, by omega, rfl, ?_, ?_⟩
          · have := psum_nonneg tg11
            omega
          · intro e
            rw [par, hb2] at e
            cases told <;> simp at e
          · intro e
            exact v3
      · intro hb2 H8 e8
        have hb2 := of_decide_eq_false hb2
        have hz := p2 hb2
        obtain ⟨s1, s2⟩ := sm k p u hk u1 u2
        have hnz := nim_left hG hk u1 u2 hz
        walk_at "go"
        rename_i l11 H11 ws11 n11 e11 f11 r11 tb11 tl11 tg11 mv3 H12 e12 hD3
        refine ⟨_, ?_, _, _, mv3, _, n + 1, rfl, by walk_at "ex", tb11.mono (by walk_at "ex"), tl11, tg11, s1, hD3, by omega, rfl, ?_, ?_⟩
        · have := psum_nonneg tg11
          omega
        · intro e
          exact hnz
        · intro e
          rw [par] at e
          exfalso
          cases told <;> cases hq : decide ((n : Int) % 2 = 0) <;> simp [hq] at e hb2
    · have hno : NoMv T := by
        rcases hD with ⟨_, hno⟩ | ⟨k, p, u, hk, u1, u2, b, rfl, hpr⟩
        · exact hno
        · simp at hb
      have hz := nim_end hG hno
      have hne : decide ((n : Int) % 2 = 0) ≠ told := fun e => p1 e hz
      walk_at "go"
      have e : decide (decide ((n : Int) % 2 = 1) = told) = true := by
        apply decide_eq_true
        by_cases c : (n : Int) % 2 = 0
        · have : ¬ (n : Int) % 2 = 1 := by omega
          simp only [c, this] at *
          cases told <;> simp at hne ⊢
        · have : (n : Int) % 2 = 1 := by omega
          simp only [c, this] at *
          cases told <;> simp at hne ⊢
      rw [e]
      exact q _ (by walk_at "ex")

end
end Tk
namespace Tk
open PySem PySem.Spec PyProof.Rows L2 Evl
theorem all_mk {P : Program} {w : World} {K : PySem.W.Frag} {h : Heap} {mg : Str → Option Value} {fa : Addr} (X : K.In h) (G : h.Ns mainGlobals mg) (hfa : mg "law" = some (.ref fa))
    {f0 : Addr} {od0 an0 : Option Addr} {sl0 : Array (Option Value)} {oc0 kV0 dc0 pm0 cd0 ct0 : Value}
    {f1 : Addr} {od1 an1 : Option Addr} {sl1 : Array (Option Value)} {oc1 kV1 dc1 pm1 cd1 ct1 : Value}
    {f2 : Addr} {od2 an2 : Option Addr} {sl2 : Array (Option Value)} {oc2 kV2 dc2 pm2 cd2 ct2 : Value}
    {f3 : Addr} {od3 an3 : Option Addr} {sl3 : Array (Option Value)} {oc3 kV3 dc3 pm3 cd3 ct3 : Value}
    {f4 : Addr} {od4 an4 : Option Addr} {sl4 : Array (Option Value)} {oc4 kV4 dc4 pm4 cd4 ct4 : Value}
    {f5 : Addr} {od5 an5 : Option Addr} {sl5 : Array (Option Value)} {oc5 kV5 dc5 pm5 cd5 ct5 : Value}
    {f6 : Addr} {od6 an6 : Option Addr} {sl6 : Array (Option Value)} {oc6 kV6 dc6 pm6 cd6 ct6 : Value}
    {f7 : Addr} {od7 an7 : Option Addr} {sl7 : Array (Option Value)} {oc7 kV7 dc7 pm7 cd7 ct7 : Value}
    {f8 : Addr} {od8 an8 : Option Addr} {sl8 : Array (Option Value)} {oc8 kV8 dc8 pm8 cd8 ct8 : Value}
    {f9 : Addr} {od9 an9 : Option Addr} {sl9 : Array (Option Value)} {oc9 kV9 dc9 pm9 cd9 ct9 : Value}
    {f10 : Addr} {od10 an10 : Option Addr} {sl10 : Array (Option Value)} {oc10 kV10 dc10 pm10 cd10 ct10 : Value}
    {f11 : Addr} {od11 an11 : Option Addr} {sl11 : Array (Option Value)} {oc11 kV11 dc11 pm11 cd11 ct11 : Value}
    {f12 : Addr} {od12 an12 : Option Addr} {sl12 : Array (Option Value)} {oc12 kV12 dc12 pm12 cd12 ct12 : Value}
    {f13 : Addr} {od13 an13 : Option Addr} {sl13 : Array (Option Value)} {oc13 kV13 dc13 pm13 cd13 ct13 : Value}
    {f14 : Addr} {od14 an14 : Option Addr} {sl14 : Array (Option Value)} {oc14 kV14 dc14 pm14 cd14 ct14 : Value}
    {f15 : Addr} {od15 an15 : Option Addr} {sl15 : Array (Option Value)} {oc15 kV15 dc15 pm15 cd15 ct15 : Value}
    {t_GREATEST : Tok}
    {t_MOST : Tok}
    (a0 : PySem.W.nsIn K mainGlobals "asked_pair" = some (some (.ref f0)))
    (l0 : K.lookup f0 = some ⟨oc0, od0, .func (PySem.W.fnOf "asked_pair" "asked_pair" (defArgs s_asked_pair) (defBody s_asked_pair) (defScope s_asked_pair) .none kV0 dc0 pm0 an0 cd0 ct0), sl0⟩)
    (c0 : PySem.W.codeIn K cd0 "asked_pair" = true) (k0 : PySem.W.keepIn K (.ref f0) = true)
    (a1 : PySem.W.nsIn K mainGlobals "moves_of" = some (some (.ref f1)))
    (l1 : K.lookup f1 = some ⟨oc1, od1, .func (PySem.W.fnOf "moves_of" "moves_of" (defArgs s_moves_of) (defBody s_moves_of) (defScope s_moves_of) .none kV1 dc1 pm1 an1 cd1 ct1), sl1⟩)
    (c1 : PySem.W.codeIn K cd1 "moves_of" = true) (k1 : PySem.W.keepIn K (.ref f1) = true)
    (a2 : PySem.W.nsIn K mainGlobals "behind" = some (some (.ref f2)))
    (l2 : K.lookup f2 = some ⟨oc2, od2, .func (PySem.W.fnOf "behind" "behind" (defArgs s_behind) (defBody s_behind) (defScope s_behind) .none kV2 dc2 pm2 an2 cd2 ct2), sl2⟩)
    (c2 : PySem.W.codeIn K cd2 "behind" = true) (k2 : PySem.W.keepIn K (.ref f2) = true)
    (a3 : PySem.W.nsIn K mainGlobals "worth_of" = some (some (.ref f3)))
    (l3 : K.lookup f3 = some ⟨oc3, od3, .func (PySem.W.fnOf "worth_of" "worth_of" (defArgs s_worth_of) (defBody s_worth_of) (defScope s_worth_of) .none kV3 dc3 pm3 an3 cd3 ct3), sl3⟩)
    (c3 : PySem.W.codeIn K cd3 "worth_of" = true) (k3 : PySem.W.keepIn K (.ref f3) = true)
    (a4 : PySem.W.nsIn K mainGlobals "added" = some (some (.ref f4)))
    (l4 : K.lookup f4 = some ⟨oc4, od4, .func (PySem.W.fnOf "added" "added" (defArgs s_added) (defBody s_added) (defScope s_added) .none kV4 dc4 pm4 an4 cd4 ct4), sl4⟩)
    (c4 : PySem.W.codeIn K cd4 "added" = true) (k4 : PySem.W.keepIn K (.ref f4) = true)
    (a5 : PySem.W.nsIn K mainGlobals "_law_cell_at" = some (some (.ref f5)))
    (l5 : K.lookup f5 = some ⟨oc5, od5, .func (PySem.W.fnOf "_law_cell_at" "_law_cell_at" (defArgs s__law_cell_at) (defBody s__law_cell_at) (defScope s__law_cell_at) .none kV5 dc5 pm5 an5 cd5 ct5), sl5⟩)
    (c5 : PySem.W.codeIn K cd5 "_law_cell_at" = true) (k5 : PySem.W.keepIn K (.ref f5) = true)
    (a6 : PySem.W.nsIn K mainGlobals "moves" = some (some (.ref f6)))
    (l6 : K.lookup f6 = some ⟨oc6, od6, .func (PySem.W.fnOf "moves" "moves" (defArgs s_moves) (defBody s_moves) (defScope s_moves) .none kV6 dc6 pm6 an6 cd6 ct6), sl6⟩)
    (c6 : PySem.W.codeIn K cd6 "moves" = true) (k6 : PySem.W.keepIn K (.ref f6) = true)
    (a7 : PySem.W.nsIn K mainGlobals "leading_of" = some (some (.ref f7)))
    (l7 : K.lookup f7 = some ⟨oc7, od7, .func (PySem.W.fnOf "leading_of" "leading_of" (defArgs s_leading_of) (defBody s_leading_of) (defScope s_leading_of) .none kV7 dc7 pm7 an7 cd7 ct7), sl7⟩)
    (c7 : PySem.W.codeIn K cd7 "leading_of" = true) (k7 : PySem.W.keepIn K (.ref f7) = true)
    (a8 : PySem.W.nsIn K mainGlobals "asked_table" = some (some (.ref f8)))
    (l8 : K.lookup f8 = some ⟨oc8, od8, .func (PySem.W.fnOf "asked_table" "asked_table" (defArgs s_asked_table) (defBody s_asked_table) (defScope s_asked_table) .none kV8 dc8 pm8 an8 cd8 ct8), sl8⟩)
    (c8 : PySem.W.codeIn K cd8 "asked_table" = true) (k8 : PySem.W.keepIn K (.ref f8) = true)
    (a9 : PySem.W.nsIn K mainGlobals "_law_small_by" = some (some (.ref f9)))
    (l9 : K.lookup f9 = some ⟨oc9, od9, .func (PySem.W.fnOf "_law_small_by" "_law_small_by" (defArgs s__law_small_by) (defBody s__law_small_by) (defScope s__law_small_by) .none kV9 dc9 pm9 an9 cd9 ct9), sl9⟩)
    (c9 : PySem.W.codeIn K cd9 "_law_small_by" = true) (k9 : PySem.W.keepIn K (.ref f9) = true)
    (a10 : PySem.W.nsIn K mainGlobals "together" = some (some (.ref f10)))
    (l10 : K.lookup f10 = some ⟨oc10, od10, .func (PySem.W.fnOf "together" "together" (defArgs s_together) (defBody s_together) (defScope s_together) .none kV10 dc10 pm10 an10 cd10 ct10), sl10⟩)
    (c10 : PySem.W.codeIn K cd10 "together" = true) (k10 : PySem.W.keepIn K (.ref f10) = true)
    (a11 : PySem.W.nsIn K mainGlobals "moved" = some (some (.ref f11)))
    (l11 : K.lookup f11 = some ⟨oc11, od11, .func (PySem.W.fnOf "moved" "moved" (defArgs s_moved) (defBody s_moved) (defScope s_moved) .none kV11 dc11 pm11 an11 cd11 ct11), sl11⟩)
    (c11 : PySem.W.codeIn K cd11 "moved" = true) (k11 : PySem.W.keepIn K (.ref f11) = true)
    (a12 : PySem.W.nsIn K mainGlobals "_law_drawn" = some (some (.ref f12)))
    (l12 : K.lookup f12 = some ⟨oc12, od12, .func (PySem.W.fnOf "_law_drawn" "_law_drawn" (defArgs s__law_drawn) (defBody s__law_drawn) (defScope s__law_drawn) .none kV12 dc12 pm12 an12 cd12 ct12), sl12⟩)
    (c12 : PySem.W.codeIn K cd12 "_law_drawn" = true) (k12 : PySem.W.keepIn K (.ref f12) = true)
    (a13 : PySem.W.nsIn K mainGlobals "wins" = some (some (.ref f13)))
    (l13 : K.lookup f13 = some ⟨oc13, od13, .func (PySem.W.fnOf "wins" "wins" (defArgs s_wins) (defBody s_wins) (defScope s_wins) .none kV13 dc13 pm13 an13 cd13 ct13), sl13⟩)
    (c13 : PySem.W.codeIn K cd13 "wins" = true) (k13 : PySem.W.keepIn K (.ref f13) = true)
    (a14 : PySem.W.nsIn K mainGlobals "winning" = some (some (.ref f14)))
    (l14 : K.lookup f14 = some ⟨oc14, od14, .func (PySem.W.fnOf "winning" "winning" (defArgs s_winning) (defBody s_winning) (defScope s_winning) .none kV14 dc14 pm14 an14 cd14 ct14), sl14⟩)
    (c14 : PySem.W.codeIn K cd14 "winning" = true) (k14 : PySem.W.keepIn K (.ref f14) = true)
    (a15 : PySem.W.nsIn K mainGlobals "law" = some (some (.ref f15)))
    (l15 : K.lookup f15 = some ⟨oc15, od15, .func (PySem.W.fnOf "law" "law" (defArgs s_law) (defBody s_law) (defScope s_law) .none kV15 dc15 pm15 an15 cd15 ct15), sl15⟩)
    (c15 : PySem.W.codeIn K cd15 "law" = true) (k15 : PySem.W.keepIn K (.ref f15) = true)
    (z_enumerate : PySem.W.nsIn K mainGlobals "enumerate" = some none)
    (z_len : PySem.W.nsIn K mainGlobals "len" = some none)
    (z_max : PySem.W.nsIn K mainGlobals "max" = some none)
    (z_min : PySem.W.nsIn K mainGlobals "min" = some none)
    (z_range : PySem.W.nsIn K mainGlobals "range" = some none)
    (g_GREATEST : PySem.W.nsIn K mainGlobals "GREATEST" = some (some (.int 1000000000000000000000000000000 t_GREATEST)))
    (g_MOST : PySem.W.nsIn K mainGlobals "MOST" = some (some (.int 6 t_MOST))) :
    ∃ fd : FuncData, (∀ (s : Shared) (u : Value), BindsTo s fd ⟨[u], []⟩ [("script", u)]) ∧ ∀ base : Heap, K.In base → base.Ns mainGlobals mg → FnOk P w K mg base CX0 5 fa fd ["script"] (sp_law K) := by
  have e := hfa.symm.trans (PySem.W.mg_of X G a15)
  cases e
  have T : Txt K mg := ⟨PySem.W.mg_none_of X G z_enumerate, PySem.W.mg_none_of X G z_len, PySem.W.mg_none_of X G z_max, PySem.W.mg_none_of X G z_min, PySem.W.mg_none_of X G z_range, ⟨_, PySem.W.mg_of X G g_GREATEST, ⟨_, rfl⟩⟩, ⟨_, PySem.W.mg_of X G g_MOST, ⟨_, rfl⟩⟩⟩
  have F0 : Df K mg "asked_pair" s_asked_pair := ⟨_, _, fun_mk (st := s_asked_pair) l0 c0 k0, PySem.W.mg_of X G a0⟩
  have F1 : Df K mg "moves_of" s_moves_of := ⟨_, _, fun_mk (st := s_moves_of) l1 c1 k1, PySem.W.mg_of X G a1⟩
  have F2 : Df K mg "behind" s_behind := ⟨_, _, fun_mk (st := s_behind) l2 c2 k2, PySem.W.mg_of X G a2⟩
  have F3 : Df K mg "worth_of" s_worth_of := ⟨_, _, fun_mk (st := s_worth_of) l3 c3 k3, PySem.W.mg_of X G a3⟩
  have F4 : Df K mg "added" s_added := ⟨_, _, fun_mk (st := s_added) l4 c4 k4, PySem.W.mg_of X G a4⟩
  have F5 : Df K mg "_law_cell_at" s__law_cell_at := ⟨_, _, fun_mk (st := s__law_cell_at) l5 c5 k5, PySem.W.mg_of X G a5⟩
  have F6 : Df K mg "moves" s_moves := ⟨_, _, fun_mk (st := s_moves) l6 c6 k6, PySem.W.mg_of X G a6⟩
  have F7 : Df K mg "leading_of" s_leading_of := ⟨_, _, fun_mk (st := s_leading_of) l7 c7 k7, PySem.W.mg_of X G a7⟩
  have F8 : Df K mg "asked_table" s_asked_table := ⟨_, _, fun_mk (st := s_asked_table) l8 c8 k8, PySem.W.mg_of X G a8⟩
  have F9 : Df K mg "_law_small_by" s__law_small_by := ⟨_, _, fun_mk (st := s__law_small_by) l9 c9 k9, PySem.W.mg_of X G a9⟩
  have F10 : Df K mg "together" s_together := ⟨_, _, fun_mk (st := s_together) l10 c10 k10, PySem.W.mg_of X G a10⟩
  have F11 : Df K mg "moved" s_moved := ⟨_, _, fun_mk (st := s_moved) l11 c11 k11, PySem.W.mg_of X G a11⟩
  have F12 : Df K mg "_law_drawn" s__law_drawn := ⟨_, _, fun_mk (st := s__law_drawn) l12 c12 k12, PySem.W.mg_of X G a12⟩
  have F13 : Df K mg "wins" s_wins := ⟨_, _, fun_mk (st := s_wins) l13 c13 k13, PySem.W.mg_of X G a13⟩
  have F14 : Df K mg "winning" s_winning := ⟨_, _, fun_mk (st := s_winning) l14 c14 k14, PySem.W.mg_of X G a14⟩
  have FL := fun_mk (st := s_law) l15 c15 k15
  refine ⟨PySem.W.fnOf "law" "law" (defArgs s_law) (defBody s_law) (defScope s_law) .none kV15 dc15 pm15 an15 cd15 ct15, fun s u => .of_eq rfl, fun base _ _ => ?_⟩
  have c_asked_pair : Cl P w K mg base 1 "asked_pair" (sp_asked_pair K) := ok_asked_pair F0 T 
  have c_moves_of : Cl P w K mg base 1 "moves_of" (sp_moves_of K) := ok_moves_of F1 T 
  have c_behind : Cl P w K mg base 1 "behind" (sp_behind K) := ok_behind F2 T 
  have c_worth_of : Cl P w K mg base 1 "worth_of" (sp_worth_of K) := ok_worth_of F3 T 
  have c_added : Cl P w K mg base 1 "added" (sp_added K) := ok_added F4 T 
  have c__law_cell_at : Cl P w K mg base 1 "_law_cell_at" (sp__law_cell_at K) := ok__law_cell_at F5 T 
  have c_moves : Cl P w K mg base 2 "moves" (sp_moves K) := ok_moves F6 T c_asked_pair c_moves_of
  have c_leading_of : Cl P w K mg base 2 "leading_of" (sp_leading_of K) := ok_leading_of F7 T c_moves_of c_behind c_worth_of
  have c_asked_table : Cl P w K mg base 2 "asked_table" (sp_asked_table K) := ok_asked_table F8 T c_asked_pair
  have c__law_small_by : Cl P w K mg base 2 "_law_small_by" (sp__law_small_by K) := ok__law_small_by F9 T c__law_cell_at
  have c_together : Cl P w K mg base 3 "together" (sp_together K) := ok_together F10 T c_worth_of c_asked_table c_added
  have c_moved : Cl P w K mg base 3 "moved" (sp_moved K) := ok_moved F11 T c_moves_of c_behind c_asked_table
  have c__law_drawn : Cl P w K mg base 3 "_law_drawn" (sp__law_drawn K) := ok__law_drawn F12 T c_moves
  have c_wins : Cl P w K mg base 4 "wins" (sp_wins K) := ok_wins F13 T c_together
  have c_winning : Cl P w K mg base 4 "winning" (sp_winning K) := ok_winning F14 T c_worth_of c_leading_of c_added c_together
  exact ok_law FL T c_wins c_winning c_moved c__law_cell_at c__law_small_by c__law_drawn
end Tk
open PySem PySem.W PyProof.Rows
set_option maxRecDepth 100000 in
set_option maxHeartbeats 8000000 in
theorem PySem.Challenge.cw_takepairs_k09_whole_played_holds : PySem.Challenge.rw_takepairs_k09_whole_played.Holds := by
  w_on; o_law; k_head; (case hw => w_witness2)
  k_fill
  refine L2.walk_of (l := PySem.Challenge.rw_takepairs_k09_whole_played) (n := 63) (k := 5) (x := "script") (CX := fun _ => L2.CX0) (sp := fun w => Tk.sp_law _) rfl (by decide) rfl ⟨rfl, by decide, by decide⟩ (fun w h Y => PySem.W.kIn_of Y) ?F (fun _ _ a ns hl _ hS => ⟨a, ns, rfl, hS, hl, by intro H2; intros; rfl⟩) (fun _ _ _ _ _ h => h)
  case F =>
    intro w mg fa h KX G hmg
    refine' Tk.all_mk KX G hmg ?a0 ?l0 ?c0 ?k0 ?a1 ?l1 ?c1 ?k1 ?a2 ?l2 ?c2 ?k2 ?a3 ?l3 ?c3 ?k3 ?a4 ?l4 ?c4 ?k4 ?a5 ?l5 ?c5 ?k5 ?a6 ?l6 ?c6 ?k6 ?a7 ?l7 ?c7 ?k7 ?a8 ?l8 ?c8 ?k8 ?a9 ?l9 ?c9 ?k9 ?a10 ?l10 ?c10 ?k10 ?a11 ?l11 ?c11 ?k11 ?a12 ?l12 ?c12 ?k12 ?a13 ?l13 ?c13 ?k13 ?a14 ?l14 ?c14 ?k14 ?a15 ?l15 ?c15 ?k15 ?z_enumerate ?z_len ?z_max ?z_min ?z_range ?g_GREATEST ?g_MOST
    (case a0 => k_is)
    (case l0 => k_is)
    (case c0 => k_is)
    (case k0 => k_is)
    (case a1 => k_is)
    (case l1 => k_is)
    (case c1 => k_is)
    (case k1 => k_is)
    (case a2 => k_is)
    (case l2 => k_is)
    (case c2 => k_is)
    (case k2 => k_is)
    (case a3 => k_is)
    (case l3 => k_is)
    (case c3 => k_is)
    (case k3 => k_is)
    (case a4 => k_is)
    (case l4 => k_is)
    (case c4 => k_is)
    (case k4 => k_is)
    (case a5 => k_is)
    (case l5 => k_is)
    (case c5 => k_is)
    (case k5 => k_is)
    (case a6 => k_is)
    (case l6 => k_is)
    (case c6 => k_is)
    (case k6 => k_is)
    (case a7 => k_is)
    (case l7 => k_is)
    (case c7 => k_is)
    (case k7 => k_is)
    (case a8 => k_is)
    (case l8 => k_is)
    (case c8 => k_is)
    (case k8 => k_is)
    (case a9 => k_is)
    (case l9 => k_is)
    (case c9 => k_is)
    (case k9 => k_is)
    (case a10 => k_is)
    (case l10 => k_is)
    (case c10 => k_is)
    (case k10 => k_is)
    (case a11 => k_is)
    (case l11 => k_is)
    (case c11 => k_is)
    (case k11 => k_is)
    (case a12 => k_is)
    (case l12 => k_is)
    (case c12 => k_is)
    (case k12 => k_is)
    (case a13 => k_is)
    (case l13 => k_is)
    (case c13 => k_is)
    (case k13 => k_is)
    (case a14 => k_is)
    (case l14 => k_is)
    (case c14 => k_is)
    (case k14 => k_is)
    (case a15 => k_is)
    (case l15 => k_is)
    (case c15 => k_is)
    (case k15 => k_is)
    (case z_enumerate => k_is)
    (case z_len => k_is)
    (case z_max => k_is)
    (case z_min => k_is)
    (case z_range => k_is)
    (case g_GREATEST => k_is)
    (case g_MOST => k_is)
#print axioms PySem.Challenge.cw_takepairs_k09_whole_played_holds
