import PyProof.Rows.All
import Wide.All
import OpenK.AllK
import Wide.FinOn
import HandS.ForMost
import HandS.Exc
import HandS.TryOnly
import HandS.ExcOwn
import HandS.WordsExc
import HandS.Wide
import HandS.IsInst
import HandS.Evl
import HandS.Zip
import PySem.Challenge.RW_takepairs_k12_whole_plays_between
set_option Elab.async false
set_option linter.all false
set_option maxRecDepth 100000
set_option maxHeartbeats 2000000
/-! Tk: the layer of this claim: pairs, step lemmas for readings, rules for max and min of a pair -/
namespace Tk
open PySem PySem.Spec PyProof.Rows L2 Evl

/-! ### pairs -/
/-- v is a tuple of the two ints -/
def Pr (K : PySem.W.Frag) (H : Hp) (v : V) (x y : Int) : Prop := ∃ a, v = .ref a ∧ SqT K H a [.int x, .int y]
theorem Pr.mono {K : PySem.W.Frag} {H H' : Hp} {v : V} {x y : Int} (e : Ex H H') (h : Pr K H v x y) : Pr K H' v x y := by
  obtain ⟨a, rfl, h⟩ := h
  exact ⟨a, rfl, ex_t e h⟩
theorem Pr.of {K : PySem.W.Frag} {H : Hp} {a : Addr} {x y : Int} (h : H a = some (.tup [.int x, .int y])) : Pr K H (.ref a) x y := ⟨a, rfl, st_of h⟩

/-! ### max and min of a tuple of two ints -/
section
variable {prog : Program} {w : World} {A : Around} {E : Value → Shared → Prop} {s : Shared} {l : Addr}
theorem max_tup2 {a b : Int} {t u : Tok} {Q : Value → Shared → Prop} (hh : A.handled = none) (hT : s.heap.IsTuple l #[.int a t, .int b u])
    (h : ∀ h' tk, (∀ c o, s.heap.get? c = some o → h'.get? c = some o) → Q (if b > a then .int b u else .int a t) { s with heap := h', toks := tk }) :
    wpAny (model prog w) A (call (.builtin "max") [.ref l]) Q E s := by
  have hlt : l < s.heap.objs.size := by obtain ⟨_, e, _⟩ := hT; exact Heap.lt_size e
  have e0 : (#[.int a t, .int b u] : Array Value) = intItems #[(a, t), (b, u)] := by simp [intItems]
  rw [e0] at hT
  refine call_max_walk (wpAny_pyIter_tuple hT ?_)
  refine ⟨_, [_, l], [_], _, _, _, _, rfl, Walks.tuple (A := A.in1) hh _ l (Nat.ne_of_lt hlt) (intItems #[(a, t), (b, u)]),
    ⟨⟨_, Heap.get?_push_size _ rfl, rfl, rfl⟩, hT.push _⟩, fun c hc => ?_, by simp [intItems], CmpOf.ints_gt (numAt #[(a, t), (b, u)]) (fun _ _ => intItems_at), fun v h' tk hP hk => ?_⟩
  · show c < (s.heap.push _).objs.size
    rw [Heap.size_push]
    rcases List.mem_cons.mp hc with rfl | hc
    · exact Nat.lt_succ_self _
    · rcases List.mem_cons.mp hc with rfl | hc
      · exact Nat.lt_succ_of_lt hlt
      · cases hc
  · have hold : ∀ c o, s.heap.get? c = some o → h'.get? c = some o := fun c o e => by
      refine hk c o (fun hm => ?_) (Heap.get?_push_of_some _ e)
      rcases List.mem_cons.mp hm with e1 | hm
      · have := Heap.lt_size e; rw [e1] at this; exact Nat.lt_irrefl _ this
      · cases hm
    have := h h' tk hold
    have hv : v = if b > a then Value.int b u else Value.int a t := by
      have hP' : (intItems #[(a, t), (b, u)])[argBest (fun i j => decide (numAt #[(a, t), (b, u)] i > numAt #[(a, t), (b, u)] j)) 1]? = some v := by
        have hsz2 : (intItems #[(a, t), (b, u)]).size - 1 = 1 := by simp [intItems]
        rw [← hsz2]; exact hP
      by_cases hba : b > a
      · have e : argBest (fun i j => decide (numAt #[(a, t), (b, u)] i > numAt #[(a, t), (b, u)] j)) 1 = 1 := by simp [argBest, numAt, hba]
        rw [e] at hP'
        simpa [intItems, hba] using hP'.symm
      · have e : argBest (fun i j => decide (numAt #[(a, t), (b, u)] i > numAt #[(a, t), (b, u)] j)) 1 = 0 := by simp [argBest, numAt, hba]
        rw [e] at hP'
        simpa [intItems, hba] using hP'.symm
    rw [hv]; exact this
theorem min_tup2 {a b : Int} {t u : Tok} {Q : Value → Shared → Prop} (hh : A.handled = none) (hT : s.heap.IsTuple l #[.int a t, .int b u])
    (h : ∀ h' tk, (∀ c o, s.heap.get? c = some o → h'.get? c = some o) → Q (if b < a then .int b u else .int a t) { s with heap := h', toks := tk }) :
    wpAny (model prog w) A (call (.builtin "min") [.ref l]) Q E s := by
  have hlt : l < s.heap.objs.size := by obtain ⟨_, e, _⟩ := hT; exact Heap.lt_size e
  have e0 : (#[.int a t, .int b u] : Array Value) = intItems #[(a, t), (b, u)] := by simp [intItems]
  rw [e0] at hT
  refine call_min_walk (wpAny_pyIter_tuple hT ?_)
  refine ⟨_, [_, l], [_], _, _, _, _, rfl, Walks.tuple (A := A.in1) hh _ l (Nat.ne_of_lt hlt) (intItems #[(a, t), (b, u)]),
    ⟨⟨_, Heap.get?_push_size _ rfl, rfl, rfl⟩, hT.push _⟩, fun c hc => ?_, by simp [intItems], CmpOf.ints_lt (numAt #[(a, t), (b, u)]) (fun _ _ => intItems_at), fun v h' tk hP hk => ?_⟩
  · show c < (s.heap.push _).objs.size
    rw [Heap.size_push]
    rcases List.mem_cons.mp hc with rfl | hc
    · exact Nat.lt_succ_self _
    · rcases List.mem_cons.mp hc with rfl | hc
      · exact Nat.lt_succ_of_lt hlt
      · cases hc
  · have hold : ∀ c o, s.heap.get? c = some o → h'.get? c = some o := fun c o e => by
      refine hk c o (fun hm => ?_) (Heap.get?_push_of_some _ e)
      rcases List.mem_cons.mp hm with e1 | hm
      · have := Heap.lt_size e; rw [e1] at this; exact Nat.lt_irrefl _ this
      · cases hm
    have := h h' tk hold
    have hv : v = if b < a then Value.int b u else Value.int a t := by
      have hP' : (intItems #[(a, t), (b, u)])[argBest (fun i j => decide (numAt #[(a, t), (b, u)] i < numAt #[(a, t), (b, u)] j)) 1]? = some v := by
        have hsz2 : (intItems #[(a, t), (b, u)]).size - 1 = 1 := by simp [intItems]
        rw [← hsz2]; exact hP
      by_cases hba : b < a
      · have e : argBest (fun i j => decide (numAt #[(a, t), (b, u)] i < numAt #[(a, t), (b, u)] j)) 1 = 1 := by simp [argBest, numAt, hba]
        rw [e] at hP'
        simpa [intItems, hba] using hP'.symm
      · have e : argBest (fun i j => decide (numAt #[(a, t), (b, u)] i < numAt #[(a, t), (b, u)] j)) 1 = 0 := by simp [argBest, numAt, hba]
        rw [e] at hP'
        simpa [intItems, hba] using hP'.symm
    rw [hv]; exact this
end
section
variable {X : Cx}
theorem Pr.get {pins : List (Addr × Obj)} {σ : L2.St} {H : Hp} {s : Shared} {v : V} {x y : Int} (I : Inv X pins σ H s) (h : Pr X.K H v x y) : ∃ a t u, v = .ref a ∧ s.heap.IsTuple a #[.int x t, .int y u] := by
  obtain ⟨a, rfl, hq⟩ := h
  obtain ⟨its, rv, ht, hz⟩ := I.tuple hq
  cases rv with
  | cons r1 rr =>
    cases rr with
    | cons r2 rr =>
      cases rr
      obtain ⟨t, rfl⟩ := r1
      obtain ⟨u, rfl⟩ := r2
      exact ⟨a, t, u, rfl, ht⟩
def rMaxT (K : PySem.W.Frag) : List V → Hp → VK → Prop := fun vs H Q => ∃ v x y, vs = [v] ∧ Pr K H v x y ∧ Q (.int (max x y)) H
def rMinT (K : PySem.W.Frag) : List V → Hp → VK → Prop := fun vs H Q => ∃ v x y, vs = [v] ∧ Pr K H v x y ∧ Q (.int (min x y)) H
def rMax2 : List V → Hp → VK → Prop := fun xs H Q => ∃ i j, xs = [.int i, .int j] ∧ Q (.int (max i j)) H
def rMin2 : List V → Hp → VK → Prop := fun xs H Q => ∃ i j, xs = [.int i, .int j] ∧ Q (.int (min i j)) H
theorem call_maxT (hc : X.calm = true) : CallR X (.builtin "max") (rMaxT X.K) := by
  intro pins s σ H xs us Q I r h
  obtain ⟨v, x, y, rfl, hp, q⟩ := h
  obtain ⟨a, t, u, rfl, ht⟩ := hp.get I
  cases r with
  | cons r rr =>
    cases rr
    obtain rfl : _ = Value.ref a := r
    refine max_tup2 (I.ok.hd hc) ht fun h' tk hk => ?_
    by_cases c : y > x
    · rw [if_pos c]
      exact ⟨.int (max x y), H, I.kept hk, ⟨u, by congr 1; omega⟩, q⟩
    · rw [if_neg c]
      exact ⟨.int (max x y), H, I.kept hk, ⟨t, by congr 1; omega⟩, q⟩
theorem call_minT (hc : X.calm = true) : CallR X (.builtin "min") (rMinT X.K) := by
  intro pins s σ H xs us Q I r h
  obtain ⟨v, x, y, rfl, hp, q⟩ := h
  obtain ⟨a, t, u, rfl, ht⟩ := hp.get I
  cases r with
  | cons r rr =>
    cases rr
    obtain rfl : _ = Value.ref a := r
    refine min_tup2 (I.ok.hd hc) ht fun h' tk hk => ?_
    by_cases c : y < x
    · rw [if_pos c]
      exact ⟨.int (min x y), H, I.kept hk, ⟨u, by congr 1; omega⟩, q⟩
    · rw [if_neg c]
      exact ⟨.int (min x y), H, I.kept hk, ⟨t, by congr 1; omega⟩, q⟩
theorem call_max2' (hc : X.calm = true) : CallR X (.builtin "max") rMax2 := by
  intro pins s σ H xs us Q I r h
  obtain ⟨i, j, e, q⟩ := h
  refine call_max2 hc pins s σ H xs us Q I r ⟨i, j, e, ?_⟩
  have e2 : (if j > i then j else i) = max i j := by omega
  rw [e2]; exact q
theorem call_min2' (hc : X.calm = true) : CallR X (.builtin "min") rMin2 := by
  intro pins s σ H xs us Q I r h
  obtain ⟨i, j, e, q⟩ := h
  refine call_min2 hc pins s σ H xs us Q I r ⟨i, j, e, ?_⟩
  have e2 : (if j < i then j else i) = min i j := by omega
  rw [e2]; exact q
end

/-! ### one step of a reading -/
section
variable {K : PySem.W.Frag} {σ : L2.St} {H : Hp} {Q : VK} {ta tb te tc : TE} {tr t : TA} {QA : List V → Hp → Prop} {D : Ends} {ts us : TS} {tt tu : TT} {v x y z : V} {r : R2} {i j : Int}
theorem d_var {i : Nat} (h : σ[i]? = some (some v)) (q : Q v H) : tVar i σ H Q := ⟨v, h, q⟩
theorem d_c (q : Q v H) : tC v σ H Q := q
theorem d_op (q : ta σ H fun x H1 => tb σ H1 fun y H2 => r x y H2 Q) : tOp r ta tb σ H Q := q
theorem d_un {r : V → Hp → VK → Prop} (q : ta σ H fun x H1 => r x H1 Q) : tUn r ta σ H Q := q
theorem d_rI0 {g : Int → Int → V} (q : Q (g i j) H) : rI0 g (.int i) (.int j) H Q := ⟨i, j, rfl, rfl, q⟩
theorem d_rI {C : Int → Int → Prop} {g : Int → Int → V} (hc : C i j) (q : Q (g i j) H) : rI C g (.int i) (.int j) H Q := ⟨i, j, rfl, rfl, hc, q⟩
theorem d_pow30 (q : Q (.int 1000000000000000000000000000000) H) : rI CPow (fun i j => .int (i ^ j.toNat)) (.int 10) (.int 30) H Q := ⟨10, 30, rfl, rfl, ⟨by decide, by decide, by decide⟩, q⟩
theorem d_rU {g : Int → V} (q : Q (g i) H) : rU g (.int i) H Q := ⟨i, rfl, q⟩
theorem d_eq (h : scal x y = true) (q : Q (.bl (decide (x = y))) H) : rEq x y H Q := ⟨h, q⟩
theorem d_ne (h : scal x y = true) (q : Q (.bl (!decide (x = y))) H) : rNe x y H Q := ⟨h, q⟩
theorem d_eqI (q : Q (.bl (decide (i = j))) H) : rEq (.int i) (.int j) H Q := by
  have e : decide (V.int i = V.int j) = decide (i = j) := by simp
  exact ⟨rfl, by rw [e]; exact q⟩
theorem d_neI (q : Q (.bl (!decide (i = j))) H) : rNe (.int i) (.int j) H Q := by
  have e : decide (V.int i = V.int j) = decide (i = j) := by simp
  exact ⟨rfl, by rw [e]; exact q⟩
theorem d_eqS {i j : Str} (q : Q (.bl (decide (i = j))) H) : rEq (.str i) (.str j) H Q := by
  have e : decide (V.str i = V.str j) = decide (i = j) := by simp
  exact ⟨rfl, by rw [e]; exact q⟩
theorem d_neS {i j : Str} (q : Q (.bl (!decide (i = j))) H) : rNe (.str i) (.str j) H Q := by
  have e : decide (V.str i = V.str j) = decide (i = j) := by simp
  exact ⟨rfl, by rw [e]; exact q⟩
theorem d_eqB {i j : Bool} (q : Q (.bl (decide (i = j))) H) : rEq (.bl i) (.bl j) H Q := by
  have e : decide (V.bl i = V.bl j) = decide (i = j) := by simp
  exact ⟨rfl, by rw [e]; exact q⟩
theorem d_nil (q : QA [] H) : tNil σ H QA := q
theorem d_cons (q : ta σ H fun x H1 => tr σ H1 fun xs H2 => QA (x :: xs) H2) : tCons ta tr σ H QA := q
/-- a new tuple, a new list -/
def rNewT (xs : List V) (H : Hp) (Q : VK) : Prop := xs.length ≤ sizeLine ∧ ∀ p, H p = none → Q (.ref p) (upd H p (.tup xs))
def rNewL (xs : List V) (H : Hp) (Q : VK) : Prop := xs.length ≤ sizeLine ∧ ∀ p, H p = none → Q (.ref p) (upd H p (.lst xs))
theorem d_tup (q : t σ H fun xs H1 => rNewT xs H1 Q) : tTup t σ H Q := q
theorem d_lst (q : t σ H fun xs H1 => rNewL xs H1 Q) : tLst t σ H Q := q
theorem small_sz {xs : List V} (h : xs.length ≤ 1000) : xs.length ≤ sizeLine := sz_of (Nat.le_trans h (by decide))
theorem d_newP (q : ∀ v H2, Ex H H2 → Pr K H2 v i j → Q v H2) : rNewT [.int i, .int j] H Q :=
  ⟨small_sz (by show 2 ≤ 1000; decide), fun p hp => q _ _ (Ex.new hp) ⟨p, rfl, st_of upd_same⟩⟩
theorem d_newT {xs : List V} (hl : xs.length ≤ 1000) (q : ∀ p H2, H p = none → Ex H H2 → H2 p = some (.tup xs) → Q (.ref p) H2) : rNewT xs H Q := ⟨small_sz hl, fun p hp => q p _ hp (Ex.new hp) upd_same⟩
theorem d_newL {xs : List V} (hl : xs.length ≤ 1000) (q : ∀ p H2, H p = none → Ex H H2 → H2 p = some (.lst xs) → Q (.ref p) H2) : rNewL xs H Q := ⟨small_sz hl, fun p hp => q p _ hp (Ex.new hp) upd_same⟩
theorem d_call {sp : Sp} {E : XK} (q : t σ H fun vs H1 => sp vs H1 Q E) : tCall sp [] E t σ H Q := by
  show t σ H fun vs H1 => sp (vs ++ []) H1 Q E
  simp only [List.append_nil]
  exact q
theorem d_cb {r : List V → Hp → VK → Prop} (q : t σ H fun vs H1 => r vs H1 Q) : tCB r t σ H Q := q
theorem d_maxT (h : Pr K H v i j) (q : Q (.int (max i j)) H) : rMaxT K [v] H Q := ⟨v, i, j, rfl, h, q⟩
theorem d_minT (h : Pr K H v i j) (q : Q (.int (min i j)) H) : rMinT K [v] H Q := ⟨v, i, j, rfl, h, q⟩
theorem d_max2 (q : Q (.int (max i j)) H) : rMax2 [.int i, .int j] H Q := ⟨i, j, rfl, q⟩
theorem d_min2 (q : Q (.int (min i j)) H) : rMin2 [.int i, .int j] H Q := ⟨i, j, rfl, q⟩
theorem d_ixP0 (h : Pr K H v i j) (q : Q (.int i) H) : rIxT K v (.int 0) H Q := by
  obtain ⟨a, rfl, h⟩ := h
  exact ⟨a, _, 0, _, rfl, rfl, h, rfl, q⟩
theorem d_ixP1 (h : Pr K H v i j) (q : Q (.int j) H) : rIxT K v (.int 1) H Q := by
  obtain ⟨a, rfl, h⟩ := h
  exact ⟨a, _, 1, _, rfl, rfl, h, rfl, q⟩
theorem d_ixL {p : Addr} {xs : List V} (h : SqL K H p xs) (ha : atI xs i = some v) (q : Q v H) : rIxL K (.ref p) (.int i) H Q := ⟨p, xs, i, v, rfl, rfl, h, ha, q⟩
theorem d_ixT {p : Addr} {xs : List V} (h : SqT K H p xs) (ha : atI xs i = some v) (q : Q v H) : rIxT K (.ref p) (.int i) H Q := ⟨p, xs, i, v, rfl, rfl, h, ha, q⟩
theorem d_len {p : Addr} {xs : List V} (h : SqL K H p xs) (q : Q (.int (xs.length : Int)) H) : rLenS K [.ref p] H Q := ⟨p, xs, rfl, .inl h, q⟩
theorem d_sum {p : Addr} {ns : List Int} (h : SqL K H p (ns.map V.int)) (q : Q (.int ns.sum) H) : rSum K [.ref p] H Q := ⟨p, ns, rfl, h, q⟩
theorem d_ev (h : Ev te σ H v) (q : ∀ H1, Ex H H1 → Q v H1) : te σ H Q := h H (Ex.refl H) Q q
theorem d_ifE {b : Bool} (h : EvT tt σ H b) (h1 : b = true → ∀ H1, Ex H H1 → ta σ H1 Q) (h0 : b = false → ∀ H1, Ex H H1 → tb σ H1 Q) : tIf tt ta tb σ H Q := h H (Ex.refl H) _ fun H1 e1 => by
  cases b with
  | true => exact h1 rfl H1 e1
  | false => exact h0 rfl H1 e1
/-- a chain of two comparisons of ints -/
theorem ev_chain {f g : Int → Int → Bool} {a b c : Int} (h1 : Ev ta σ H (.int a)) (h2 : Ev tb σ H (.int b)) (h3 : Ev tc σ H (.int c)) : Ev (tChain (rI0 fun i j => .bl (f i j)) (rI0 fun i j => .bl (g i j)) ta tb tc) σ H (.bl (f a b && g b c)) := fun H1 e Q q =>
  h1 H1 e _ fun H2 e2 => h2 H2 (e.trans e2) _ fun H3 e3 => ⟨a, b, rfl, rfl, f a b, rfl, by
    cases hf : f a b with
    | true =>
      rw [if_pos rfl]
      exact h3 H3 ((e.trans e2).trans e3) _ fun H4 e4 => ⟨b, c, rfl, rfl, by rw [hf, Bool.true_and] at q; exact q H4 ((e2.trans e3).trans e4)⟩
    | false =>
      rw [if_neg Bool.false_ne_true]
      rw [hf, Bool.false_and] at q
      exact q H3 (e2.trans e3)⟩
/-- statements -/
theorem d_seq (q : ts { D with nx := us D } σ H) : tSeq ts us D σ H := q
theorem d_asg {i : Nat} (q : te σ H fun x H1 => D.nx (σ.set i (some x)) H1) : tAsg te (gName i) D σ H := q
theorem d_gName {i : Nat} {v : V} {Q : L2.St → Hp → Prop} (q : Q (σ.set i (some v)) H) : gName i v σ H Q := q
theorem d_asgG {g : TG} (q : te σ H fun x H1 => g x σ H1 D.nx) : tAsg te g D σ H := q
theorem d_gTupP {i j : Nat} {x y : Int} {Q : L2.St → Hp → Prop} (h : Pr K H v x y) (q : Q ((σ.set i (some (.int x))).set j (some (.int y))) H) : gTup K 2 (gCons (gName i) (gCons (gName j) gNil)) v σ H Q := by
  obtain ⟨a, rfl, h⟩ := h
  exact ⟨a, _, rfl, h, rfl, _, _, rfl, _, _, rfl, rfl, q⟩
theorem d_gTup2 {i j : Nat} {p : Addr} {x y : V} {Q : L2.St → Hp → Prop} (h : SqT K H p [x, y]) (q : Q ((σ.set i (some x)).set j (some y)) H) : gTup K 2 (gCons (gName i) (gCons (gName j) gNil)) (.ref p) σ H Q := ⟨p, _, rfl, h, rfl, _, _, rfl, _, _, rfl, rfl, q⟩
theorem d_ret (q : te σ H D.rt) : tRet te D σ H := q
theorem d_retN (q : D.rt .non H) : tRetN D σ H := q
theorem d_drop (q : te σ H fun _ H1 => D.nx σ H1) : tDrop te D σ H := q
theorem d_next (q : D.nx σ H) : tNext D σ H := q
theorem d_if {b : Bool} (h : EvT tt σ H b) (h1 : b = true → ∀ H1, Ex H H1 → ts D σ H1) (h0 : b = false → ∀ H1, Ex H H1 → us D σ H1) : tIfS tt ts us D σ H := s_if h h1 h0
def rPar (i j : Nat) (D : Ends) (σ : L2.St) (vs : List V) (H : Hp) : Prop := ∃ v w, vs = [v, w] ∧ D.nx ((σ.set i (some v)).set j (some w)) H
theorem d_par {i j : Nat} (q : t σ H (rPar i j D σ)) : tPar i j t D σ H := q
theorem d_rPar {i j : Nat} (q : D.nx ((σ.set i (some x)).set j (some y)) H) : rPar i j D σ [x, y] H := ⟨x, y, rfl, q⟩
theorem ev_intro (h : ∀ H1, Ex H H1 → ∀ Q : VK, (∀ H2, Ex H1 H2 → Q v H2) → te σ H1 Q) : Ev te σ H v := h
end

/-! ### defs by name -/
/-- the def of the text st stands behind the top under its name -/
def Df (K : PySem.W.Frag) (mg : Str → Option Value) (x : Str) (st : Stmt) : Prop := ∃ f fd, L2.Fun K x x st f fd ∧ mg x = some (.ref f)
/-- a def that may be called by its name and keeps sp; nothing is raised -/
def Cl (P : Program) (w : World) (K : PySem.W.Frag) (mg : Str → Option Value) (base : Heap) (k : Nat) (x : Str) (sp : Sp) : Prop :=
  ∃ f fd ps, FnOk P w K mg base CX0 k f fd ps sp ∧ mg x = some (.ref f) ∧ PySem.W.keepIn K (.ref f) = true ∧ Binds K fd ps []
section
variable {P : Program} {w : World} {K : PySem.W.Frag} {mg : Str → Option Value} {base : Heap}
theorem cl_of {x : Str} {st : Stmt} {N ps : List Str} {k : Nat} {sp : Sp} (F : Df K mg x st)
    (hb : ∀ (kV doc pm : Value) (an : Option Addr) (cdv ct : Value) (us : List Value), us.length = ps.length → bindArgs (PySem.W.fnOf x x (defArgs st) (defBody st) (defScope st) .none kV doc pm an cdv ct) ⟨us, []⟩ = pure (ps.zip us))
    (S : FnScope N ps (defScope st)) (len : ∀ vs H Q E, sp vs H Q E → vs.length = ps.length)
    (hbody : ∀ (f : Addr) (cdv : Value) (A : Around) (outer : List Env) (s : Shared) (H : Hp) (vs : List V) (Q : VK) (E : XK), Room k (A.deeper (envOfC x (defScope st) s.heap.objs.size f cdv)) → sp vs H Q E →
      ∃ t, PSs (cxOf CX0 P w K mg base N x (defScope st) f cdv A outer s H E).nox (defBody st) t ∧ t { nx := fun _ H' => Q .non H', rt := Q } (start N vs) H) : Cl P w K mg base (k + 1) x sp := by
  obtain ⟨f, fd, F, hm⟩ := F
  exact ⟨f, fd, ps, F.ok S len (hbody f), hm, F.kp, F.binds hb⟩
end
section
variable {X : Cx} {k j : Nat} {x : Str} {sp : Sp} {p pos : Pos} {e : Expr} {es : List Expr} {t : TA}
theorem pe_cl (c : Cl X.prog X.w X.K X.mg X.base k x sp) (hr : Room j X.A) (hk : k ≤ j) (hg : Gl X x) (ha : PA X (e :: es) t)
    (hdb : (x == ("__debug__" : Str)) = false := by decide) (he : starEach (e :: es) X.env = (false, eval e X.env) :: starEach es X.env := by rfl) (hpl : (backTo pos (starEach es X.env)).any (·.1) = false := by rfl) :
    PE X (.Call (.Name x p) (e :: es) [] pos) (tCall sp [] E0 t) := by
  obtain ⟨f, fd, ps, F, hm, kp, b⟩ := c
  exact pe_call F (hr.mono hk) hg hm kp b .nil pass0 ha hdb he hpl
/-- a constant of the module -/
theorem pe_gc {v : V} (hg : Gl X x) (h : ∃ u, X.mg x = some u ∧ RelV v u) (hd : (x == ("__debug__" : Str)) = false := by decide) : PE X (.Name x pos) (tC v) := by
  obtain ⟨u, hm, r⟩ := h
  exact pe_glob hg hm r hd
theorem call_lenL : CallR X (.builtin "len") (rLenS X.K) := call_len_seq
/-- is None -/
def rIsNn : R2 := fun x y H Q => y = .non ∧ Q (.bl (decide (x = .non))) H
def rNotNn : R2 := fun x y H Q => y = .non ∧ Q (.bl (!decide (x = .non))) H
theorem op_isNn : OpR X (compareOp .Is) rIsNn := op_isN
theorem op_notNn : OpR X (compareOp .IsNot) rNotNn := op_notN
def rIntB : List V → Hp → VK → Prop := fun vs H Q => ∃ k, vs = [.bl k] ∧ Q (.int (if k then 1 else 0)) H
theorem call_intB : CallR X (.type "int") rIntB := by
  intro pins s σ H xs us Q I r h
  exact call_int1 pins s σ H xs us Q I r (.inr h)
end
section
variable {K : PySem.W.Frag} {σ : L2.St} {H : Hp} {Q : VK}
theorem d_isNn {x : V} (q : Q (.bl (decide (x = .non))) H) : rIsNn x .non H Q := ⟨rfl, q⟩
theorem d_notNn {x : V} (q : Q (.bl (!decide (x = .non))) H) : rNotNn x .non H Q := ⟨rfl, q⟩
theorem d_intB {b : Bool} (q : Q (.int (if b then 1 else 0)) H) : rIntB [.bl b] H Q := ⟨b, rfl, q⟩
theorem d_isi {x : V} {n : String} {m : String} {b : Bool} (ty : TyX K H x (.type m)) (e : kitB m n = some b) (q : Q (.bl b) H) : rIsi K [x, .ty n] H Q := ⟨x, .ty n, _, _, b, rfl, .ty n, ty, kit_ty e, q⟩
theorem k_ii : kitB "int" "int" = some true := by decide +kernel
theorem k_ib : kitB "int" "bool" = some false := by decide +kernel
theorem k_bb : kitB "bool" "bool" = some true := by decide +kernel
theorem k_ll : kitB "list" "list" = some true := by decide +kernel
theorem k_tt : kitB "tuple" "tuple" = some true := by decide +kernel
theorem k_ss : kitB "str" "str" = some true := by decide +kernel
theorem k_ls : kitB "list" "str" = some false := by decide +kernel
theorem ty_int {i : Int} : TyX K H (.int i) (.type "int") := .base (.int i)
theorem ty_bl {i : Bool} : TyX K H (.bl i) (.type "bool") := .base (.bl i)
theorem ty_str {i : Str} : TyX K H (.str i) (.type "str") := .base (.str i)
theorem ty_non : TyX K H .non (.type "NoneType") := .base .non
theorem ty_list {p : Addr} {xs : List V} (h : SqL K H p xs) : TyX K H (.ref p) (.type "list") := by
  rcases h with (h | ⟨o, h⟩) | ⟨o, its, n, hk, hc, _⟩
  · exact .base (.lst h)
  · exact .base (.frz h)
  · exact .kList hk hc
theorem ty_tup {p : Addr} {xs : List V} (h : SqT K H p xs) : TyX K H (.ref p) (.type "tuple") := by
  rcases h with (h | ⟨o, h⟩) | ⟨o, its, n, hk, hc, _⟩
  · exact .base (.tup h)
  · exact .fTuple h
  · exact .kTuple hk hc
theorem ty_pr {v : V} {x y : Int} (h : Pr K H v x y) : TyX K H v (.type "tuple") := by
  obtain ⟨a, rfl, h⟩ := h
  exact ty_tup h
end
/-- a pile that may stand -/
def Gd (x : Int) : Prop := 1 ≤ x ∧ x ≤ 1000000000000000000000000000000
theorem divW {i j : Int} (h : 0 < j) (h2 : j ≤ 10000000000000000000000000000000000000000000000000000000000000000000000) : CDivW i j :=
  wide_div (b := 300) h (by have e : (10000000000000000000000000000000000000000000000000000000000000000000000 : Int) ≤ 2 ^ 300 := by decide
                            omega) (by decide) (by decide)
theorem mulW {i j : Int} (h : -10000000000000000000000000000000000000000000000000000000000000000000000 ≤ i ∧ i ≤ 10000000000000000000000000000000000000000000000000000000000000000000000)
    (h2 : -10000000000000000000000000000000000000000000000000000000000000000000000 ≤ j ∧ j ≤ 10000000000000000000000000000000000000000000000000000000000000000000000) : CMulW i j :=
  wide_mul (a := 300) (b := 300) (by have e : (10000000000000000000000000000000000000000000000000000000000000000000000 : Int) < 2 ^ 300 := by decide
                                     omega) (by have e : (10000000000000000000000000000000000000000000000000000000000000000000000 : Int) < 2 ^ 300 := by decide
                                                omega) (by decide) (by decide) (by decide)

/-! ### loops, lists that are the def's own -/
def Exb (l : Addr) (H H2 : Hp) : Prop := ∀ b o, H b = some o → b ≠ l → H2 b = some o
theorem Exb.base {l : Addr} {H0 H H2 : Hp} (b : Exb l H H2) (h0 : H0 l = none) (e : Ex H0 H) : Ex H0 H2 := fun a o h => b a o (e a o h) (ne_of_none h h0)
theorem Exb.upd {l : Addr} {H : Hp} {o : HO} : Exb l H (upd H l o) := fun b u h n => by rw [upd_ne n]; exact h
theorem Ex.at {H H' : Hp} {l : Addr} {o : HO} (e : Ex H H') (h : H l = some o) : H' l = some o := e l o h
theorem Exb.rdT {l : Addr} {H H2 : Hp} {xs ys : List V} {a : Addr} (b : Exb l H H2) (h : H l = some (.lst xs)) (r : Rd H a (.tup ys)) : Rd H2 a (.tup ys) := by
  rcases r with r | ⟨o, r⟩
  · exact .inl (b a _ r (ne_of r h (by intro z; cases z)))
  · exact .inr ⟨o, b a _ r (ne_of r h (by intro z; cases z))⟩
theorem Exb.tup {K : PySem.W.Frag} {l : Addr} {H H2 : Hp} {xs ys : List V} {a : Addr} (b : Exb l H H2) (h : H l = some (.lst xs)) (r : SqT K H a ys) : SqT K H2 a ys := by
  rcases r with r | r
  · exact .inl (b.rdT h r)
  · exact .inr r
theorem Exb.pr {K : PySem.W.Frag} {l : Addr} {H H2 : Hp} {xs : List V} {v : V} {x y : Int} (b : Exb l H H2) (h : H l = some (.lst xs)) (r : Pr K H v x y) : Pr K H2 v x y := by
  obtain ⟨a, rfl, r⟩ := r
  exact ⟨a, rfl, b.tup h r⟩
section
variable {K : PySem.W.Frag} {σ : L2.St} {H : Hp} {Q : VK} {te : TE} {D : Ends} {ts us : TS} {tt : TT} {v : V} {l : Addr}
def rBmL (K : PySem.W.Frag) (r : V → List V → Hp → VK → Prop) (t : TA) (σ : L2.St) (x : V) (H : Hp) (Q : VK) : Prop := tyV K "list" x H ∧ t σ H fun xs H2 => r x xs H2 Q
theorem d_bmL {r : V → List V → Hp → VK → Prop} {t : TA} (q : te σ H fun x H1 => rBmL K r t σ x H1 Q) : tBM K "list" r te t σ H Q := q
theorem d_rBmL {r : V → List V → Hp → VK → Prop} {t : TA} {p : Addr} {xs : List V} (h : SqL K H p xs) (q : t σ H fun ys H2 => r (.ref p) ys H2 Q) : rBmL K r t σ (.ref p) H Q := ⟨.inl ⟨rfl, xs, h⟩, q⟩
theorem d_append {xs : List V} (hl : H l = some (.lst xs)) (hn : xs.length < sizeLine) (q : ∀ H2, Exb l H H2 → H2 l = some (.lst (xs ++ [v])) → Q .non H2) : rAppend (.ref l) [v] H Q :=
  ⟨l, xs, v, rfl, rfl, hl, hn, q _ Exb.upd upd_same⟩
theorem at_int {ns : List Int} {i : Nat} {n : Int} (h : ns[i]? = some n) : atI (ns.map V.int) (i : Int) = some (.int n) := atI_nat (by rw [List.getElem?_map, h]; rfl)
theorem d_while (W : Nat → L2.St → Hp → Prop) (m0 : Nat) (h0 : W m0 σ H) (hs : ∀ m σ' H', W m σ' H' → ∃ b, EvT tt σ' H' b ∧
    (b = true → ∀ H1, Ex H' H1 → ts { D with nx := fun σ2 H2 => ∃ m', m' < m ∧ W m' σ2 H2, ct := fun σ2 H2 => ∃ m', m' < m ∧ W m' σ2 H2, bk := D.nx } σ' H1) ∧ (b = false → ∀ H1, Ex H' H1 → D.nx σ' H1)) : tWhile tt ts D σ H :=
  s_while W m0 h0 fun m σ' H' w => by
    obtain ⟨b, h1, h2, h3⟩ := hs m σ' H' w
    exact ⟨b, h1, fun e H1 e1 => ⟨_, fun _ _ z => z, h2 e H1 e1⟩, h3⟩
theorem d_for1 {ta : TA} {j : Nat} {n : Int} (h : EvA ta σ H [.int n]) (hn : 0 ≤ n ∧ n ≤ 100000) (Pv : Nat → L2.St → Hp → Prop) (h0 : ∀ H1, Ex H H1 → Pv 0 σ H1)
    (hs : ∀ (i : Nat) σ' H', (i : Int) < n → Pv i σ' H' → ts { D with nx := Pv (i + 1), ct := Pv (i + 1), bk := D.nx } (σ'.set j (some (.int (i : Int)))) H') (hd : ∀ σ' H', Pv n.toNat σ' H' → D.nx σ' H') : tFor (iRng1 ta) (gName j) ts D σ H :=
  s_forR1 h hn Pv h0 hs hd
end

/-! ### tables -/
section
variable {K : PySem.W.Frag} {H H' : Hp}
def Prs (K : PySem.W.Frag) (H : Hp) : List V → List (Int × Int) → Prop
  | [], [] => True
  | w :: ws, p :: ps => Pr K H w p.1 p.2 ∧ Prs K H ws ps
  | _, _ => False
theorem Prs.len : ∀ {ws : List V} {ps : List (Int × Int)}, Prs K H ws ps → ws.length = ps.length
  | [], [], _ => rfl
  | _ :: ws, _ :: ps, h => by rw [List.length_cons, List.length_cons, Prs.len h.2]
  | [], _ :: _, h => h.elim
  | _ :: _, [], h => h.elim
theorem Prs.imp (f : ∀ w x y, Pr K H w x y → Pr K H' w x y) : ∀ {ws : List V} {ps : List (Int × Int)}, Prs K H ws ps → Prs K H' ws ps
  | [], [], _ => trivial
  | _ :: ws, _ :: ps, h => ⟨f _ _ _ h.1, Prs.imp f h.2⟩
  | [], _ :: _, h => h.elim
  | _ :: _, [], h => h.elim
theorem Prs.mono {ws : List V} {ps : List (Int × Int)} (e : Ex H H') (h : Prs K H ws ps) : Prs K H' ws ps := h.imp fun _ _ _ q => q.mono e
theorem Prs.exb {l : Addr} {xs ws : List V} {ps : List (Int × Int)} (b : Exb l H H') (hl : H l = some (.lst xs)) (h : Prs K H ws ps) : Prs K H' ws ps := h.imp fun _ _ _ q => b.pr hl q
theorem Prs.get : ∀ {ws : List V} {ps : List (Int × Int)} {i : Nat} {w : V}, Prs K H ws ps → ws[i]? = some w → ∃ p, ps[i]? = some p ∧ Pr K H w p.1 p.2
  | w :: ws, p :: ps, 0, v, h, e => by
    have e : w = v := Option.some.inj e
    subst e
    exact ⟨p, rfl, h.1⟩
  | w :: ws, p :: ps, i + 1, v, h, e => Prs.get (i := i) h.2 e
  | [], [], i, v, h, e => by simp at e
  | [], _ :: _, _, _, h, _ => h.elim
  | _ :: _, [], _, _, h, _ => h.elim
theorem Prs.at {ws : List V} {ps : List (Int × Int)} {i : Nat} {p : Int × Int} (h : Prs K H ws ps) (e : ps[i]? = some p) : ∃ w, ws[i]? = some w ∧ Pr K H w p.1 p.2 := by
  have hl := (List.getElem?_eq_some_iff.mp e).1
  have e2 : ws[i]? = some (ws[i]'(by rw [h.len]; exact hl)) := List.getElem?_eq_getElem _
  obtain ⟨q, e3, h3⟩ := h.get e2
  rw [e] at e3
  cases e3
  exact ⟨_, e2, h3⟩
theorem Prs.app : ∀ {ws us : List V} {ps qs : List (Int × Int)}, Prs K H ws ps → Prs K H us qs → Prs K H (ws ++ us) (ps ++ qs)
  | [], _, [], _, _, g => g
  | _ :: ws, _, _ :: ps, _, h, g => ⟨h.1, Prs.app h.2 g⟩
  | [], _, _ :: _, _, h, _ => h.elim
  | _ :: _, _, [], _, h, _ => h.elim
theorem Prs.one {w : V} {x y : Int} (h : Pr K H w x y) : Prs K H [w] [(x, y)] := ⟨h, trivial⟩
theorem Prs.take : ∀ (n : Nat) {ws : List V} {ps : List (Int × Int)}, Prs K H ws ps → Prs K H (ws.take n) (ps.take n)
  | 0, _, _, _ => trivial
  | n + 1, [], [], _ => trivial
  | n + 1, _ :: ws, _ :: ps, h => ⟨h.1, Prs.take n h.2⟩
  | _ + 1, [], _ :: _, h => h.elim
  | _ + 1, _ :: _, [], h => h.elim
theorem Prs.drop : ∀ (n : Nat) {ws : List V} {ps : List (Int × Int)}, Prs K H ws ps → Prs K H (ws.drop n) (ps.drop n)
  | 0, _, _, h => h
  | n + 1, [], [], _ => trivial
  | n + 1, _ :: ws, _ :: ps, h => Prs.drop n h.2
  | _ + 1, [], _ :: _, h => h.elim
  | _ + 1, _ :: _, [], h => h.elim
/-- v is a list of pairs -/
def Tb (K : PySem.W.Frag) (H : Hp) (v : V) (T : List (Int × Int)) : Prop := ∃ a ws, v = .ref a ∧ SqL K H a ws ∧ Prs K H ws T
theorem Tb.mono {v : V} {T : List (Int × Int)} (e : Ex H H') (h : Tb K H v T) : Tb K H' v T := by
  obtain ⟨a, ws, rfl, h1, h2⟩ := h
  exact ⟨a, ws, rfl, ex_l e h1, h2.mono e⟩
def GdT (T : List (Int × Int)) : Prop := ∀ p ∈ T, Gd p.1 ∧ Gd p.2

/-! ### == of pairs and tables -/
def dP (p : Int × Int) : PyData := .tuple [.int p.1, .int p.2]
def dT (T : List (Int × Int)) : PyData := .list (T.map dP)
theorem Pr.dp {v : V} {x y : Int} (h : Pr K H v x y) : Dp K H v (dP (x, y)) := by
  obtain ⟨a, rfl, h⟩ := h
  exact .tup h (.cons (.int x) (.cons (.int y) .nil))
theorem Prs.dp : ∀ {ws : List V} {ps : List (Int × Int)}, Prs K H ws ps → DpAll K H ws (ps.map dP)
  | [], [], _ => .nil
  | _ :: ws, _ :: ps, h => .cons h.1.dp (Prs.dp h.2)
  | [], _ :: _, h => h.elim
  | _ :: _, [], h => h.elim
theorem Tb.dp {v : V} {T : List (Int × Int)} (h : Tb K H v T) : Dp K H v (dT T) := by
  obtain ⟨a, ws, rfl, h1, h2⟩ := h
  exact .lst h1 h2.dp
theorem dP_shaped (p : Int × Int) : SeqAt.shaped (dP p) = true := rfl
theorem dPs_lay : ∀ T : List (Int × Int), PyData.canLayAll0 (T.map dP) = true
  | [] => rfl
  | p :: T => by
    show (PyData.canLay0 (dP p) && PyData.canLayAll0 (T.map dP)) = true
    rw [dPs_lay T]
    rfl
theorem dPs_depth : ∀ T : List (Int × Int), PyData.depthAll (T.map dP) ≤ 1
  | [] => Nat.zero_le _
  | p :: T => by
    show max (PyData.depth (dP p)) (PyData.depthAll (T.map dP)) ≤ 1
    have := dPs_depth T
    have e : PyData.depth (dP p) = 1 := rfl
    omega
theorem dT_shaped (T : List (Int × Int)) : SeqAt.shaped (dT T) = true := by
  have h1 : PyData.canLay0 (dT T) = true := dPs_lay T
  have h2 : PyData.depth (dT T) ≤ 64 := by
    show PyData.depthAll (T.map dP) + 1 ≤ 64
    have := dPs_depth T
    omega
  unfold SeqAt.shaped
  rw [h1, decide_eq_true h2]
  rfl
theorem dP_eqv (p q : Int × Int) : PyData.eqv (dP p) (dP q) = decide (p = q) := by
  show ((p.1 == q.1) && ((p.2 == q.2) && true)) = _
  rw [Bool.and_true, Bool.eq_iff_iff]
  simp [Prod.ext_iff]
theorem dPs_eqv : ∀ T U : List (Int × Int), PyData.eqvAll (T.map dP) (U.map dP) = decide (T = U)
  | [], [] => rfl
  | p :: T, q :: U => by
    show (PyData.eqv (dP p) (dP q) && PyData.eqvAll (T.map dP) (U.map dP)) = _
    rw [dP_eqv, dPs_eqv T U, Bool.eq_iff_iff]
    simp
  | [], _ :: _ => by
    show false = _
    simp
  | _ :: _, [] => by
    show false = _
    simp
variable {Q : VK}
theorem d_eqP {v u : V} {x y x' y' : Int} (h : Pr K H v x y) (h' : Pr K H u x' y') (q : Q (.bl (decide ((x, y) = (x', y')))) H) : rEqD K v u H Q := ⟨_, _, h.dp, h'.dp, dP_shaped _, dP_shaped _, by rw [dP_eqv]; exact q⟩
theorem d_neP {v u : V} {x y x' y' : Int} (h : Pr K H v x y) (h' : Pr K H u x' y') (q : Q (.bl (!decide ((x, y) = (x', y')))) H) : rNeD K v u H Q := ⟨_, _, h.dp, h'.dp, dP_shaped _, dP_shaped _, by rw [dP_eqv]; exact q⟩
theorem d_eqT {v u : V} {T U : List (Int × Int)} (h : Tb K H v T) (h' : Tb K H u U) (q : Q (.bl (decide (T = U))) H) : rEqD K v u H Q := ⟨_, _, h.dp, h'.dp, dT_shaped _, dT_shaped _, by
  have e : PyData.eqv (dT T) (dT U) = decide (T = U) := dPs_eqv T U
  rw [e]; exact q⟩
theorem d_neT {v u : V} {T U : List (Int × Int)} (h : Tb K H v T) (h' : Tb K H u U) (q : Q (.bl (!decide (T = U))) H) : rNeD K v u H Q := ⟨_, _, h.dp, h'.dp, dT_shaped _, dT_shaped _, by
  have e : PyData.eqv (dT T) (dT U) = decide (T = U) := dPs_eqv T U
  rw [e]; exact q⟩
end
section
variable {X : Cx}
/-- list(xs): a new list -/
def rListN (K : PySem.W.Frag) : List V → Hp → VK → Prop := fun vs H Q => ∃ p ys, vs = [.ref p] ∧ SqL K H p ys ∧ ∀ l, H l = none → Q (.ref l) (upd H l (.lst ys))
theorem call_listS : CallR X (.type "list") (rListN X.K) := by
  intro pins s σ H xs us Q I r h
  obtain ⟨p, ys, e, h, q⟩ := h
  exact call_list_of pins s σ H xs us Q I r ⟨p, ys, e, .inl h, q⟩
end
section
variable {K : PySem.W.Frag} {σ : L2.St} {H : Hp} {Q : VK} {te tl : TE} {D : Ends} {ts us : TS} {tt : TT} {v : V} {l : Addr}
theorem d_listT {v : V} {T : List (Int × Int)} (h : Tb K H v T) (q : ∀ p H2 ws, H p = none → Ex H H2 → H2 p = some (.lst ws) → Prs K H2 ws T → Tb K H2 (.ref p) T → Q (.ref p) H2) : rListN K [v] H Q := by
  obtain ⟨a, ws, rfl, h1, h2⟩ := h
  exact ⟨a, ws, rfl, h1, fun l hl => q l _ ws hl (Ex.new hl) upd_same (h2.mono (Ex.new hl)) ⟨l, ws, rfl, sq_of upd_same, h2.mono (Ex.new hl)⟩⟩
theorem d_listL {p : Addr} {ys : List V} (h : SqL K H p ys) (q : ∀ p H2, H p = none → Ex H H2 → H2 p = some (.lst ys) → Q (.ref p) H2) : rListN K [.ref p] H Q := ⟨p, ys, rfl, h, fun l hl => q l _ hl (Ex.new hl) upd_same⟩
theorem d_lenT {v : V} {T : List (Int × Int)} (h : Tb K H v T) (q : Q (.int (T.length : Int)) H) : rLenS K [v] H Q := by
  obtain ⟨a, ws, rfl, h1, h2⟩ := h
  rw [← h2.len] at q
  exact ⟨a, ws, rfl, .inl h1, q⟩
theorem d_ixTb {v : V} {T : List (Int × Int)} {i : Nat} {p : Int × Int} (h : Tb K H v T) (hi : T[i]? = some p) (q : ∀ w, Pr K H w p.1 p.2 → Q w H) : rIxL K v (.int (i : Int)) H Q := by
  obtain ⟨a, ws, rfl, h1, h2⟩ := h
  obtain ⟨w, e, h3⟩ := h2.at hi
  exact ⟨a, ws, i, w, rfl, rfl, h1, atI_nat e, q w h3⟩
/-- for over a table -/
theorem d_forT {T : List (Int × Int)} {j : Nat} (h : Ev tl σ H v) (hT : Tb K H v T) (Pv : Nat → L2.St → Hp → Prop) (h0 : ∀ H1, Ex H H1 → Pv 0 σ H1) (hl : ∀ i σ' H', Pv i σ' H' → Ex H H')
    (hs : ∀ i w p σ' H', T[i]? = some p → Pr K H' w p.1 p.2 → Pv i σ' H' → ts { D with nx := Pv (i + 1), ct := Pv (i + 1), bk := D.nx } (σ'.set j (some w)) H') (hd : ∀ σ' H', Pv T.length σ' H' → D.nx σ' H') : tFor (iList K tl) (gName j) ts D σ H := by
  obtain ⟨a, ws, rfl, h1, h2⟩ := hT
  refine s_forL (xs := ws) h h1 Pv h0 (fun i σ' H' _ p => ex_l (hl i σ' H' p) h1) (fun i w σ' H' e p => ?_) (fun σ' H' p => hd σ' H' (by rw [← h2.len]; exact p))
  obtain ⟨q, e2, h3⟩ := h2.get e
  exact hs i w q σ' H' e2 (h3.mono (hl i σ' H' p)) p
/-- for over a tuple that is made on the way -/
theorem d_forU {xs : List V} {j : Nat} (h : EvU tl σ H xs) (Pv : Hp → Nat → L2.St → Hp → Prop) (h0 : ∀ H1, Ex H H1 → Pv H1 0 σ H1) (hl : ∀ H1 i σ' H', Pv H1 i σ' H' → Ex H1 H')
    (hs : ∀ H1 i x σ' H', Ex H H1 → xs[i]? = some x → Pv H1 i σ' H' → ts { D with nx := Pv H1 (i + 1), ct := Pv H1 (i + 1), bk := D.nx } (σ'.set j (some x)) H') (hd : ∀ H1 σ' H', Ex H H1 → Pv H1 xs.length σ' H' → D.nx σ' H') : tFor (iTup K tl) (gName j) ts D σ H :=
  h H (Ex.refl H) _ fun p H1 hp e h1 => ⟨p, rfl, ⟨xs, st_of h1⟩, for_tup (Pv H1) (h0 H1 e) (fun i σ' H' _ q => ex_t (hl H1 i σ' H' q) (st_of h1)) (fun i x σ' H' hx q => hs H1 i x σ' H' e hx q) (fun σ' H' q => hd H1 σ' H' e q)⟩
/-- an expression whose value is told by R -/
def EvR (te : TE) (σ : L2.St) (H : Hp) (R : V → Hp → Prop) : Prop := ∀ Q : VK, (∀ y H4, Ex H H4 → R y H4 → Q y H4) → te σ H Q
theorem er_ev {R : V → Hp → Prop} (h : Ev te σ H v) (r : ∀ H1, Ex H H1 → R v H1) : EvR te σ H R := fun Q q => h H (Ex.refl H) Q fun H2 e2 => q v H2 e2 (r H2 e2)
theorem et_yes : EvT tYes σ H true := fun H1 _ Q q => q H1 (Ex.refl H1)
def Lcv (R : Nat → List V → Hp → Prop) (H0 : Hp) (D : Addr) (i : Nat) (H' : Hp) : Prop := ∃ acc, H0 D = none ∧ Ex H0 H' ∧ H' D = some (.lst acc) ∧ acc.length ≤ i ∧ R i acc H'
theorem lc_turn {R : Nat → List V → Hp → Prop} {H0 H' : Hp} {D : Addr} {i : Nat} {σ2 : L2.St} (p : Lcv R H0 D i H') (hi : i < 100000)
    (hR : ∀ D i acc acc' H1 H2, Exb D H1 H2 → H1 D = some (.lst acc') → R i acc H1 → R i acc H2)
    (hs : ∀ acc, Ex H0 H' → acc.length ≤ i → R i acc H' → ∃ b, EvT tt σ2 H' b ∧ (b = true → ∀ H3, Ex H' H3 → EvR te σ2 H3 (R (i + 1) <| acc ++ [·])) ∧ (b = false → ∀ H3, Ex H' H3 → R (i + 1) acc H3)) :
    tt σ2 H' fun b H3 => if b = true then te σ2 H3 fun y H4 => ∃ acc, H4 D = some (.lst acc) ∧ acc.length < sizeLine ∧ Lcv R H0 D (i + 1) (upd H4 D (.lst (acc ++ [y]))) else Lcv R H0 D (i + 1) H3 := by
  obtain ⟨acc, p1, p2, p3, p4, p5⟩ := p
  obtain ⟨b, h1, h2, h3⟩ := hs acc p2 p4 p5
  refine h1 H' (Ex.refl H') _ fun H3 e3 => ?_
  cases b with
  | true =>
    rw [if_pos rfl]
    refine h2 rfl H3 e3 _ fun y H4 e4 r => ⟨acc, e4 _ _ (e3 _ _ p3), sz_lt (by omega), acc ++ [y], p1, Ex.mut ((p2.trans e3).trans e4) p1, upd_same, by simp; omega, ?_⟩
    exact hR D _ _ acc _ _ Exb.upd (e4 _ _ (e3 _ _ p3)) r
  | false =>
    rw [if_neg Bool.false_ne_true]
    exact ⟨acc, p1, p2.trans e3, e3 _ _ p3, by omega, h3 rfl H3 e3⟩
theorem d_lcL {a : Addr} {xs : List V} {j : Nat} {vs : List Nat} (h : Ev tl σ H (.ref a)) (hx : SqL K H a xs) (hz : xs.length ≤ 100000) (R : Nat → List V → Hp → Prop)
    (hR : ∀ D i acc acc' H1 H2, Exb D H1 H2 → H1 D = some (.lst acc') → R i acc H1 → R i acc H2) (hw : ∀ x, wipe ((wipe σ vs).set j (some x)) vs = wipe σ vs) (h0 : ∀ H1, Ex H H1 → R 0 [] H1)
    (hs : ∀ i x acc H', xs[i]? = some x → Ex H H' → acc.length ≤ i → R i acc H' → ∃ b, EvT tt ((wipe σ vs).set j (some x)) H' b ∧ (b = true → ∀ H3, Ex H' H3 → EvR te ((wipe σ vs).set j (some x)) H3 (R (i + 1) <| acc ++ [·])) ∧ (b = false → ∀ H3, Ex H' H3 → R (i + 1) acc H3))
    (q : ∀ p H2 acc, H p = none → Ex H H2 → H2 p = some (.lst acc) → R xs.length acc H2 → Q (.ref p) H2) : tLc (iList K tl) (gName j) tt te vs σ H Q := h H (Ex.refl H) _ fun H1 e1 => ⟨a, rfl, ⟨xs, ex_l e1 hx⟩, fun D hD =>
  lc_list (xs := xs) (Lcv R H1 D) ⟨[], hD, Ex.new hD, upd_same, Nat.le_refl _, h0 _ (e1.trans (Ex.new hD))⟩ (fun i H' _ p => ex_l (e1.trans p.choose_spec.2.1) hx)
    (fun i x H' hi p => ⟨hw x, lc_turn p (by have := (List.getElem?_eq_some_iff.mp hi).1; omega) hR fun acc e g r => hs i x acc H' hi (e1.trans e) g r⟩)
    fun H' p => by
      obtain ⟨acc, p1, p2, p3, p4, p5⟩ := p
      exact q D H' acc (fresh_back e1 p1) (e1.trans p2) p3 p5⟩
theorem d_lcT {T : List (Int × Int)} {j : Nat} {vs : List Nat} (h : Ev tl σ H v) (hT : Tb K H v T) (hz : T.length ≤ 100000) (R : Nat → List V → Hp → Prop)
    (hR : ∀ D i acc acc' H1 H2, Exb D H1 H2 → H1 D = some (.lst acc') → R i acc H1 → R i acc H2) (hw : ∀ x, wipe ((wipe σ vs).set j (some x)) vs = wipe σ vs) (h0 : ∀ H1, Ex H H1 → R 0 [] H1)
    (hs : ∀ i w p acc H', T[i]? = some p → Pr K H' w p.1 p.2 → Ex H H' → acc.length ≤ i → R i acc H' → ∃ b, EvT tt ((wipe σ vs).set j (some w)) H' b ∧ (b = true → ∀ H3, Ex H' H3 → EvR te ((wipe σ vs).set j (some w)) H3 (R (i + 1) <| acc ++ [·])) ∧ (b = false → ∀ H3, Ex H' H3 → R (i + 1) acc H3))
    (q : ∀ p H2 acc, H p = none → Ex H H2 → H2 p = some (.lst acc) → R T.length acc H2 → Q (.ref p) H2) : tLc (iList K tl) (gName j) tt te vs σ H Q := by
  obtain ⟨a, ws, rfl, h1, h2⟩ := hT
  refine d_lcL h h1 (by rw [h2.len]; exact hz) R hR hw h0 (fun i x acc H' hi e g r => ?_) (fun p H2 acc f e g r => q p H2 acc f e g (by rw [← h2.len]; exact r))
  obtain ⟨p, e2, h3⟩ := h2.get hi
  exact hs i x p acc H' e2 (h3.mono e) e g r
theorem d_lcR {ta : TA} {n : Int} {j : Nat} {vs : List Nat} (h : EvA ta σ H [.int n]) (hn : 0 ≤ n ∧ n ≤ 100000) (R : Nat → List V → Hp → Prop)
    (hR : ∀ D i acc acc' H1 H2, Exb D H1 H2 → H1 D = some (.lst acc') → R i acc H1 → R i acc H2) (hw : ∀ x, wipe ((wipe σ vs).set j (some x)) vs = wipe σ vs) (h0 : ∀ H1, Ex H H1 → R 0 [] H1)
    (hs : ∀ (i : Nat) acc H', (i : Int) < n → Ex H H' → acc.length ≤ i → R i acc H' → ∃ b, EvT tt ((wipe σ vs).set j (some (.int (i : Int)))) H' b ∧ (b = true → ∀ H3, Ex H' H3 → EvR te ((wipe σ vs).set j (some (.int (i : Int)))) H3 (R (i + 1) <| acc ++ [·])) ∧ (b = false → ∀ H3, Ex H' H3 → R (i + 1) acc H3))
    (q : ∀ p H2 acc, H p = none → Ex H H2 → H2 p = some (.lst acc) → R n.toNat acc H2 → Q (.ref p) H2) : tLc (iRng1 ta) (gName j) tt te vs σ H Q := h H (Ex.refl H) _ fun H1 e1 => ⟨n, rfl, by omega, by omega, fun D hD =>
  lc_range (lo := 0) (n := n.toNat) (Lcv R H1 D) ⟨[], hD, Ex.new hD, upd_same, Nat.le_refl _, h0 _ (e1.trans (Ex.new hD))⟩
    (fun i H' hi p => by
      have e0 : (0 : Int) + (i : Int) = (i : Int) := Int.zero_add _
      show wipe ((wipe σ vs).set j (some (.int ((0 : Int) + (i : Int))))) vs = wipe σ vs ∧ tt ((wipe σ vs).set j (some (.int ((0 : Int) + (i : Int))))) H' _
      rw [e0]
      exact ⟨hw _, lc_turn p (by omega) hR fun acc e g r => hs i acc H' (by omega) (e1.trans e) g r⟩)
    fun H' p => by
      obtain ⟨acc, p1, p2, p3, p4, p5⟩ := p
      exact q D H' acc (fresh_back e1 p1) (e1.trans p2) p3 p5⟩
end

section
variable {K : PySem.W.Frag} {σ : L2.St} {H : Hp} {Q : VK} {te tl : TE} {tt : TT} {v : V}
/-- len(set(xs)) of unlike ints; x in xs -/
def rLenSet (K : PySem.W.Frag) (x : V) (H : Hp) (Q : VK) : Prop := ∃ (l : Addr) (ns : List Int), x = .ref l ∧ SqL K H l (ns.map V.int) ∧ ns.Nodup ∧ ns.length ≤ 4000 ∧ Q (.int (ns.length : Nat)) H
theorem d_lenSet (q : te σ H fun x H1 => rLenSet K x H1 Q) : RZ.tLenSetI K te σ H Q := q
theorem d_rLenSet {l : Addr} {ns : List Int} (h : SqL K H l (ns.map V.int)) (hn : ns.Nodup) (hl : ns.length ≤ 4000) (q : Q (.int (ns.length : Int)) H) : rLenSet K (.ref l) H Q := ⟨l, ns, rfl, h, hn, hl, q⟩
theorem inV_int (i : Int) (ns : List Int) : inV (.int i) (ns.map V.int) = decide (i ∈ ns) := by
  unfold inV
  rw [Bool.eq_iff_iff, List.any_map, List.any_eq_true, decide_eq_true_eq]
  constructor
  · rintro ⟨n, hn, e⟩
    have e : (n == i) = true := e
    have : n = i := by simpa using e
    exact this ▸ hn
  · intro h
    exact ⟨i, h, by show (i == i) = true; simp⟩
theorem flat_ints (ns : List Int) : (ns.map V.int).all flatV = true := by
  rw [List.all_map, List.all_eq_true]
  intro n _
  rfl
theorem d_inI {p : Addr} {i : Int} {ns : List Int} (h : SqL K H p (ns.map V.int)) (q : Q (.bl (decide (i ∈ ns))) H) : rIn K false (.int i) (.ref p) H Q := ⟨p, _, rfl, .inl h, rfl, flat_ints ns, by rw [inV_int]; exact q⟩
theorem d_notInI {p : Addr} {i : Int} {ns : List Int} (h : SqL K H p (ns.map V.int)) (q : Q (.bl (!decide (i ∈ ns))) H) : rIn K true (.int i) (.ref p) H Q := ⟨p, _, rfl, .inl h, rfl, flat_ints ns, by rw [inV_int]; exact q⟩
theorem d_lcR2 {ta : TA} {lo n : Int} {j : Nat} {vs : List Nat} (h : EvA ta σ H [.int lo, .int n]) (hn : 0 ≤ lo ∧ lo ≤ 100000 ∧ -100000 ≤ n ∧ n ≤ 100000) (R : Nat → List V → Hp → Prop)
    (hR : ∀ D i acc acc' H1 H2, Exb D H1 H2 → H1 D = some (.lst acc') → R i acc H1 → R i acc H2) (hw : ∀ x, wipe ((wipe σ vs).set j (some x)) vs = wipe σ vs) (h0 : ∀ H1, Ex H H1 → R 0 [] H1)
    (hs : ∀ (i : Nat) acc H', lo + (i : Int) < n → Ex H H' → acc.length ≤ i → R i acc H' → ∃ b, EvT tt ((wipe σ vs).set j (some (.int (lo + (i : Int))))) H' b ∧ (b = true → ∀ H3, Ex H' H3 → EvR te ((wipe σ vs).set j (some (.int (lo + (i : Int))))) H3 (R (i + 1) <| acc ++ [·])) ∧ (b = false → ∀ H3, Ex H' H3 → R (i + 1) acc H3))
    (q : ∀ p H2 acc, H p = none → Ex H H2 → H2 p = some (.lst acc) → R (n - lo).toNat acc H2 → Q (.ref p) H2) : tLc (iRng2 ta) (gName j) tt te vs σ H Q := h H (Ex.refl H) _ fun H1 e1 => ⟨lo, n, rfl, by omega, fun D hD =>
  lc_range (lo := lo) (n := (n - lo).toNat) (Lcv R H1 D) ⟨[], hD, Ex.new hD, upd_same, Nat.le_refl _, h0 _ (e1.trans (Ex.new hD))⟩
    (fun i H' hi p => ⟨hw _, lc_turn p (by omega) hR fun acc e g r => hs i acc H' (by omega) (e1.trans e) g r⟩)
    fun H' p => by
      obtain ⟨acc, p1, p2, p3, p4, p5⟩ := p
      exact q D H' acc (fresh_back e1 p1) (e1.trans p2) p3 p5⟩
end
end Tk

namespace Tk
open PySem PySem.Spec PyProof.Rows L2 Evl

/-! ### the quotients -/
def euN (g s : Nat) : List Int := if h : s = 0 then [] else ((g / s : Nat) : Int) :: euN s (g % s)
termination_by s
decreasing_by exact Nat.mod_lt _ (Nat.pos_of_ne_zero h)
def eu (g s : Int) : List Int := euN g.toNat s.toNat
theorem euN_zero (g : Nat) : euN g 0 = [] := by rw [euN]; rfl
theorem euN_step {g s : Nat} (h : 0 < s) : euN g s = ((g / s : Nat) : Int) :: euN s (g % s) := by
  rw [euN, dif_neg (by omega)]
theorem eu_zero {g s : Int} (h : s ≤ 0) : eu g s = [] := by
  unfold eu
  rw [show s.toNat = 0 by omega]
  exact euN_zero _
theorem eu_step {g s : Int} (hg : 0 ≤ g) (hs : 0 < s) : eu g s = g / s :: eu s (g % s) := by
  obtain ⟨a, rfl⟩ := Int.eq_ofNat_of_zero_le hg
  obtain ⟨b, rfl⟩ := Int.eq_ofNat_of_zero_le (Int.le_of_lt hs)
  have hb : 0 < b := by omega
  show euN a b = _ :: euN b (((a : Int) % (b : Int)).toNat)
  rw [euN_step hb]
  rfl
theorem half_mod {s r : Nat} (h0 : 0 < r) (h : r < s) : s % r < (s + 1) / 2 := by
  by_cases c : 2 * r ≤ s
  · have := Nat.mod_lt s h0
    omega
  · have e : s % r = s - r := by
      rw [Nat.mod_eq_sub_mod (by omega), Nat.mod_eq_of_lt (by omega)]
    omega
theorem euN_len : ∀ (k g s : Nat), s < 2 ^ k → (euN g s).length ≤ 2 * k
  | 0, g, s, h => by
    have e : s = 0 := by simpa using h
    rw [e, euN_zero]
    exact Nat.le_refl _
  | k + 1, g, s, h => by
    by_cases c : s = 0
    · rw [c, euN_zero]; simp
    · rw [euN_step (by omega)]
      by_cases d : g % s = 0
      · rw [d, euN_zero]; simp; omega
      · rw [euN_step (by omega)]
        have h1 : g % s < s := Nat.mod_lt _ (by omega)
        have h2 := half_mod (by omega : 0 < g % s) h1
        have h3 : s % (g % s) < 2 ^ k := by
          rw [Nat.pow_succ] at h
          omega
        have := euN_len k (g % s) (s % (g % s)) h3
        simp only [List.length_cons]
        omega
theorem eu_len {g s : Int} (h : s ≤ 1000000000000000000000000000000) : (eu g s).length ≤ 200 := by
  refine euN_len 100 _ _ ?_
  have e : (2 : Nat) ^ 100 = 1267650600228229401496703205376 := by decide
  rw [e]
  omega
/-- the quotients of the pair x, y -/
def qs (x y : Int) : List Int := eu (max x y) (min x y)
theorem qs_comm (x y : Int) : qs x y = qs y x := by
  unfold qs
  rw [Int.max_comm, Int.min_comm]
theorem qs_len {x y : Int} (h : x ≤ 1000000000000000000000000000000) : (qs x y).length ≤ 200 := eu_len (by omega)
theorem take_succ' {α : Type} {l : List α} {i : Nat} {x : α} (h : l[i]? = some x) : l.take (i + 1) = l.take i ++ [x] := by
  rw [List.take_succ, h]
  rfl

local macro_rules | `(tactic| walk_at "pr") => `(tactic| first
  | assumption
  | exact Pr.of (by assumption)
  | (apply Pr.mono; (· assumption); walk_at "pr")
  | (apply Exb.pr; (· assumption); (· walk_at "hl"); walk_at "pr")
  | fail "pr")
local macro_rules | `(tactic| walk_at "ex") => `(tactic| first
  | exact Ex.refl _
  | assumption
  | exact Ex.new (by assumption)
  | (refine Ex.trans ?_ (by assumption); walk_at "ex")
  | (apply Exb.base; (· assumption); (· walk_at "fr"); walk_at "ex")
  | fail "ex")
local macro_rules | `(tactic| walk_at "fr") => `(tactic| first
  | assumption
  | (apply fresh_back; rotate_left; (· assumption); walk_at "ex")
  | fail "fr")
local macro_rules | `(tactic| walk_at "hl") => `(tactic| first
  | assumption
  | (apply Ex.at; (· assumption); walk_at "hl")
  | fail "hl")
local macro_rules | `(tactic| walk_at "len") => `(tactic| first
  | (exact sz_lt (by simp; omega))
  | (exact sz_lt (by simp))
  | assumption
  | fail "len")
local macro_rules | `(tactic| walk_at "at") => `(tactic| first
  | assumption
  | exact rfl
  | exact at_int (by assumption)
  | fail "at")
local macro_rules | `(tactic| walk_at "sl") => `(tactic| first
  | assumption
  | exact sq_of (by assumption)
  | (apply ex_l; (· assumption); walk_at "sl")
  | fail "sl")
local macro_rules | `(tactic| walk_at "st") => `(tactic| first
  | assumption
  | exact st_of (by assumption)
  | (apply ex_t; (· assumption); walk_at "st")
  | fail "st")
local macro_rules | `(tactic| walk_at "tb") => `(tactic| first
  | assumption
  | exact ⟨_, _, rfl, sq_of (by assumption), by assumption⟩
  | (apply Tb.mono; (· assumption); walk_at "tb")
  | fail "tb")
local macro_rules | `(tactic| walk_at "nx") => `(tactic| ((try with_reducible refine d_gName ?_); (try dsimp only [List.set, wipe])))
local macro_rules | `(tactic| walk_at "side") => `(tactic| first
  | assumption
  | exact divW (by omega) (by omega)
  | (show (0 : Int) < _; omega)
  | exact mulW ⟨by omega, by omega⟩ ⟨by omega, by omega⟩
  | exact ⟨by decide, by decide, by decide⟩
  | decide
  | omega
  | fail "side")
local macro_rules | `(tactic| walk_at "bd") => `(tactic| first
  | assumption
  | exact ⟨by omega, by omega⟩
  | fail "bd")
local macro_rules | `(tactic| walk_at "gd") => `(tactic| first
  | assumption
  | exact ⟨by omega, by omega⟩
  | fail "gd")
local macro_rules | `(tactic| walk_at "ty") => `(tactic| first
  | exact ty_int
  | exact ty_bl
  | exact ty_str
  | exact ty_non
  | (apply ty_list; walk_at "sl")
  | (apply ty_pr; walk_at "pr")
  | (apply ty_tup; walk_at "st")
  | fail "ty")
local macro_rules | `(tactic| walk_at "spcall") => `(tactic| fail)
local macro_rules | `(tactic| walk_at "go1") => `(tactic| (first
  | ((with_reducible apply d_var); (· exact rfl))
  | (with_reducible refine d_c ?_)
  | (with_reducible refine d_op ?_)
  | (with_reducible refine d_un ?_)
  | (with_reducible refine d_pow30 ?_)
  | (with_reducible refine d_rI0 ?_)
  | ((with_reducible refine d_rI ?_ ?_); (· walk_at "side"))
  | (with_reducible refine d_rU ?_)
  | (with_reducible refine d_eqI ?_)
  | (with_reducible refine d_neI ?_)
  | (with_reducible refine d_eqS ?_)
  | (with_reducible refine d_neS ?_)
  | (with_reducible refine d_eqB ?_)
  | (with_reducible refine d_nil ?_)
  | (with_reducible refine d_cons ?_)
  | (with_reducible refine d_tup ?_)
  | (with_reducible refine d_lst ?_)
  | ((with_reducible refine d_newP ?_); intro _ _ _ _)
  | ((with_reducible refine d_newT ?_ ?_); (· (simp; done)); intro _ _ _ _ _)
  | ((with_reducible refine d_newL ?_ ?_); (· (simp; done)); intro _ _ _ _ _)
  | (with_reducible refine d_call ?_)
  | (with_reducible refine d_cb ?_)
  | ((with_reducible apply d_maxT); (· walk_at "pr"))
  | ((with_reducible apply d_minT); (· walk_at "pr"))
  | (with_reducible refine d_max2 ?_)
  | (with_reducible refine d_min2 ?_)
  | ((with_reducible apply d_ixP0); (· walk_at "pr"))
  | ((with_reducible apply d_ixP1); (· walk_at "pr"))
  | ((with_reducible apply d_ixL); (· walk_at "sl"); (· walk_at "at"))
  | ((with_reducible apply d_ixT); (· walk_at "st"); (· walk_at "at"))
  | ((with_reducible apply d_eqP); (· walk_at "pr"); (· walk_at "pr"))
  | ((with_reducible apply d_neP); (· walk_at "pr"); (· walk_at "pr"))
  | ((with_reducible apply d_eqT); (· walk_at "tb"); (· walk_at "tb"))
  | ((with_reducible apply d_neT); (· walk_at "tb"); (· walk_at "tb"))
  | ((with_reducible apply d_listT); (· walk_at "tb"); intro _ _ _ _ _ _ _ _)
  | ((with_reducible apply d_listL); (· walk_at "sl"); intro _ _ _ _ _)
  | ((with_reducible apply d_lenT); (· walk_at "tb"))
  | ((with_reducible apply d_ixTb); (· walk_at "tb"); (· assumption); intro _ _)
  | ((with_reducible apply d_len); (· walk_at "sl"))
  | ((with_reducible apply d_sum); (· walk_at "sl"))
  | (with_reducible refine d_lenSet ?_)
  | ((with_reducible apply d_rLenSet); (· walk_at "sl"); (· assumption); (· assumption))
  | ((with_reducible apply d_inI); (· walk_at "sl"))
  | ((with_reducible apply d_notInI); (· walk_at "sl"))
  | (with_reducible refine d_isNn ?_)
  | (with_reducible refine d_notNn ?_)
  | (with_reducible refine d_intB ?_)
  | ((with_reducible apply d_isi); (· walk_at "ty"); (· first | exact k_ii | exact k_ib | exact k_bb | exact k_ll | exact k_tt | exact k_ss | exact k_ls))
  | walk_at "spcall"
  | (with_reducible refine d_bmL ?_)
  | ((with_reducible apply d_rBmL); (· walk_at "sl"))
  | ((with_reducible apply d_append); (· walk_at "hl"); (· walk_at "len"); intro _ _ _)
  | (with_reducible refine d_seq ?_)
  | (with_reducible refine d_asg ?_)
  | (with_reducible refine d_asgG ?_)
  | ((with_reducible apply d_gTupP); (· walk_at "pr"))
  | ((with_reducible apply d_gTup2); (· walk_at "st"))
  | (with_reducible refine d_ret ?_)
  | (with_reducible refine d_retN ?_)
  | (with_reducible refine d_drop ?_)
  | (with_reducible refine d_next ?_)
  | (with_reducible refine d_par ?_)
  | (with_reducible refine d_rPar ?_)
  | fail "go1"); walk_at "nx")
local macro_rules | `(tactic| walk_at "go") => `(tactic| repeat walk_at "go1")
/- an expression's value -/
local macro_rules | `(tactic| walk_at "ev") => `(tactic| first
  | ((with_reducible apply ev_andV); (· walk_at "ev"); (· intro hb; (try simp only [Bool.and_eq_true, Bool.or_eq_true, decide_eq_true_eq, Bool.not_eq_true', decide_eq_false_iff_not, Bool.or_eq_false_iff, Bool.not_eq_false', Bool.not_eq_false, Bool.not_eq_true] at hb) ; walk_at "ev"))
  | ((with_reducible apply ev_orV); (· walk_at "ev"); (· intro hb; (try simp only [Bool.and_eq_true, Bool.or_eq_true, decide_eq_true_eq, Bool.not_eq_true', decide_eq_false_iff_not, Bool.or_eq_false_iff, Bool.not_eq_false', Bool.not_eq_false, Bool.not_eq_true] at hb) ; walk_at "ev"))
  | ((with_reducible apply ev_notV); walk_at "ev")
  | ((with_reducible apply ev_chain); (· walk_at "ev"); (· walk_at "ev"); (· walk_at "ev"))
  | ((with_reducible apply ev_intro); intro _ _ _ q; walk_at "nx"; walk_at "go"; exact q _ (by walk_at "ex"))
  | fail "ev")
/- a test's -/
local macro_rules | `(tactic| walk_at "et") => `(tactic| first
  | ((with_reducible apply et_and); (· walk_at "et"); (· intro hb; (try simp only [Bool.and_eq_true, Bool.or_eq_true, decide_eq_true_eq, Bool.not_eq_true', decide_eq_false_iff_not, Bool.or_eq_false_iff, Bool.not_eq_false', Bool.not_eq_false, Bool.not_eq_true] at hb) ; walk_at "et"))
  | ((with_reducible apply et_or); (· walk_at "et"); (· intro hb; (try simp only [Bool.and_eq_true, Bool.or_eq_true, decide_eq_true_eq, Bool.not_eq_true', decide_eq_false_iff_not, Bool.or_eq_false_iff, Bool.not_eq_false', Bool.not_eq_false, Bool.not_eq_true] at hb) ; walk_at "et"))
  | ((with_reducible apply et_not); walk_at "et")
  | ((with_reducible apply et_test); walk_at "ev")
  | ((with_reducible apply et_B); walk_at "ev")
  | fail "et")
local macro_rules | `(tactic| walk_at "if") => `(tactic| ((with_reducible apply d_if); (· walk_at "et")))
local macro_rules | `(tactic| walk_at "ea") => `(tactic| first
  | exact ea_nil
  | ((with_reducible apply ea_cons); (· walk_at "ev"); walk_at "ea")
  | fail "ea")
local macro_rules | `(tactic| walk_at "eu") => `(tactic| (apply eu_tup; (· walk_at "ea"); (· simp)))

def topS (i : Nat) : Stmt := PySem.Challenge.pw_takepairs_k12_whole_plays_between.main.body.getD i (.Pass ⟨0, 0, 0, 0⟩)
abbrev s_asked_pair : Stmt := topS 6
abbrev s_quotients_of : Stmt := topS 7
abbrev s_moves_of : Stmt := topS 9
abbrev s_behind : Stmt := topS 11
abbrev s__law_cell_at : Stmt := topS 17
abbrev s__law_common : Stmt := topS 19
abbrev s_quotients : Stmt := topS 8
abbrev s_moves : Stmt := topS 10
abbrev s_taken : Stmt := topS 12
abbrev s__law_small_by : Stmt := topS 18
abbrev s_shortest : Stmt := topS 14
abbrev s_longest : Stmt := topS 15
abbrev s__law_played : Stmt := topS 20
abbrev s_law : Stmt := topS 21
structure Txt (K : PySem.W.Frag) (mg : Str → Option Value) : Prop where
  b_len : mg "len" = none
  b_max : mg "max" = none
  b_min : mg "min" = none
  b_range : mg "range" = none
  b_sum : mg "sum" = none
  g_GREATEST : ∃ u, mg "GREATEST" = some u ∧ RelV (.int 1000000000000000000000000000000) u
theorem sc_asked_pair : FnScope ["pair", "pile"] ["pair"] (defScope s_asked_pair) := ⟨rfl, rfl, rfl, by decide +kernel, rfl, by decide +kernel, by decide +kernel⟩
theorem sc_quotients_of : FnScope ["pair", "great", "small", "found", "rest"] ["pair"] (defScope s_quotients_of) := ⟨rfl, rfl, rfl, by decide +kernel, rfl, by decide +kernel, by decide +kernel⟩
theorem sc_moves_of : FnScope ["pair"] ["pair"] (defScope s_moves_of) := ⟨rfl, rfl, rfl, by decide +kernel, rfl, by decide +kernel, by decide +kernel⟩
theorem sc_behind : FnScope ["pair", "times"] ["pair", "times"] (defScope s_behind) := ⟨rfl, rfl, rfl, by decide +kernel, rfl, by decide +kernel, by decide +kernel⟩
theorem sc__law_cell_at : FnScope ["script", "k"] ["script", "k"] (defScope s__law_cell_at) := ⟨rfl, rfl, rfl, by decide +kernel, rfl, by decide +kernel, by decide +kernel⟩
theorem sc__law_common : FnScope ["one", "other"] ["one", "other"] (defScope s__law_common) := ⟨rfl, rfl, rfl, by decide +kernel, rfl, by decide +kernel, by decide +kernel⟩
theorem sc_quotients : FnScope ["pair"] ["pair"] (defScope s_quotients) := ⟨rfl, rfl, rfl, by decide +kernel, rfl, by decide +kernel, by decide +kernel⟩
theorem sc_moves : FnScope ["pair"] ["pair"] (defScope s_moves) := ⟨rfl, rfl, rfl, by decide +kernel, rfl, by decide +kernel, by decide +kernel⟩
theorem sc_taken : FnScope ["pair", "times"] ["pair", "times"] (defScope s_taken) := ⟨rfl, rfl, rfl, by decide +kernel, rfl, by decide +kernel, by decide +kernel⟩
theorem sc__law_small_by : FnScope ["script", "at", "most", "one", "other"] ["script", "at", "most"] (defScope s__law_small_by) := ⟨rfl, rfl, rfl, by decide +kernel, rfl, by decide +kernel, by decide +kernel⟩
theorem sc_shortest : FnScope ["pair", "found"] ["pair"] (defScope s_shortest) := ⟨rfl, rfl, rfl, by decide +kernel, rfl, by decide +kernel, by decide +kernel⟩
theorem sc_longest : FnScope ["pair"] ["pair"] (defScope s_longest) := ⟨rfl, rfl, rfl, by decide +kernel, rfl, by decide +kernel, by decide +kernel⟩
theorem sc__law_played : FnScope ["script", "pair", "kind", "done", "many", "times"] ["script", "pair", "kind"] (defScope s__law_played) := ⟨rfl, rfl, rfl, by decide +kernel, rfl, by decide +kernel, by decide +kernel⟩
theorem sc_law : FnScope ["script", "pair", "common", "least", "most", "kind", "done", "left"] ["script"] (defScope s_law) := ⟨rfl, rfl, rfl, by decide +kernel, rfl, by decide +kernel, by decide +kernel⟩
section
variable {P : Program} {w : World} {K : PySem.W.Frag} {mg : Str → Option Value} {base : Heap}
/-! ### asked_pair -/
def sp_asked_pair (K : PySem.W.Frag) : Sp := fun vs H Q _ => ∃ v x y, vs = [v] ∧ Pr K H v x y ∧ Gd x ∧ Gd y ∧ RetV .non H Q
theorem ok_asked_pair (F : Df K mg "asked_pair" s_asked_pair) (T : Txt K mg)  : Cl P w K mg base 1 "asked_pair" (sp_asked_pair K) := by
  refine cl_of (N := ["pair", "pile"]) (ps := ["pair"]) F (fun _ _ _ _ _ _ us hl => match us, hl with | [_], _ => rfl) sc_asked_pair (fun vs H Q E h => by obtain ⟨_, _, _, rfl, _⟩ := h; rfl) (fun f cdv A outer s H vs Q E hr h => ⟨_, (pss_one (ps_for PassesOwn.never rfl (pi_tup (pv 0)) (pg_name (i := 1) sc_asked_pair.nd rfl (.inl rfl)) (pss_one (ps_if (PW.pt (pw_or (pt_cmpR op_lt (pv 1) pe_int (nomark _)) (pw_or1 (pt_cmpR op_gt (pv 1) (pe_gc (by rfl) T.g_GREATEST) (nomark _))))) (pss_one ps_never) pss_nil)))), ?_⟩)
  obtain ⟨v, x, y, rfl, hp, hx, hy, q⟩ := h
  obtain ⟨a, rfl, hq⟩ := id hp
  rw [show start ["pair", "pile"] [.ref a] = [some (.ref a), none] from rfl]
  refine ⟨_, rfl, a, rfl, ⟨_, hq⟩, for_tup (K := K) (a := a) (xs := [.int x, .int y]) (fun i σ H' => Ex H H' ∧ ∃ z, σ = [some (.ref a), z])
    ⟨Ex.refl _, none, rfl⟩ (fun i σ H' _ h => ex_t h.1 hq) ?_ ?_⟩
  · rintro i z σ H' hi ⟨e, z', rfl⟩
    have hz : ∃ n, z = .int n ∧ Gd n := by
      match i, hi with
      | 0, hi => exact ⟨x, (Option.some.inj hi).symm, hx⟩
      | 1, hi => exact ⟨y, (Option.some.inj hi).symm, hy⟩
    obtain ⟨n, rfl, hn1, hn2⟩ := hz
    walk_at "nx"
    walk_at "if"
    · intro hb
      simp at hb
      omega
    · intro hb H1 e1
      exact ⟨e.trans e1, some (.int n), rfl⟩
  · rintro σ H' ⟨e, z, rfl⟩
    exact q _ e
theorem u_asked_pair {H : Hp} {Q : VK} {E : XK} {v : V} {x y : Int} (hp : Pr K H v x y) (hx : Gd x) (hy : Gd y) (q : ∀ H2, Ex H H2 → Q .non H2) : sp_asked_pair K [v] H Q E := ⟨v, x, y, rfl, hp, hx, hy, q⟩
local macro_rules | `(tactic| walk_at "spcall") => `(tactic| ((with_reducible apply u_asked_pair); (· walk_at "pr"); (· walk_at "gd"); (· walk_at "gd"); intro _ _))

/-! ### quotients_of -/
def sp_quotients_of (K : PySem.W.Frag) : Sp := fun vs H Q _ => ∃ v x y, vs = [v] ∧ Pr K H v x y ∧ Gd x ∧ Gd y ∧ RetL ((qs x y).map V.int) H Q
theorem ok_quotients_of (F : Df K mg "quotients_of" s_quotients_of) (T : Txt K mg)  : Cl P w K mg base 1 "quotients_of" (sp_quotients_of K) := by
  refine cl_of (N := ["pair", "great", "small", "found", "rest"]) (ps := ["pair"]) F (fun _ _ _ _ _ _ us hl => match us, hl with | [_], _ => rfl) sc_quotients_of (fun vs H Q E h => by obtain ⟨_, _, _, rfl, _⟩ := h; rfl) (fun f cdv A outer s H vs Q E hr h => ⟨_, (pss_cons (ps_set (i := 1) sc_quotients_of.nd rfl (.inl rfl) (pe_callB (call_maxT rfl) (by rfl) T.b_max (by decide +kernel) (pa_cons (pv 0) pa_nil)))
    (pss_cons (ps_set (i := 2) sc_quotients_of.nd rfl (.inl rfl) (pe_callB (call_minT rfl) (by rfl) T.b_min (by decide +kernel) (pa_cons (pv 0) pa_nil)))
    (pss_cons (ps_set (i := 3) sc_quotients_of.nd rfl (.inl rfl) (pe_lst pa_nil))
    (pss_cons (ps_while PassesOwn.never (pt_cmpR op_gt (pv 2) pe_int (nomark _)) (pss_cons (ps_expr (pe_bm PySem.F.plainAttrs_list PySem.F.slot_list_append PySem.F.type_list_append mt_append (pv 3) (pa_cons (pe_op op_fdivW (pv 1) (pv 2)) pa_nil)))
    (pss_cons (ps_set (i := 4) sc_quotients_of.nd rfl (.inl rfl) (pe_op op_mod (pv 1) (pv 2)))
    (pss_cons (ps_set (i := 1) sc_quotients_of.nd rfl (.inl rfl) (pv 2))
    (pss_one (ps_set (i := 2) sc_quotients_of.nd rfl (.inl rfl) (pv 4)))))))
    (pss_one (ps_ret (pv 3))))))), ?_⟩)
  obtain ⟨v, x, y, rfl, hp, ⟨hx1, hx2⟩, ⟨hy1, hy2⟩, q⟩ := h
  rw [show start ["pair", "great", "small", "found", "rest"] [v] = [some (v), none, none, none, none] from rfl]
  walk_at "go"
  rename_i l H1 hl e1 h1
  refine d_while (fun m σ' H' => ∃ g s acc r, σ' = [some v, some (.int g), some (.int s), some (.ref l), r] ∧ 0 ≤ s ∧ 0 ≤ g ∧ s ≤ 1000000000000000000000000000000 ∧ m = s.toNat ∧ Ex H H' ∧ H' l = some (.lst (acc.map V.int)) ∧ acc ++ eu g s = qs x y) _
    ⟨max x y, min x y, [], none, rfl, by omega, by omega, by omega, rfl, e1, h1, rfl⟩ ?_
  rintro m σ' H' ⟨g, s, acc, r, rfl, hs, hg, hs2, rfl, e2, h2, he⟩
  refine ⟨decide (0 < s), by walk_at "et", fun hb H3 e3 => ?_, fun hb H3 e3 => ?_⟩
  · have hb := of_decide_eq_true hb
    have hlen : acc.length ≤ 200 := by
      have := congrArg List.length he
      rw [List.length_append] at this
      have := qs_len (y := y) hx2
      omega
    rw [eu_step hg hb] at he
    walk_at "go"
    rename_i H4 b4 h4
    refine ⟨(g % s).toNat, by have := Int.emod_lt_of_pos g hb; have := Int.emod_nonneg g (by omega : s ≠ 0); omega, s, g % s, acc ++ [g / s], _, rfl, Int.emod_nonneg g (by omega), hs, by have := Int.emod_lt_of_pos g hb; omega, rfl, by walk_at "ex", ?_, ?_⟩
    · rw [h4]; simp
    · rw [List.append_assoc]; exact he
  · have hb := of_decide_eq_false hb
    rw [eu_zero (by omega), List.append_nil] at he
    walk_at "go"
    refine q l _ hl (by walk_at "ex") ?_
    rw [← he]
    exact e3 _ _ h2
theorem u_quotients_of {H : Hp} {Q : VK} {E : XK} {v : V} {x y : Int} (hp : Pr K H v x y) (hx : Gd x) (hy : Gd y) (q : ∀ p H2, H p = none → Ex H H2 → H2 p = some (.lst ((qs x y).map V.int)) → Q (.ref p) H2) : sp_quotients_of K [v] H Q E := ⟨v, x, y, rfl, hp, hx, hy, q⟩
local macro_rules | `(tactic| walk_at "spcall") => `(tactic| ((with_reducible apply u_quotients_of); (· walk_at "pr"); (· walk_at "gd"); (· walk_at "gd"); intro _ _ _ _ _))

/-! ### moves_of -/
def mvs (x y : Int) : Int := (max x y - 1) / min x y
def sp_moves_of (K : PySem.W.Frag) : Sp := fun vs H Q _ => ∃ v x y, vs = [v] ∧ Pr K H v x y ∧ Gd x ∧ Gd y ∧ RetV (.int (mvs x y)) H Q
theorem ok_moves_of (F : Df K mg "moves_of" s_moves_of) (T : Txt K mg)  : Cl P w K mg base 1 "moves_of" (sp_moves_of K) := by
  refine cl_of (N := ["pair"]) (ps := ["pair"]) F (fun _ _ _ _ _ _ us hl => match us, hl with | [_], _ => rfl) sc_moves_of (fun vs H Q E h => by obtain ⟨_, _, _, rfl, _⟩ := h; rfl) (fun f cdv A outer s H vs Q E hr h => ⟨_, (pss_one (ps_ret (pe_op op_fdivW (pe_op op_sub (pe_callB (call_maxT rfl) (by rfl) T.b_max (by decide +kernel) (pa_cons (pv 0) pa_nil)) pe_int) (pe_callB (call_minT rfl) (by rfl) T.b_min (by decide +kernel) (pa_cons (pv 0) pa_nil))))), ?_⟩)
  obtain ⟨v, x, y, rfl, hp, ⟨hx1, hx2⟩, ⟨hy1, hy2⟩, q⟩ := h
  rw [show start ["pair"] [v] = [some (v)] from rfl]
  walk_at "go"
  exact q _ (by walk_at "ex")
theorem u_moves_of {H : Hp} {Q : VK} {E : XK} {v : V} {x y : Int} (hp : Pr K H v x y) (hx : Gd x) (hy : Gd y) (q : ∀ H2, Ex H H2 → Q (.int (mvs x y)) H2) : sp_moves_of K [v] H Q E := ⟨v, x, y, rfl, hp, hx, hy, q⟩
local macro_rules | `(tactic| walk_at "spcall") => `(tactic| ((with_reducible apply u_moves_of); (· walk_at "pr"); (· walk_at "gd"); (· walk_at "gd"); intro _ _))

/-! ### behind -/
/-- behind a move -/
def bh (x y t : Int) : Int × Int := if y < x then (x - t * y, y) else (x, y - t * x)
theorem mvs_mul {x y t : Int} (hx : 1 ≤ x) (hy : 1 ≤ y) (h : t ≤ mvs x y) : t * min x y ≤ max x y - 1 := by
  have h1 := Int.mul_le_mul_of_nonneg_right h (show 0 ≤ min x y by omega)
  have h2 : mvs x y * min x y ≤ max x y - 1 := Int.ediv_mul_le _ (by omega)
  omega
theorem mvs_le {x y : Int} (hx : Gd x) (hy : Gd y) : 0 ≤ mvs x y ∧ mvs x y ≤ 1000000000000000000000000000000 := by
  have h0 := hx.1
  have h1 := hy.1
  have h2 := hx.2
  have h3 := hy.2
  refine ⟨Int.ediv_nonneg (by omega) (by omega), ?_⟩
  have : mvs x y ≤ max x y - 1 := Int.ediv_le_self _ (by omega)
  omega
theorem bh_gd {x y t : Int} (hx : Gd x) (hy : Gd y) (h1 : 1 ≤ t) (h2 : t ≤ mvs x y) : Gd (bh x y t).1 ∧ Gd (bh x y t).2 := by
  have h3 := mvs_mul hx.1 hy.1 h2
  have h4 : 0 ≤ t * min x y := Int.mul_nonneg (by omega) (by have := hx.1; have := hy.1; omega)
  obtain ⟨a1, a2⟩ := hx
  obtain ⟨b1, b2⟩ := hy
  unfold bh
  by_cases c : y < x
  · rw [if_pos c]
    rw [show max x y = x by omega, show min x y = y by omega] at h3
    rw [show min x y = y by omega] at h4
    exact ⟨⟨by show 1 ≤ x - t * y; omega, by show x - t * y ≤ _; omega⟩, ⟨b1, b2⟩⟩
  · rw [if_neg c]
    rw [show max x y = y by omega, show min x y = x by omega] at h3
    rw [show min x y = x by omega] at h4
    exact ⟨⟨a1, a2⟩, ⟨by show 1 ≤ y - t * x; omega, by show y - t * x ≤ _; omega⟩⟩
def sp_behind (K : PySem.W.Frag) : Sp := fun vs H Q _ => ∃ v x y t, vs = [v, .int t] ∧ Pr K H v x y ∧ Gd x ∧ Gd y ∧ 1 ≤ t ∧ t ≤ mvs x y ∧ ∀ v' H', Ex H H' → Pr K H' v' (bh x y t).1 (bh x y t).2 → Q v' H'
theorem ok_behind (F : Df K mg "behind" s_behind) (T : Txt K mg)  : Cl P w K mg base 1 "behind" (sp_behind K) := by
  refine cl_of (N := ["pair", "times"]) (ps := ["pair", "times"]) F (fun _ _ _ _ _ _ us hl => match us, hl with | [_, _], _ => rfl) sc_behind (fun vs H Q E h => by obtain ⟨_, _, _, _, rfl, _⟩ := h; rfl) (fun f cdv A outer s H vs Q E hr h => ⟨_, (pss_cons (ps_if (pt_cmpR op_gt (pe_ix ix_tup (pv 0) pe_int (fun _ _ => rfl)) (pe_ix ix_tup (pv 0) pe_int (fun _ _ => rfl)) (nomark _)) (pss_one (ps_ret (pe_tup (pa_cons (pe_op op_sub (pe_ix ix_tup (pv 0) pe_int (fun _ _ => rfl)) (pe_op op_mulW (pv 1) (pe_ix ix_tup (pv 0) pe_int (fun _ _ => rfl)))) (pa_cons (pe_ix ix_tup (pv 0) pe_int (fun _ _ => rfl)) pa_nil))))) pss_nil)
    (pss_one (ps_ret (pe_tup (pa_cons (pe_ix ix_tup (pv 0) pe_int (fun _ _ => rfl)) (pa_cons (pe_op op_sub (pe_ix ix_tup (pv 0) pe_int (fun _ _ => rfl)) (pe_op op_mulW (pv 1) (pe_ix ix_tup (pv 0) pe_int (fun _ _ => rfl)))) pa_nil)))))), ?_⟩)
  obtain ⟨v, x, y, t, rfl, hp, hx, hy, h1, h2, q⟩ := h
  rw [show start ["pair", "times"] [v, .int t] = [some (v), some (.int t)] from rfl]
  have h3 := (mvs_le hx hy).2
  obtain ⟨a1, a2⟩ := hx
  obtain ⟨b1, b2⟩ := hy
  walk_at "go"
  walk_at "if"
  · intro hb H1 e1
    have hb := of_decide_eq_true hb
    have e : bh x y t = (x - t * y, y) := if_pos hb
    rw [e] at q
    walk_at "go"
    exact q _ _ (by walk_at "ex") (by walk_at "pr")
  · intro hb H1 e1
    have hb := of_decide_eq_false hb
    have e : bh x y t = (x, y - t * x) := if_neg hb
    rw [e] at q
    walk_at "go"
    exact q _ _ (by walk_at "ex") (by walk_at "pr")
theorem u_behind {H : Hp} {Q : VK} {E : XK} {v : V} {x y t : Int} (hp : Pr K H v x y) (hx : Gd x) (hy : Gd y) (h1 : 1 ≤ t) (h2 : t ≤ mvs x y) (q : ∀ v' H', Ex H H' → Pr K H' v' (bh x y t).1 (bh x y t).2 → Gd (bh x y t).1 → Gd (bh x y t).2 → Q v' H') : sp_behind K [v, .int t] H Q E :=
  ⟨v, x, y, t, rfl, hp, hx, hy, h1, h2, fun v' H' e p => q v' H' e p (bh_gd hx hy h1 h2).1 (bh_gd hx hy h1 h2).2⟩
local macro_rules | `(tactic| walk_at "spcall") => `(tactic| ((with_reducible apply u_behind); (· walk_at "pr"); (· walk_at "gd"); (· walk_at "gd"); (· omega); (· omega); intro _ _ _ _ _ _))

/-! ### _law_cell_at -/
def cellL (ns : List Int) (k : Nat) : Int := ns.getD k 0
def sp__law_cell_at (K : PySem.W.Frag) : Sp := fun vs H Q _ => ∃ (a : Addr) (ns : List Int) (k : Nat), vs = [.ref a, .int (k : Int)] ∧ SqL K H a (ns.map V.int) ∧ RetV (.int (cellL ns k)) H Q
theorem ok__law_cell_at (F : Df K mg "_law_cell_at" s__law_cell_at) (T : Txt K mg)  : Cl P w K mg base 1 "_law_cell_at" (sp__law_cell_at K) := by
  refine cl_of (N := ["script", "k"]) (ps := ["script", "k"]) F (fun _ _ _ _ _ _ us hl => match us, hl with | [_, _], _ => rfl) sc__law_cell_at (fun vs H Q E h => by obtain ⟨_, _, _, rfl, _⟩ := h; rfl) (fun f cdv A outer s H vs Q E hr h => ⟨_, (pss_cons (ps_if (pt_cmpR op_lt (pv 1) (pe_callB call_lenL (by rfl) T.b_len (by decide +kernel) (pa_cons (pv 0) pa_nil)) (nomark _)) (pss_one (ps_ret (pe_ix ix_list (pv 0) (pv 1) (fun _ _ => rfl)))) pss_nil)
    (pss_one (ps_ret pe_int))), ?_⟩)
  obtain ⟨a, ns, k, rfl, hs, q⟩ := h
  rw [show start ["script", "k"] [.ref a, .int (k : Int)] = [some (.ref a), some (.int (k : Int))] from rfl]
  walk_at "go"
  walk_at "if"
  · intro hb H1 e1
    simp at hb
    walk_at "go"
    have hk : ns[k]? = some ns[k] := List.getElem?_eq_getElem hb
    refine d_ixL (xs := ns.map V.int) (v := .int (cellL ns k)) (by walk_at "sl") ?_ ?_
    · refine atI_nat ?_
      rw [List.getElem?_map, hk]
      unfold cellL
      rw [List.getD_eq_getElem?_getD, hk]
      rfl
    · exact q _ (by walk_at "ex")
  · intro hb H1 e1
    simp at hb
    walk_at "go"
    have e : cellL ns k = 0 := by
      unfold cellL
      rw [List.getD_eq_getElem?_getD, List.getElem?_eq_none (by omega)]
      rfl
    rw [e] at q
    exact q _ (by walk_at "ex")
theorem u_cell {H : Hp} {Q : VK} {E : XK} {a : Addr} {ns : List Int} {k : Int} (hs : SqL K H a (ns.map V.int)) (hk : 0 ≤ k) (q : ∀ H2, Ex H H2 → Q (.int (cellL ns k.toNat)) H2) : sp__law_cell_at K [.ref a, .int k] H Q E :=
  ⟨a, ns, k.toNat, by rw [Int.toNat_of_nonneg hk], hs, q⟩
local macro_rules | `(tactic| walk_at "spcall") => `(tactic| ((with_reducible apply u_cell); (· walk_at "sl"); (· omega); intro _ _))

/-! ### _law_common -/
def sp__law_common (K : PySem.W.Frag) : Sp := fun vs H Q _ => ∃ x y : Int, vs = [.int x, .int y] ∧ 0 ≤ x ∧ 0 ≤ y ∧ RetV (.int ((Nat.gcd x.toNat y.toNat : Nat) : Int)) H Q
theorem ok__law_common (F : Df K mg "_law_common" s__law_common) (T : Txt K mg)  : Cl P w K mg base 1 "_law_common" (sp__law_common K) := by
  refine cl_of (N := ["one", "other"]) (ps := ["one", "other"]) F (fun _ _ _ _ _ _ us hl => match us, hl with | [_, _], _ => rfl) sc__law_common (fun vs H Q E h => by obtain ⟨_, _, rfl, _⟩ := h; rfl) (fun f cdv A outer s H vs Q E hr h => ⟨_, (pss_cons (ps_while PassesOwn.never (pt_cmpR op_gt (pv 1) pe_int (nomark _)) (pss_one (ps_par (i := 0) (j := 1) rfl sc__law_common.nd rfl rfl (by decide) rfl rfl (pa_cons (pv 1) (pa_cons (pe_op op_mod (pv 0) (pv 1)) pa_nil)) rfl)))
    (pss_one (ps_ret (pv 0)))), ?_⟩)
  obtain ⟨x, y, rfl, hx, hy, q⟩ := h
  rw [show start ["one", "other"] [.int x, .int y] = [some (.int x), some (.int y)] from rfl]
  walk_at "go"
  refine d_while (fun m σ' H' => ∃ a b : Int, σ' = [some (.int a), some (.int b)] ∧ 0 ≤ a ∧ 0 ≤ b ∧ Nat.gcd a.toNat b.toNat = Nat.gcd x.toNat y.toNat ∧ m = b.toNat ∧ Ex H H') _ ⟨x, y, rfl, hx, hy, rfl, rfl, Ex.refl _⟩ ?_
  rintro m σ' H' ⟨a, b, rfl, ha, hb, hg, rfl, e⟩
  refine ⟨decide (0 < b), by walk_at "et", fun hb1 H3 e3 => ?_, fun hb1 H3 e3 => ?_⟩
  · have hb1 := of_decide_eq_true hb1
    have r0 := Int.emod_nonneg a (show b ≠ 0 by omega)
    have r1 := Int.emod_lt_of_pos a hb1
    walk_at "go"
    refine ⟨(a % b).toNat, by omega, b, a % b, rfl, hb, r0, ?_, rfl, by walk_at "ex"⟩
    rw [← hg]
    obtain ⟨m, rfl⟩ := Int.eq_ofNat_of_zero_le ha
    obtain ⟨n, rfl⟩ := Int.eq_ofNat_of_zero_le hb
    show Nat.gcd n (m % n) = Nat.gcd m n
    rw [Nat.gcd_comm n, ← Nat.gcd_rec, Nat.gcd_comm]
  · have hb1 := of_decide_eq_false hb1
    have b0 : b = 0 := by omega
    subst b0
    rw [← hg] at q
    rw [show ((Nat.gcd a.toNat (Int.toNat 0) : Nat) : Int) = a by rw [show Int.toNat 0 = 0 from rfl, Nat.gcd_zero_right]; omega] at q
    walk_at "go"
    exact q _ (by walk_at "ex")
theorem u_common {H : Hp} {Q : VK} {E : XK} {x y : Int} (hx : 0 ≤ x) (hy : 0 ≤ y) (q : ∀ H2, Ex H H2 → Q (.int ((Nat.gcd x.toNat y.toNat : Nat) : Int)) H2) : sp__law_common K [.int x, .int y] H Q E := ⟨x, y, rfl, hx, hy, q⟩
local macro_rules | `(tactic| walk_at "spcall") => `(tactic| ((with_reducible apply u_common); (· omega); (· omega); intro _ _))

/-! ### quotients -/
def sp_quotients (K : PySem.W.Frag) : Sp := fun vs H Q _ => ∃ v x y, vs = [v] ∧ Pr K H v x y ∧ Gd x ∧ Gd y ∧ RetL ((qs x y).map V.int) H Q
theorem ok_quotients (F : Df K mg "quotients" s_quotients) (T : Txt K mg) (c_asked_pair : Cl P w K mg base 1 "asked_pair" (sp_asked_pair K)) (c_quotients_of : Cl P w K mg base 1 "quotients_of" (sp_quotients_of K)) : Cl P w K mg base 2 "quotients" (sp_quotients K) := by
  refine cl_of (N := ["pair"]) (ps := ["pair"]) F (fun _ _ _ _ _ _ us hl => match us, hl with | [_], _ => rfl) sc_quotients (fun vs H Q E h => by obtain ⟨_, _, _, rfl, _⟩ := h; rfl) (fun f cdv A outer s H vs Q E hr h => ⟨_, (pss_cons (ps_expr (pe_cl c_asked_pair hr (by decide) (by rfl) (pa_cons (pv 0) pa_nil)))
    (pss_one (ps_ret (pe_cl c_quotients_of hr (by decide) (by rfl) (pa_cons (pv 0) pa_nil))))), ?_⟩)
  obtain ⟨v, x, y, rfl, hp, hx, hy, q⟩ := h
  rw [show start ["pair"] [v] = [some (v)] from rfl]
  walk_at "go"
  exact q _ _ (by walk_at "fr") (by walk_at "ex") (by assumption)
theorem u_quotients {H : Hp} {Q : VK} {E : XK} {v : V} {x y : Int} (hp : Pr K H v x y) (hx : Gd x) (hy : Gd y) (q : ∀ p H2, H p = none → Ex H H2 → H2 p = some (.lst ((qs x y).map V.int)) → Q (.ref p) H2) : sp_quotients K [v] H Q E := ⟨v, x, y, rfl, hp, hx, hy, q⟩
local macro_rules | `(tactic| walk_at "spcall") => `(tactic| ((with_reducible apply u_quotients); (· walk_at "pr"); (· walk_at "gd"); (· walk_at "gd"); intro _ _ _ _ _))

/-! ### moves -/
def sp_moves (K : PySem.W.Frag) : Sp := fun vs H Q _ => ∃ v x y, vs = [v] ∧ Pr K H v x y ∧ Gd x ∧ Gd y ∧ RetV (.int (mvs x y)) H Q
theorem ok_moves (F : Df K mg "moves" s_moves) (T : Txt K mg) (c_asked_pair : Cl P w K mg base 1 "asked_pair" (sp_asked_pair K)) (c_moves_of : Cl P w K mg base 1 "moves_of" (sp_moves_of K)) : Cl P w K mg base 2 "moves" (sp_moves K) := by
  refine cl_of (N := ["pair"]) (ps := ["pair"]) F (fun _ _ _ _ _ _ us hl => match us, hl with | [_], _ => rfl) sc_moves (fun vs H Q E h => by obtain ⟨_, _, _, rfl, _⟩ := h; rfl) (fun f cdv A outer s H vs Q E hr h => ⟨_, (pss_cons (ps_expr (pe_cl c_asked_pair hr (by decide) (by rfl) (pa_cons (pv 0) pa_nil)))
    (pss_one (ps_ret (pe_cl c_moves_of hr (by decide) (by rfl) (pa_cons (pv 0) pa_nil))))), ?_⟩)
  obtain ⟨v, x, y, rfl, hp, hx, hy, q⟩ := h
  rw [show start ["pair"] [v] = [some (v)] from rfl]
  walk_at "go"
  exact q _ (by walk_at "ex")
theorem u_moves {H : Hp} {Q : VK} {E : XK} {v : V} {x y : Int} (hp : Pr K H v x y) (hx : Gd x) (hy : Gd y) (q : ∀ H2, Ex H H2 → Q (.int (mvs x y)) H2) : sp_moves K [v] H Q E := ⟨v, x, y, rfl, hp, hx, hy, q⟩
local macro_rules | `(tactic| walk_at "spcall") => `(tactic| ((with_reducible apply u_moves); (· walk_at "pr"); (· walk_at "gd"); (· walk_at "gd"); intro _ _))

/-! ### taken -/
def sp_taken (K : PySem.W.Frag) : Sp := fun vs H Q _ => ∃ v x y t, vs = [v, .int t] ∧ Pr K H v x y ∧ Gd x ∧ Gd y ∧ 1 ≤ t ∧ t ≤ mvs x y ∧ ∀ v' H', Ex H H' → Pr K H' v' (bh x y t).1 (bh x y t).2 → Q v' H'
theorem ok_taken (F : Df K mg "taken" s_taken) (T : Txt K mg) (c_asked_pair : Cl P w K mg base 1 "asked_pair" (sp_asked_pair K)) (c_moves_of : Cl P w K mg base 1 "moves_of" (sp_moves_of K)) (c_behind : Cl P w K mg base 1 "behind" (sp_behind K)) : Cl P w K mg base 2 "taken" (sp_taken K) := by
  refine cl_of (N := ["pair", "times"]) (ps := ["pair", "times"]) F (fun _ _ _ _ _ _ us hl => match us, hl with | [_, _], _ => rfl) sc_taken (fun vs H Q E h => by obtain ⟨_, _, _, _, rfl, _⟩ := h; rfl) (fun f cdv A outer s H vs Q E hr h => ⟨_, (pss_cons (ps_expr (pe_cl c_asked_pair hr (by decide) (by rfl) (pa_cons (pv 0) pa_nil)))
    (pss_cons (ps_if (PW.pt (pw_or (pt_cmpR op_lt (pv 1) pe_int (nomark _)) (pw_or1 (pt_cmpR op_gt (pv 1) (pe_cl c_moves_of hr (by decide) (by rfl) (pa_cons (pv 0) pa_nil)) (nomark _))))) (pss_one ps_never) pss_nil)
    (pss_one (ps_ret (pe_cl c_behind hr (by decide) (by rfl) (pa_cons (pv 0) (pa_cons (pv 1) pa_nil))))))), ?_⟩)
  obtain ⟨v, x, y, t, rfl, hp, hx, hy, h1, h2, q⟩ := h
  rw [show start ["pair", "times"] [v, .int t] = [some (v), some (.int t)] from rfl]
  walk_at "go"
  walk_at "if"
  · intro hb
    simp at hb
    omega
  · intro hb H1 e1
    walk_at "go"
    exact q _ _ (by walk_at "ex") (by walk_at "pr")
theorem u_taken {H : Hp} {Q : VK} {E : XK} {v : V} {x y t : Int} (hp : Pr K H v x y) (hx : Gd x) (hy : Gd y) (h1 : 1 ≤ t) (h2 : t ≤ mvs x y) (q : ∀ v' H', Ex H H' → Pr K H' v' (bh x y t).1 (bh x y t).2 → Gd (bh x y t).1 → Gd (bh x y t).2 → Q v' H') : sp_taken K [v, .int t] H Q E :=
  ⟨v, x, y, t, rfl, hp, hx, hy, h1, h2, fun v' H' e p => q v' H' e p (bh_gd hx hy h1 h2).1 (bh_gd hx hy h1 h2).2⟩
local macro_rules | `(tactic| walk_at "spcall") => `(tactic| ((with_reducible apply u_taken); (· walk_at "pr"); (· walk_at "gd"); (· walk_at "gd"); (· omega); (· omega); intro _ _ _ _ _ _))

/-! ### _law_small_by -/
def sp__law_small_by (K : PySem.W.Frag) : Sp := fun vs H Q _ => ∃ (a : Addr) (ns : List Int) (n m : Int), vs = [.ref a, .int n, .int m] ∧ SqL K H a (ns.map V.int) ∧ 0 ≤ n ∧ 1 ≤ m ∧ m ≤ 100 ∧
  ∀ v H' x y, Ex H H' → Pr K H' v x y → 1 ≤ x → x ≤ m → 1 ≤ y → y ≤ m → Q v H'
theorem ok__law_small_by (F : Df K mg "_law_small_by" s__law_small_by) (T : Txt K mg) (c__law_cell_at : Cl P w K mg base 1 "_law_cell_at" (sp__law_cell_at K)) : Cl P w K mg base 2 "_law_small_by" (sp__law_small_by K) := by
  refine cl_of (N := ["script", "at", "most", "one", "other"]) (ps := ["script", "at", "most"]) F (fun _ _ _ _ _ _ us hl => match us, hl with | [_, _, _], _ => rfl) sc__law_small_by (fun vs H Q E h => by obtain ⟨_, _, _, _, rfl, _⟩ := h; rfl) (fun f cdv A outer s H vs Q E hr h => ⟨_, (pss_cons (ps_set (i := 3) sc__law_small_by.nd rfl (.inl rfl) (pe_op op_add pe_int (pe_op op_mod (pe_cl c__law_cell_at hr (by decide) (by rfl) (pa_cons (pv 0) (pa_cons (pv 1) pa_nil))) (pv 2))))
    (pss_cons (ps_set (i := 4) sc__law_small_by.nd rfl (.inl rfl) (pe_op op_add pe_int (pe_op op_mod (pe_cl c__law_cell_at hr (by decide) (by rfl) (pa_cons (pv 0) (pa_cons (pe_op op_add (pv 1) pe_int) pa_nil))) (pv 2))))
    (pss_one (ps_ret (pe_tup (pa_cons (pv 3) (pa_cons (pv 4) pa_nil))))))), ?_⟩)
  obtain ⟨a, ns, n, m, rfl, hs, hn, hm, hm2, q⟩ := h
  rw [show start ["script", "at", "most", "one", "other"] [.ref a, .int n, .int m] = [some (.ref a), some (.int n), some (.int m), none, none] from rfl]
  walk_at "go"
  have r0 := Int.emod_nonneg (cellL ns n.toNat) (show m ≠ 0 by omega)
  have r1 := Int.emod_lt_of_pos (cellL ns n.toNat) (show 0 < m by omega)
  have r2 := Int.emod_nonneg (cellL ns (n + 1).toNat) (show m ≠ 0 by omega)
  have r3 := Int.emod_lt_of_pos (cellL ns (n + 1).toNat) (show 0 < m by omega)
  exact q _ _ _ _ (by walk_at "ex") (by walk_at "pr") (by omega) (by omega) (by omega) (by omega)
theorem u_small_by {H : Hp} {Q : VK} {E : XK} {a : Addr} {ns : List Int} {n m : Int} (hs : SqL K H a (ns.map V.int)) (hn : 0 ≤ n) (hm : 1 ≤ m) (hm2 : m ≤ 100) (q : ∀ v H' x y, Ex H H' → Pr K H' v x y → 1 ≤ x → x ≤ m → 1 ≤ y → y ≤ m → Q v H') :
    sp__law_small_by K [.ref a, .int n, .int m] H Q E := ⟨a, ns, n, m, rfl, hs, hn, hm, hm2, q⟩
local macro_rules | `(tactic| walk_at "spcall") => `(tactic| ((with_reducible apply u_small_by); (· walk_at "sl"); (· omega); (· omega); (· omega); intro _ _ _ _ _ _ _ _ _ _))

/-! ### shortest -/
def sp_shortest (K : PySem.W.Frag) : Sp := fun vs H Q _ => ∃ v x y, vs = [v] ∧ Pr K H v x y ∧ Gd x ∧ Gd y ∧ RetV (.int (if x = y then 0 else ((qs x y).length : Int))) H Q
theorem ok_shortest (F : Df K mg "shortest" s_shortest) (T : Txt K mg) (c_quotients : Cl P w K mg base 2 "quotients" (sp_quotients K)) : Cl P w K mg base 3 "shortest" (sp_shortest K) := by
  refine cl_of (N := ["pair", "found"]) (ps := ["pair"]) F (fun _ _ _ _ _ _ us hl => match us, hl with | [_], _ => rfl) sc_shortest (fun vs H Q E h => by obtain ⟨_, _, _, rfl, _⟩ := h; rfl) (fun f cdv A outer s H vs Q E hr h => ⟨_, (pss_cons (ps_set (i := 1) sc_shortest.nd rfl (.inl rfl) (pe_cl c_quotients hr (by decide) (by rfl) (pa_cons (pv 0) pa_nil)))
    (pss_cons (ps_if (pt_cmpR op_eq (pe_ix ix_tup (pv 0) pe_int (fun _ _ => rfl)) (pe_ix ix_tup (pv 0) pe_int (fun _ _ => rfl)) (nomark _)) (pss_one (ps_ret pe_int)) pss_nil)
    (pss_one (ps_ret (pe_callB call_lenL (by rfl) T.b_len (by decide +kernel) (pa_cons (pv 1) pa_nil)))))), ?_⟩)
  obtain ⟨v, x, y, rfl, hp, hx, hy, q⟩ := h
  rw [show start ["pair", "found"] [v] = [some (v), none] from rfl]
  walk_at "go"
  walk_at "if"
  · intro hb H1 e1
    rw [if_pos (of_decide_eq_true hb)] at q
    walk_at "go"
    exact q _ (by walk_at "ex")
  · intro hb H1 e1
    rw [if_neg (of_decide_eq_false hb)] at q
    walk_at "go"
    rw [List.length_map]
    exact q _ (by walk_at "ex")
theorem u_shortest {H : Hp} {Q : VK} {E : XK} {v : V} {x y : Int} (hp : Pr K H v x y) (hx : Gd x) (hy : Gd y) (q : ∀ H2, Ex H H2 → Q (.int (if x = y then 0 else ((qs x y).length : Int))) H2) : sp_shortest K [v] H Q E := ⟨v, x, y, rfl, hp, hx, hy, q⟩
local macro_rules | `(tactic| walk_at "spcall") => `(tactic| ((with_reducible apply u_shortest); (· walk_at "pr"); (· walk_at "gd"); (· walk_at "gd"); intro _ _))

/-! ### longest -/
def sp_longest (K : PySem.W.Frag) : Sp := fun vs H Q _ => ∃ v x y, vs = [v] ∧ Pr K H v x y ∧ Gd x ∧ Gd y ∧ RetV (.int ((qs x y).sum - 1)) H Q
theorem ok_longest (F : Df K mg "longest" s_longest) (T : Txt K mg) (c_quotients : Cl P w K mg base 2 "quotients" (sp_quotients K)) : Cl P w K mg base 3 "longest" (sp_longest K) := by
  refine cl_of (N := ["pair"]) (ps := ["pair"]) F (fun _ _ _ _ _ _ us hl => match us, hl with | [_], _ => rfl) sc_longest (fun vs H Q E h => by obtain ⟨_, _, _, rfl, _⟩ := h; rfl) (fun f cdv A outer s H vs Q E hr h => ⟨_, (pss_one (ps_ret (pe_op op_sub (pe_callB (cr_sum rfl) (by rfl) T.b_sum (by decide +kernel) (pa_cons (pe_cl c_quotients hr (by decide) (by rfl) (pa_cons (pv 0) pa_nil)) pa_nil)) pe_int))), ?_⟩)
  obtain ⟨v, x, y, rfl, hp, hx, hy, q⟩ := h
  rw [show start ["pair"] [v] = [some (v)] from rfl]
  walk_at "go"
  exact q _ (by walk_at "ex")
theorem u_longest {H : Hp} {Q : VK} {E : XK} {v : V} {x y : Int} (hp : Pr K H v x y) (hx : Gd x) (hy : Gd y) (q : ∀ H2, Ex H H2 → Q (.int ((qs x y).sum - 1)) H2) : sp_longest K [v] H Q E := ⟨v, x, y, rfl, hp, hx, hy, q⟩
local macro_rules | `(tactic| walk_at "spcall") => `(tactic| ((with_reducible apply u_longest); (· walk_at "pr"); (· walk_at "gd"); (· walk_at "gd"); intro _ _))

/-! ### _law_played -/
/-! ### plays: what a move does to the quotients -/
def sh (x y : Int) : Int := if x = y then 0 else ((qs x y).length : Int)
def lo (x y : Int) : Int := (qs x y).sum - 1
theorem qs_big {s r k : Int} (hs : 0 < s) (hr : 0 ≤ r) (hr2 : r < s) (hk : 1 ≤ k) : qs (k * s + r) s = k :: eu s r := by
  have g1 : s ≤ k * s := by
    have := Int.mul_le_mul_of_nonneg_right hk (Int.le_of_lt hs)
    omega
  have h0 : 0 ≤ k * s + r := by omega
  unfold qs
  rw [show max (k * s + r) s = k * s + r by omega, show min (k * s + r) s = s by omega, eu_step h0 hs]
  rw [Int.add_comm (k * s) r, Int.add_mul_ediv_right _ _ (by omega), Int.ediv_eq_zero_of_lt hr hr2, Int.add_mul_emod_self_right, Int.emod_eq_of_lt hr hr2, Int.zero_add]
theorem qs_less {s r : Int} (h : r < s) : qs r s = eu s r := by
  unfold qs
  rw [show max r s = s by omega, show min r s = r by omega]
/-- one move: the pair behind it by quotient and rest -/
theorem move_form {x y t : Int} (hx : 1 ≤ x) (hy : 1 ≤ y) (h1 : 1 ≤ t) (h2 : t ≤ mvs x y) : ∃ s r q, 0 < s ∧ 0 ≤ r ∧ r < s ∧ t ≤ q - (if r = 0 then 1 else 0) ∧ mvs x y = q - (if r = 0 then 1 else 0) ∧ qs x y = q :: eu s r ∧
    (((bh x y t).1 = (q - t) * s + r ∧ (bh x y t).2 = s) ∨ ((bh x y t).1 = s ∧ (bh x y t).2 = (q - t) * s + r)) ∧ (max x y = q * s + r) ∧ x ≠ y := by
  have hs : 0 < min x y := by omega
  have e1 := Int.emod_add_mul_ediv (max x y) (min x y)
  have e2 := Int.emod_nonneg (max x y) (by omega : min x y ≠ 0)
  have e3 := Int.emod_lt_of_pos (max x y) hs
  have hmv : mvs x y = max x y / min x y - (if max x y % min x y = 0 then 1 else 0) := by
    unfold mvs
    generalize hM : max x y = M at *
    generalize hm : min x y = m at *
    generalize M / m = q at *
    by_cases c : M % m = 0
    · rw [if_pos c]
      rw [c] at e1
      have e : M - 1 = (m - 1) + m * (q - 1) := by rw [Int.mul_sub]; omega
      rw [e, Int.add_mul_ediv_left _ _ (by omega), Int.ediv_eq_zero_of_lt (by omega) (by omega)]
      omega
    · rw [if_neg c]
      have e : M - 1 = (M % m - 1) + m * q := by omega
      rw [e, Int.add_mul_ediv_left _ _ (by omega), Int.ediv_eq_zero_of_lt (by omega) (by omega)]
      omega
  have e4 : max x y / min x y * min x y + max x y % min x y = max x y := by
    rw [Int.mul_comm]
    omega
  have e5 : (max x y / min x y - t) * min x y + max x y % min x y = max x y - t * min x y := by
    rw [Int.sub_mul]
    omega
  refine ⟨min x y, max x y % min x y, max x y / min x y, hs, e2, e3, by rw [← hmv]; exact h2, hmv, ?_, ?_, e4.symm, ?_⟩
  · unfold qs
    exact eu_step (by omega) hs
  · rw [e5]
    unfold bh
    by_cases c : y < x
    · rw [if_pos c, show max x y = x by omega, show min x y = y by omega]
      exact .inl ⟨rfl, rfl⟩
    · rw [if_neg c, show max x y = y by omega, show min x y = x by omega]
      exact .inr ⟨rfl, rfl⟩
  · rintro rfl
    have : mvs x x = 0 := by
      unfold mvs
      rw [show max x x = x by omega, show min x x = x by omega]
      exact Int.ediv_eq_zero_of_lt (by omega) (by omega)
    omega
theorem sum_cons' (a : Int) (l : List Int) : (a :: l).sum = a + l.sum := List.sum_cons
/-- what a move does to the two lengths -/
theorem play_step {x y t : Int} (hx : 1 ≤ x) (hy : 1 ≤ y) (h1 : 1 ≤ t) (h2 : t ≤ mvs x y) :
    lo (bh x y t).1 (bh x y t).2 = lo x y - t ∧ sh x y ≤ sh (bh x y t).1 (bh x y t).2 + 1 ∧ (t = mvs x y → sh x y = sh (bh x y t).1 (bh x y t).2 + 1) := by
  obtain ⟨s, r, q, hs, hr, hr2, ht, hm, hq, hb, hg, hne⟩ := move_form hx hy h1 h2
  have comm : qs (bh x y t).1 (bh x y t).2 = qs ((q - t) * s + r) s ∧ ((bh x y t).1 = (bh x y t).2 ↔ (q - t) * s + r = s) := by
    rcases hb with ⟨b1, b2⟩ | ⟨b1, b2⟩
    · rw [b1, b2]
      exact ⟨rfl, Iff.rfl⟩
    · rw [b1, b2]
      exact ⟨qs_comm _ _, eq_comm⟩
  have esh : sh (bh x y t).1 (bh x y t).2 = if (q - t) * s + r = s then 0 else ((qs ((q - t) * s + r) s).length : Int) := by
    unfold sh
    rw [comm.1]
    simp only [comm.2]
  have esx : sh x y = ((eu s r).length : Int) + 1 := by
    unfold sh
    rw [if_neg hne, hq]
    rfl
  have elo : lo x y = q + (eu s r).sum - 1 := by
    unfold lo
    rw [hq, sum_cons']
  rw [esh, esx, elo, hm]
  unfold lo
  rw [comm.1]
  by_cases k0 : q - t = 0
  · have r0 : r ≠ 0 := fun z => by rw [if_pos z] at ht; omega
    rw [k0, Int.zero_mul, Int.zero_add, qs_less hr2, if_neg (show ¬ r = s by omega)]
    refine ⟨by omega, by omega, fun _ => rfl⟩
  · have k1 : 1 ≤ q - t := by split at ht <;> omega
    rw [qs_big hs hr hr2 k1]
    refine ⟨by rw [sum_cons']; omega, ?_, fun z => ?_⟩
    · by_cases c : (q - t) * s + r = s
      · rw [if_pos c]
        have : r = 0 := by
          have := Int.mul_le_mul_of_nonneg_right k1 (Int.le_of_lt hs)
          omega
        rw [this, eu_zero (Int.le_refl 0)]
        simp
      · rw [if_neg c, List.length_cons]
        omega
    · have r0 : r = 0 := by
        by_cases c : r = 0
        · exact c
        · rw [if_neg c] at z
          omega
      rw [if_pos r0] at z
      have kk : q - t = 1 := by omega
      rw [kk, r0, Int.one_mul, Int.add_zero, if_pos rfl, eu_zero (Int.le_refl 0)]
      rfl
theorem gcd_step {x y t : Int} (hx : 1 ≤ x) (hy : 1 ≤ y) (h1 : 1 ≤ t) (g1 : 1 ≤ (bh x y t).1) (g2 : 1 ≤ (bh x y t).2) : Nat.gcd (bh x y t).1.toNat (bh x y t).2.toNat = Nat.gcd x.toNat y.toNat := by
  unfold bh at *
  by_cases c : y < x
  · rw [if_pos c] at *
    have g1 : 1 ≤ x - t * y := g1
    show Nat.gcd (x - t * y).toNat y.toNat = _
    have e : x.toNat = (x - t * y).toNat + t.toNat * y.toNat := by
      have : ((t.toNat * y.toNat : Nat) : Int) = t * y := by rw [Int.natCast_mul, Int.toNat_of_nonneg (by omega), Int.toNat_of_nonneg (by omega)]
      omega
    rw [e, Nat.gcd_add_mul_right_left]
  · rw [if_neg c] at *
    have g2 : 1 ≤ y - t * x := g2
    show Nat.gcd x.toNat (y - t * x).toNat = _
    have e : y.toNat = (y - t * x).toNat + t.toNat * x.toNat := by
      have : ((t.toNat * x.toNat : Nat) : Int) = t * x := by rw [Int.natCast_mul, Int.toNat_of_nonneg (by omega), Int.toNat_of_nonneg (by omega)]
      omega
    rw [e, Nat.gcd_comm, Nat.gcd_comm x.toNat, Nat.gcd_add_mul_right_left]
/-- where there is no move -/
theorem mvs_end {x y : Int} (hx : 1 ≤ x) (hy : 1 ≤ y) (h : ¬ 0 < mvs x y) : x = y := by
  unfold mvs at h
  have : (max x y - 1) / min x y < 1 := by omega
  rw [Int.ediv_lt_iff_lt_mul (by omega)] at this
  omega
theorem lo_end {x : Int} (hx : 1 ≤ x) : lo x x = 0 ∧ sh x x = 0 := by
  refine ⟨?_, if_pos rfl⟩
  unfold lo qs
  rw [show max x x = x by omega, show min x x = x by omega, eu_step (by omega) (by omega), Int.ediv_self (by omega), Int.emod_self, eu_zero (Int.le_refl 0)]
  rfl

def sp__law_played (K : PySem.W.Frag) : Sp := fun vs H Q _ => ∃ (a : Addr) (ns : List Int) (v : V) (x y kind : Int), vs = [.ref a, v, .int kind] ∧ SqL K H a (ns.map V.int) ∧ Pr K H v x y ∧ Gd x ∧ Gd y ∧ 0 ≤ kind ∧ kind < 3 ∧
  ∀ p H' d w g, Ex H H' → SqT K H' p [.int d, w] → Pr K H' w g g → 1 ≤ g → Nat.gcd g.toNat g.toNat = Nat.gcd x.toNat y.toNat → sh x y ≤ d → d ≤ lo x y → (kind = 0 → d = sh x y) → (kind = 1 → d = lo x y) → Q (.ref p) H'
theorem ok__law_played (F : Df K mg "_law_played" s__law_played) (T : Txt K mg) (c_moves : Cl P w K mg base 2 "moves" (sp_moves K)) (c_taken : Cl P w K mg base 2 "taken" (sp_taken K)) (c__law_cell_at : Cl P w K mg base 1 "_law_cell_at" (sp__law_cell_at K)) : Cl P w K mg base 3 "_law_played" (sp__law_played K) := by
  refine cl_of (N := ["script", "pair", "kind", "done", "many", "times"]) (ps := ["script", "pair", "kind"]) F (fun _ _ _ _ _ _ us hl => match us, hl with | [_, _, _], _ => rfl) sc__law_played (fun vs H Q E h => by obtain ⟨_, _, _, _, _, _, rfl, _⟩ := h; rfl) (fun f cdv A outer s H vs Q E hr h => ⟨_, (pss_cons (ps_set (i := 3) sc__law_played.nd rfl (.inl rfl) pe_int)
    (pss_cons (ps_set (i := 4) sc__law_played.nd rfl (.inl rfl) (pe_cl c_moves hr (by decide) (by rfl) (pa_cons (pv 1) pa_nil)))
    (pss_cons (ps_while PassesOwn.never (pt_cmpR op_gt (pv 4) pe_int (nomark _)) (pss_cons (ps_set (i := 5) sc__law_played.nd rfl (.inl rfl) (pe_ix ix_list (pe_lst (pa_cons (pv 4) (pa_cons pe_int (pa_cons (pe_op op_add pe_int (pe_op op_mod (pe_cl c__law_cell_at hr (by decide) (by rfl) (pa_cons (pv 0) (pa_cons (pe_op op_add pe_int (pv 3)) pa_nil))) (pv 4))) pa_nil)))) (pv 2) (fun _ _ => rfl)))
    (pss_cons (ps_set (i := 1) sc__law_played.nd rfl (.inl rfl) (pe_cl c_taken hr (by decide) (by rfl) (pa_cons (pv 1) (pa_cons (pv 5) pa_nil))))
    (pss_cons (ps_set (i := 3) sc__law_played.nd rfl (.inl rfl) (pe_op op_add (pv 3) pe_int))
    (pss_one (ps_set (i := 4) sc__law_played.nd rfl (.inl rfl) (pe_cl c_moves hr (by decide) (by rfl) (pa_cons (pv 1) pa_nil))))))))
    (pss_one (ps_ret (pe_tup (pa_cons (pv 3) (pa_cons (pv 1) pa_nil)))))))), ?_⟩)
  obtain ⟨a, ns, v, x, y, kind, rfl, hs, hp, hx, hy, hk0, hk1, q⟩ := h
  rw [show start ["script", "pair", "kind", "done", "many", "times"] [.ref a, v, .int kind] = [some (.ref a), some (v), some (.int kind), none, none, none] from rfl]
  walk_at "go"
  rename_i H1 e1
  refine d_while (fun m σ' H' => ∃ v' x' y' d z, σ' = [some (.ref a), some v', some (.int kind), some (.int d), some (.int (mvs x' y')), z] ∧ Pr K H' v' x' y' ∧ Gd x' ∧ Gd y' ∧ 0 ≤ d ∧ Nat.gcd x'.toNat y'.toNat = Nat.gcd x.toNat y.toNat ∧ sh x y ≤ d + sh x' y' ∧ d + lo x' y' ≤ lo x y ∧
      (kind = 0 → d + sh x' y' = sh x y) ∧ (kind = 1 → d + lo x' y' = lo x y) ∧ m = (x' + y').toNat ∧ Ex H H') _
    ⟨v, x, y, 0, none, rfl, by walk_at "pr", hx, hy, by omega, rfl, by omega, by omega, fun _ => by omega, fun _ => by omega, rfl, by walk_at "ex"⟩ ?_
  rintro m σ' H' ⟨v', x', y', d, z, rfl, hp', hx', hy', hd, hg, i1, i2, i3, i4, rfl, e⟩
  refine ⟨decide (0 < mvs x' y'), by walk_at "et", fun hb1 H3 e3 => ?_, fun hb1 H3 e3 => ?_⟩
  · have hb1 := of_decide_eq_true hb1
    have r0 := Int.emod_nonneg (cellL ns (2 + d).toNat) (show mvs x' y' ≠ 0 by omega)
    have r1 := Int.emod_lt_of_pos (cellL ns (2 + d).toNat) hb1
    walk_at "go"
    rename_i H4 e4 p4 H5 hp4 e5 h5
    obtain ⟨t, hat, t1, t2, t3, t4⟩ : ∃ t, atI [V.int (mvs x' y'), V.int 1, V.int (1 + cellL ns (2 + d).toNat % mvs x' y')] kind = some (.int t) ∧ 1 ≤ t ∧ t ≤ mvs x' y' ∧ (kind = 0 → t = mvs x' y') ∧ (kind = 1 → t = 1) := by
      have hk : kind = 0 ∨ kind = 1 ∨ kind = 2 := by omega
      rcases hk with e | e | e <;> rw [e]
      · exact ⟨_, rfl, by omega, by omega, fun _ => rfl, fun z => absurd z (by decide)⟩
      · exact ⟨_, rfl, by omega, by omega, fun z => absurd z (by decide), fun _ => rfl⟩
      · exact ⟨_, rfl, by omega, by omega, fun z => absurd z (by decide), fun z => absurd z (by decide)⟩
    obtain ⟨s1, s2, s3⟩ := play_step hx'.1 hy'.1 t1 t2
    obtain ⟨b1, b2⟩ := bh_gd hx' hy' t1 t2
    have s4 := gcd_step hx'.1 hy'.1 t1 b1.1 b2.1
    refine d_ixL (by walk_at "sl") hat ?_
    walk_at "go"
    have dec : (bh x' y' t).1 + (bh x' y' t).2 < x' + y' := by
      unfold bh
      have := hx'.1
      have := hy'.1
      by_cases c : y' < x'
      · rw [if_pos c]
        have := Int.mul_le_mul_of_nonneg_right t1 (show 0 ≤ y' by omega)
        show x' - t * y' + y' < _
        omega
      · rw [if_neg c]
        have := Int.mul_le_mul_of_nonneg_right t1 (show 0 ≤ x' by omega)
        show x' + (y' - t * x') < _
        omega
    refine ⟨((bh x' y' t).1 + (bh x' y' t).2).toNat, by have := b1.1; have := b2.1; omega, _, _, _, _, _, rfl, by walk_at "pr", b1, b2, by omega, by rw [s4, hg], by omega, by omega, fun z => ?_, fun z => ?_, rfl, by walk_at "ex"⟩
    · have := s3 (t3 z)
      have := i3 z
      omega
    · have := t4 z
      have := i4 z
      omega
  · have hb1 := of_decide_eq_false hb1
    have exy := mvs_end hx'.1 hy'.1 (show ¬ 0 < mvs x' y' from hb1)
    subst exy
    obtain ⟨l0, s0⟩ := lo_end hx'.1
    rw [s0] at i1 i3
    rw [l0] at i2 i4
    walk_at "go"
    rename_i p2 H4 hp2 e4 h4
    exact q p2 H4 d v' x' (by walk_at "ex") (by walk_at "st") (by walk_at "pr") hx'.1 hg (by omega) (by omega) (fun z => by have := i3 z; omega) (fun z => by have := i4 z; omega)
theorem u_played {H : Hp} {Q : VK} {E : XK} {a : Addr} {ns : List Int} {v : V} {x y kind : Int} (hs : SqL K H a (ns.map V.int)) (hp : Pr K H v x y) (hx : Gd x) (hy : Gd y) (hk : 0 ≤ kind) (hk2 : kind < 3)
    (q : ∀ p H' d w g, Ex H H' → SqT K H' p [.int d, w] → Pr K H' w g g → 1 ≤ g → Nat.gcd g.toNat g.toNat = Nat.gcd x.toNat y.toNat → sh x y ≤ d → d ≤ lo x y → (kind = 0 → d = sh x y) → (kind = 1 → d = lo x y) → Q (.ref p) H') : sp__law_played K [.ref a, v, .int kind] H Q E :=
  ⟨a, ns, v, x, y, kind, rfl, hs, hp, hx, hy, hk, hk2, q⟩
local macro_rules | `(tactic| walk_at "spcall") => `(tactic| ((with_reducible apply u_played); (· walk_at "sl"); (· walk_at "pr"); (· walk_at "gd"); (· walk_at "gd"); (· omega); (· omega); intro _ _ _ _ _ _ _ _ _ _ _ _ _ _))

/-! ### law -/
def sp_law (K : PySem.W.Frag) : Sp := fun vs H Q _ => ∃ (a : Addr) (ns : List Int), vs = [.ref a] ∧ SqL K H a (ns.map V.int) ∧ ns.length ≤ 63 ∧ RetV (.bl true) H Q
theorem ok_law {fa : Addr} {fd : FuncData} (F : L2.Fun K "law" "law" s_law fa fd) (T : Txt K mg) (c_shortest : Cl P w K mg base 3 "shortest" (sp_shortest K)) (c_longest : Cl P w K mg base 3 "longest" (sp_longest K)) (c__law_small_by : Cl P w K mg base 2 "_law_small_by" (sp__law_small_by K)) (c__law_common : Cl P w K mg base 1 "_law_common" (sp__law_common K)) (c__law_played : Cl P w K mg base 3 "_law_played" (sp__law_played K)) : FnOk P w K mg base CX0 4 fa fd ["script"] (sp_law K) := by
  refine F.ok sc_law (fun vs H Q E h => by obtain ⟨_, _, rfl, _⟩ := h; rfl) (fun cdv A outer s H vs Q E hr h => ⟨_, (pss_cons (ps_set (i := 1) sc_law.nd rfl (.inl rfl) (pe_cl c__law_small_by hr (by decide) (by rfl) (pa_cons (pv 0) (pa_cons pe_int (pa_cons pe_int pa_nil)))))
    (pss_cons (ps_set (i := 2) sc_law.nd rfl (.inl rfl) (pe_cl c__law_common hr (by decide) (by rfl) (pa_cons (pe_ix ix_tup (pv 1) pe_int (fun _ _ => rfl)) (pa_cons (pe_ix ix_tup (pv 1) pe_int (fun _ _ => rfl)) pa_nil))))
    (pss_cons (ps_set (i := 3) sc_law.nd rfl (.inl rfl) (pe_cl c_shortest hr (by decide) (by rfl) (pa_cons (pv 1) pa_nil)))
    (pss_cons (ps_set (i := 4) sc_law.nd rfl (.inl rfl) (pe_cl c_longest hr (by decide) (by rfl) (pa_cons (pv 1) pa_nil)))
    (pss_cons (ps_for PassesOwn.never rfl (pi_range1 (by rfl) T.b_range (pa_cons pe_int pa_nil)) (pg_name (i := 5) sc_law.nd rfl (.inl rfl)) (pss_cons (ps_asg (pe_cl c__law_played hr (by decide) (by rfl) (pa_cons (pv 0) (pa_cons (pv 1) (pa_cons (pv 5) pa_nil)))) (pg_tup (n := 2) rfl (pgs_cons (pg_name (i := 6) sc_law.nd rfl (.inl rfl)) (pgs_cons (pg_name (i := 7) sc_law.nd rfl (.inl rfl)) pgs_nil))))
    (pss_cons (ps_if (PW.pt (pw_or (pt_cmpR (op_neD hr.units) (pv 7) (pe_tup (pa_cons (pv 2) (pa_cons (pv 2) pa_nil))) (nomark _)) (pw_or (pt_cmpR op_lt (pv 6) (pv 3) (nomark _)) (pw_or1 (pt_cmpR op_gt (pv 6) (pv 4) (nomark _)))))) (pss_one (ps_ret pe_bl)) pss_nil)
    (pss_one (ps_if (PW.pt (pw_or (PW.pt (pw_and (pt_cmpR op_eq (pv 5) pe_int (nomark _)) (pw_and1 (pt_cmpR op_ne (pv 6) (pv 3) (nomark _))))) (pw_or1 (PW.pt (pw_and (pt_cmpR op_eq (pv 5) pe_int (nomark _)) (pw_and1 (pt_cmpR op_ne (pv 6) (pv 4) (nomark _)))))))) (pss_one (ps_ret pe_bl)) pss_nil)))))
    (pss_one (ps_ret pe_bl))))))), ?_⟩)
  obtain ⟨a, ns, rfl, hs, hn, q⟩ := h
  rw [show start ["script", "pair", "common", "least", "most", "kind", "done", "left"] [.ref a] = [some (.ref a), none, none, none, none, none, none, none] from rfl]
  walk_at "go"
  rename_i v H1 x y e1 hp x1 x2 y1 y2 H2 e2 H3 e3 H4 e4
  have hx : Gd x := ⟨by omega, by omega⟩
  have hy : Gd y := ⟨by omega, by omega⟩
  refine d_for1 (n := 3) (by walk_at "ea") (by decide) (fun i σ' H' => ∃ z z2 z3, σ' = [some (.ref a), some v, some (.int ((Nat.gcd x.toNat y.toNat : Nat) : Int)), some (.int (if x = y then 0 else ((qs x y).length : Int))), some (.int ((qs x y).sum - 1)), z, z2, z3] ∧ Ex H4 H')
    (fun H2 e2 => ⟨_, _, _, rfl, e2⟩) ?_ ?_
  · rintro i σ' H5 hi ⟨z, z2, z3, rfl, e5⟩
    have e15 : Ex H1 H5 := by walk_at "ex"
    walk_at "nx"
    walk_at "go"
    rename_i p H6 d w g e6 ht hpw hg hgg hsh hlo hk0 hk1
    rw [Nat.gcd_self] at hgg
    have egg : ((Nat.gcd x.toNat y.toNat : Nat) : Int) = g := by rw [← hgg]; omega
    unfold sh at hsh hk0
    unfold lo at hlo hk1
    rw [egg]
    walk_at "if"
    · intro hb
      simp at hb
      omega
    · intro hb H7 e7
      walk_at "go"
      walk_at "if"
      · intro hb2
        simp at hb2
        omega
      · intro hb2 H8 e8
        exact ⟨_, _, _, rfl, by walk_at "ex"⟩
  · rintro σ' H5 ⟨z, z2, z3, rfl, e5⟩
    walk_at "go"
    exact q _ (by walk_at "ex")

end
end Tk
namespace Tk
open PySem PySem.Spec PyProof.Rows L2 Evl
theorem all_mk {P : Program} {w : World} {K : PySem.W.Frag} {h : Heap} {mg : Str → Option Value} {fa : Addr} (X : K.In h) (G : h.Ns mainGlobals mg) (hfa : mg "law" = some (.ref fa))
    {f0 : Addr} {od0 an0 : Option Addr} {sl0 : Array (Option Value)} {oc0 kV0 dc0 pm0 cd0 ct0 : Value}
    {f1 : Addr} {od1 an1 : Option Addr} {sl1 : Array (Option Value)} {oc1 kV1 dc1 pm1 cd1 ct1 : Value}
    {f2 : Addr} {od2 an2 : Option Addr} {sl2 : Array (Option Value)} {oc2 kV2 dc2 pm2 cd2 ct2 : Value}
    {f3 : Addr} {od3 an3 : Option Addr} {sl3 : Array (Option Value)} {oc3 kV3 dc3 pm3 cd3 ct3 : Value}
    {f4 : Addr} {od4 an4 : Option Addr} {sl4 : Array (Option Value)} {oc4 kV4 dc4 pm4 cd4 ct4 : Value}
    {f5 : Addr} {od5 an5 : Option Addr} {sl5 : Array (Option Value)} {oc5 kV5 dc5 pm5 cd5 ct5 : Value}
    {f6 : Addr} {od6 an6 : Option Addr} {sl6 : Array (Option Value)} {oc6 kV6 dc6 pm6 cd6 ct6 : Value}
    {f7 : Addr} {od7 an7 : Option Addr} {sl7 : Array (Option Value)} {oc7 kV7 dc7 pm7 cd7 ct7 : Value}
    {f8 : Addr} {od8 an8 : Option Addr} {sl8 : Array (Option Value)} {oc8 kV8 dc8 pm8 cd8 ct8 : Value}
    {f9 : Addr} {od9 an9 : Option Addr} {sl9 : Array (Option Value)} {oc9 kV9 dc9 pm9 cd9 ct9 : Value}
    {f10 : Addr} {od10 an10 : Option Addr} {sl10 : Array (Option Value)} {oc10 kV10 dc10 pm10 cd10 ct10 : Value}
    {f11 : Addr} {od11 an11 : Option Addr} {sl11 : Array (Option Value)} {oc11 kV11 dc11 pm11 cd11 ct11 : Value}
    {f12 : Addr} {od12 an12 : Option Addr} {sl12 : Array (Option Value)} {oc12 kV12 dc12 pm12 cd12 ct12 : Value}
    {f13 : Addr} {od13 an13 : Option Addr} {sl13 : Array (Option Value)} {oc13 kV13 dc13 pm13 cd13 ct13 : Value}
    {t_GREATEST : Tok}
    (a0 : PySem.W.nsIn K mainGlobals "asked_pair" = some (some (.ref f0)))
    (l0 : K.lookup f0 = some ⟨oc0, od0, .func (PySem.W.fnOf "asked_pair" "asked_pair" (defArgs s_asked_pair) (defBody s_asked_pair) (defScope s_asked_pair) .none kV0 dc0 pm0 an0 cd0 ct0), sl0⟩)
    (c0 : PySem.W.codeIn K cd0 "asked_pair" = true) (k0 : PySem.W.keepIn K (.ref f0) = true)
    (a1 : PySem.W.nsIn K mainGlobals "quotients_of" = some (some (.ref f1)))
    (l1 : K.lookup f1 = some ⟨oc1, od1, .func (PySem.W.fnOf "quotients_of" "quotients_of" (defArgs s_quotients_of) (defBody s_quotients_of) (defScope s_quotients_of) .none kV1 dc1 pm1 an1 cd1 ct1), sl1⟩)
    (c1 : PySem.W.codeIn K cd1 "quotients_of" = true) (k1 : PySem.W.keepIn K (.ref f1) = true)
    (a2 : PySem.W.nsIn K mainGlobals "moves_of" = some (some (.ref f2)))
    (l2 : K.lookup f2 = some ⟨oc2, od2, .func (PySem.W.fnOf "moves_of" "moves_of" (defArgs s_moves_of) (defBody s_moves_of) (defScope s_moves_of) .none kV2 dc2 pm2 an2 cd2 ct2), sl2⟩)
    (c2 : PySem.W.codeIn K cd2 "moves_of" = true) (k2 : PySem.W.keepIn K (.ref f2) = true)
    (a3 : PySem.W.nsIn K mainGlobals "behind" = some (some (.ref f3)))
    (l3 : K.lookup f3 = some ⟨oc3, od3, .func (PySem.W.fnOf "behind" "behind" (defArgs s_behind) (defBody s_behind) (defScope s_behind) .none kV3 dc3 pm3 an3 cd3 ct3), sl3⟩)
    (c3 : PySem.W.codeIn K cd3 "behind" = true) (k3 : PySem.W.keepIn K (.ref f3) = true)
    (a4 : PySem.W.nsIn K mainGlobals "_law_cell_at" = some (some (.ref f4)))
    (l4 : K.lookup f4 = some ⟨oc4, od4, .func (PySem.W.fnOf "_law_cell_at" "_law_cell_at" (defArgs s__law_cell_at) (defBody s__law_cell_at) (defScope s__law_cell_at) .none kV4 dc4 pm4 an4 cd4 ct4), sl4⟩)
    (c4 : PySem.W.codeIn K cd4 "_law_cell_at" = true) (k4 : PySem.W.keepIn K (.ref f4) = true)
    (a5 : PySem.W.nsIn K mainGlobals "_law_common" = some (some (.ref f5)))
    (l5 : K.lookup f5 = some ⟨oc5, od5, .func (PySem.W.fnOf "_law_common" "_law_common" (defArgs s__law_common) (defBody s__law_common) (defScope s__law_common) .none kV5 dc5 pm5 an5 cd5 ct5), sl5⟩)
    (c5 : PySem.W.codeIn K cd5 "_law_common" = true) (k5 : PySem.W.keepIn K (.ref f5) = true)
    (a6 : PySem.W.nsIn K mainGlobals "quotients" = some (some (.ref f6)))
    (l6 : K.lookup f6 = some ⟨oc6, od6, .func (PySem.W.fnOf "quotients" "quotients" (defArgs s_quotients) (defBody s_quotients) (defScope s_quotients) .none kV6 dc6 pm6 an6 cd6 ct6), sl6⟩)
    (c6 : PySem.W.codeIn K cd6 "quotients" = true) (k6 : PySem.W.keepIn K (.ref f6) = true)
    (a7 : PySem.W.nsIn K mainGlobals "moves" = some (some (.ref f7)))
    (l7 : K.lookup f7 = some ⟨oc7, od7, .func (PySem.W.fnOf "moves" "moves" (defArgs s_moves) (defBody s_moves) (defScope s_moves) .none kV7 dc7 pm7 an7 cd7 ct7), sl7⟩)
    (c7 : PySem.W.codeIn K cd7 "moves" = true) (k7 : PySem.W.keepIn K (.ref f7) = true)
    (a8 : PySem.W.nsIn K mainGlobals "taken" = some (some (.ref f8)))
    (l8 : K.lookup f8 = some ⟨oc8, od8, .func (PySem.W.fnOf "taken" "taken" (defArgs s_taken) (defBody s_taken) (defScope s_taken) .none kV8 dc8 pm8 an8 cd8 ct8), sl8⟩)
    (c8 : PySem.W.codeIn K cd8 "taken" = true) (k8 : PySem.W.keepIn K (.ref f8) = true)
    (a9 : PySem.W.nsIn K mainGlobals "_law_small_by" = some (some (.ref f9)))
    (l9 : K.lookup f9 = some ⟨oc9, od9, .func (PySem.W.fnOf "_law_small_by" "_law_small_by" (defArgs s__law_small_by) (defBody s__law_small_by) (defScope s__law_small_by) .none kV9 dc9 pm9 an9 cd9 ct9), sl9⟩)
    (c9 : PySem.W.codeIn K cd9 "_law_small_by" = true) (k9 : PySem.W.keepIn K (.ref f9) = true)
    (a10 : PySem.W.nsIn K mainGlobals "shortest" = some (some (.ref f10)))
    (l10 : K.lookup f10 = some ⟨oc10, od10, .func (PySem.W.fnOf "shortest" "shortest" (defArgs s_shortest) (defBody s_shortest) (defScope s_shortest) .none kV10 dc10 pm10 an10 cd10 ct10), sl10⟩)
    (c10 : PySem.W.codeIn K cd10 "shortest" = true) (k10 : PySem.W.keepIn K (.ref f10) = true)
    (a11 : PySem.W.nsIn K mainGlobals "longest" = some (some (.ref f11)))
    (l11 : K.lookup f11 = some ⟨oc11, od11, .func (PySem.W.fnOf "longest" "longest" (defArgs s_longest) (defBody s_longest) (defScope s_longest) .none kV11 dc11 pm11 an11 cd11 ct11), sl11⟩)
    (c11 : PySem.W.codeIn K cd11 "longest" = true) (k11 : PySem.W.keepIn K (.ref f11) = true)
    (a12 : PySem.W.nsIn K mainGlobals "_law_played" = some (some (.ref f12)))
    (l12 : K.lookup f12 = some ⟨oc12, od12, .func (PySem.W.fnOf "_law_played" "_law_played" (defArgs s__law_played) (defBody s__law_played) (defScope s__law_played) .none kV12 dc12 pm12 an12 cd12 ct12), sl12⟩)
    (c12 : PySem.W.codeIn K cd12 "_law_played" = true) (k12 : PySem.W.keepIn K (.ref f12) = true)
    (a13 : PySem.W.nsIn K mainGlobals "law" = some (some (.ref f13)))
    (l13 : K.lookup f13 = some ⟨oc13, od13, .func (PySem.W.fnOf "law" "law" (defArgs s_law) (defBody s_law) (defScope s_law) .none kV13 dc13 pm13 an13 cd13 ct13), sl13⟩)
    (c13 : PySem.W.codeIn K cd13 "law" = true) (k13 : PySem.W.keepIn K (.ref f13) = true)
    (z_len : PySem.W.nsIn K mainGlobals "len" = some none)
    (z_max : PySem.W.nsIn K mainGlobals "max" = some none)
    (z_min : PySem.W.nsIn K mainGlobals "min" = some none)
    (z_range : PySem.W.nsIn K mainGlobals "range" = some none)
    (z_sum : PySem.W.nsIn K mainGlobals "sum" = some none)
    (g_GREATEST : PySem.W.nsIn K mainGlobals "GREATEST" = some (some (.int 1000000000000000000000000000000 t_GREATEST))) :
    ∃ fd : FuncData, (∀ (s : Shared) (u : Value), BindsTo s fd ⟨[u], []⟩ [("script", u)]) ∧ ∀ base : Heap, K.In base → base.Ns mainGlobals mg → FnOk P w K mg base CX0 4 fa fd ["script"] (sp_law K) := by
  have e := hfa.symm.trans (PySem.W.mg_of X G a13)
  cases e
  have T : Txt K mg := ⟨PySem.W.mg_none_of X G z_len, PySem.W.mg_none_of X G z_max, PySem.W.mg_none_of X G z_min, PySem.W.mg_none_of X G z_range, PySem.W.mg_none_of X G z_sum, ⟨_, PySem.W.mg_of X G g_GREATEST, ⟨_, rfl⟩⟩⟩
  have F0 : Df K mg "asked_pair" s_asked_pair := ⟨_, _, fun_mk (st := s_asked_pair) l0 c0 k0, PySem.W.mg_of X G a0⟩
  have F1 : Df K mg "quotients_of" s_quotients_of := ⟨_, _, fun_mk (st := s_quotients_of) l1 c1 k1, PySem.W.mg_of X G a1⟩
  have F2 : Df K mg "moves_of" s_moves_of := ⟨_, _, fun_mk (st := s_moves_of) l2 c2 k2, PySem.W.mg_of X G a2⟩
  have F3 : Df K mg "behind" s_behind := ⟨_, _, fun_mk (st := s_behind) l3 c3 k3, PySem.W.mg_of X G a3⟩
  have F4 : Df K mg "_law_cell_at" s__law_cell_at := ⟨_, _, fun_mk (st := s__law_cell_at) l4 c4 k4, PySem.W.mg_of X G a4⟩
  have F5 : Df K mg "_law_common" s__law_common := ⟨_, _, fun_mk (st := s__law_common) l5 c5 k5, PySem.W.mg_of X G a5⟩
  have F6 : Df K mg "quotients" s_quotients := ⟨_, _, fun_mk (st := s_quotients) l6 c6 k6, PySem.W.mg_of X G a6⟩
  have F7 : Df K mg "moves" s_moves := ⟨_, _, fun_mk (st := s_moves) l7 c7 k7, PySem.W.mg_of X G a7⟩
  have F8 : Df K mg "taken" s_taken := ⟨_, _, fun_mk (st := s_taken) l8 c8 k8, PySem.W.mg_of X G a8⟩
  have F9 : Df K mg "_law_small_by" s__law_small_by := ⟨_, _, fun_mk (st := s__law_small_by) l9 c9 k9, PySem.W.mg_of X G a9⟩
  have F10 : Df K mg "shortest" s_shortest := ⟨_, _, fun_mk (st := s_shortest) l10 c10 k10, PySem.W.mg_of X G a10⟩
  have F11 : Df K mg "longest" s_longest := ⟨_, _, fun_mk (st := s_longest) l11 c11 k11, PySem.W.mg_of X G a11⟩
  have F12 : Df K mg "_law_played" s__law_played := ⟨_, _, fun_mk (st := s__law_played) l12 c12 k12, PySem.W.mg_of X G a12⟩
  have FL := fun_mk (st := s_law) l13 c13 k13
  refine ⟨PySem.W.fnOf "law" "law" (defArgs s_law) (defBody s_law) (defScope s_law) .none kV13 dc13 pm13 an13 cd13 ct13, fun s u => .of_eq rfl, fun base _ _ => ?_⟩
  have c_asked_pair : Cl P w K mg base 1 "asked_pair" (sp_asked_pair K) := ok_asked_pair F0 T 
  have c_quotients_of : Cl P w K mg base 1 "quotients_of" (sp_quotients_of K) := ok_quotients_of F1 T 
  have c_moves_of : Cl P w K mg base 1 "moves_of" (sp_moves_of K) := ok_moves_of F2 T 
  have c_behind : Cl P w K mg base 1 "behind" (sp_behind K) := ok_behind F3 T 
  have c__law_cell_at : Cl P w K mg base 1 "_law_cell_at" (sp__law_cell_at K) := ok__law_cell_at F4 T 
  have c__law_common : Cl P w K mg base 1 "_law_common" (sp__law_common K) := ok__law_common F5 T 
  have c_quotients : Cl P w K mg base 2 "quotients" (sp_quotients K) := ok_quotients F6 T c_asked_pair c_quotients_of
  have c_moves : Cl P w K mg base 2 "moves" (sp_moves K) := ok_moves F7 T c_asked_pair c_moves_of
  have c_taken : Cl P w K mg base 2 "taken" (sp_taken K) := ok_taken F8 T c_asked_pair c_moves_of c_behind
  have c__law_small_by : Cl P w K mg base 2 "_law_small_by" (sp__law_small_by K) := ok__law_small_by F9 T c__law_cell_at
  have c_shortest : Cl P w K mg base 3 "shortest" (sp_shortest K) := ok_shortest F10 T c_quotients
  have c_longest : Cl P w K mg base 3 "longest" (sp_longest K) := ok_longest F11 T c_quotients
  have c__law_played : Cl P w K mg base 3 "_law_played" (sp__law_played K) := ok__law_played F12 T c_moves c_taken c__law_cell_at
  exact ok_law FL T c_shortest c_longest c__law_small_by c__law_common c__law_played
end Tk
open PySem PySem.W PyProof.Rows
set_option maxRecDepth 100000 in
set_option maxHeartbeats 8000000 in
theorem PySem.Challenge.cw_takepairs_k12_whole_plays_between_holds : PySem.Challenge.rw_takepairs_k12_whole_plays_between.Holds := by
  w_on; o_law; k_head; (case hw => w_witness2)
  k_fill
  refine L2.walk_of (l := PySem.Challenge.rw_takepairs_k12_whole_plays_between) (n := 63) (k := 4) (x := "script") (CX := fun _ => L2.CX0) (sp := fun w => Tk.sp_law _) rfl (by decide) rfl ⟨rfl, by decide, by decide⟩ (fun w h Y => PySem.W.kIn_of Y) ?F (fun _ _ a ns hl _ hS => ⟨a, ns, rfl, hS, hl, fun _ _ => rfl⟩) (fun _ _ _ _ _ h => h)
  case F =>
    intro w mg fa h KX G hmg
    refine' Tk.all_mk KX G hmg ?a0 ?l0 ?c0 ?k0 ?a1 ?l1 ?c1 ?k1 ?a2 ?l2 ?c2 ?k2 ?a3 ?l3 ?c3 ?k3 ?a4 ?l4 ?c4 ?k4 ?a5 ?l5 ?c5 ?k5 ?a6 ?l6 ?c6 ?k6 ?a7 ?l7 ?c7 ?k7 ?a8 ?l8 ?c8 ?k8 ?a9 ?l9 ?c9 ?k9 ?a10 ?l10 ?c10 ?k10 ?a11 ?l11 ?c11 ?k11 ?a12 ?l12 ?c12 ?k12 ?a13 ?l13 ?c13 ?k13 ?z_len ?z_max ?z_min ?z_range ?z_sum ?g_GREATEST
    (case a0 => k_is)
    (case l0 => k_is)
    (case c0 => k_is)
    (case k0 => k_is)
    (case a1 => k_is)
    (case l1 => k_is)
    (case c1 => k_is)
    (case k1 => k_is)
    (case a2 => k_is)
    (case l2 => k_is)
    (case c2 => k_is)
    (case k2 => k_is)
    (case a3 => k_is)
    (case l3 => k_is)
    (case c3 => k_is)
    (case k3 => k_is)
    (case a4 => k_is)
    (case l4 => k_is)
    (case c4 => k_is)
    (case k4 => k_is)
    (case a5 => k_is)
    (case l5 => k_is)
    (case c5 => k_is)
    (case k5 => k_is)
    (case a6 => k_is)
    (case l6 => k_is)
    (case c6 => k_is)
    (case k6 => k_is)
    (case a7 => k_is)
    (case l7 => k_is)
    (case c7 => k_is)
    (case k7 => k_is)
    (case a8 => k_is)
    (case l8 => k_is)
    (case c8 => k_is)
    (case k8 => k_is)
    (case a9 => k_is)
    (case l9 => k_is)
    (case c9 => k_is)
    (case k9 => k_is)
    (case a10 => k_is)
    (case l10 => k_is)
    (case c10 => k_is)
    (case k10 => k_is)
    (case a11 => k_is)
    (case l11 => k_is)
    (case c11 => k_is)
    (case k11 => k_is)
    (case a12 => k_is)
    (case l12 => k_is)
    (case c12 => k_is)
    (case k12 => k_is)
    (case a13 => k_is)
    (case l13 => k_is)
    (case c13 => k_is)
    (case k13 => k_is)
    (case z_len => k_is)
    (case z_max => k_is)
    (case z_min => k_is)
    (case z_range => k_is)
    (case z_sum => k_is)
    (case g_GREATEST => k_is)
#print axioms PySem.Challenge.cw_takepairs_k12_whole_plays_between_holds
