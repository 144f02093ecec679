import PyProof.Rows.All
import Wide.All
import OpenK.AllK
import Wide.FinOn
import PyProof.StrOps2
import PyProof.ListStr
import HandS.ForMost
import HandS.Evl
import HandS.IsInst
import HandS.StrMore
import HandS.TupAny
import HandS.Conv
import HandS.Steps
import HandS.Walk
import PySem.Challenge.RW_borderrow_k01_words
set_option Elab.async false
set_option linter.all false
set_option maxRecDepth 100000
set_option maxHeartbeats 4000000

/-! Words over the hand layer: texts as lists of codes, what an expression gives (Rg), comprehensions over any source. -/
namespace BW
open PySem PySem.Spec PyProof.Rows L2 Evl

/-! ### texts as lists of codes -/
def S (l : List Nat) : Str := ⟨l.toArray⟩
theorem S_len (l : List Nat) : (S l).length = l.length := by simp [S, Str.length]
theorem S_cps (l : List Nat) : (S l).cps.toList = l := by simp [S]
theorem S_app (a b : List Nat) : S a ++ S b = S (a ++ b) :=
  congrArg Str.mk (show a.toArray ++ b.toArray = (a ++ b).toArray by simp)
theorem S_inj {a b : List Nat} (h : S a = S b) : a = b := by
  have h2 := congrArg (fun z : Str => z.cps.toList) h
  simpa [S] using h2
theorem S_eq (z : Str) : S z.cps.toList = z := by cases z; simp [S]
theorem dec_S (a b : List Nat) : decide (V.str (S a) = V.str (S b)) = decide (a = b) := by
  by_cases h : a = b
  · subst h; simp
  · rw [decide_eq_false h]
    exact decide_eq_false fun e => h (S_inj (V.str.inj e))
theorem sz {n : Nat} (h : n ≤ 1000000) : n ≤ sizeLine := Nat.le_trans h (by decide)
theorem szl {n : Nat} (h : n < 1000000) : n < sizeLine := Nat.lt_of_lt_of_le h (by decide)

/-! ### what gives a value, in any heap that extends H -/
def Rg (k : Hp → VK → Prop) (H : Hp) (P : V → Hp → Prop) : Prop := ∀ H1, Ex H H1 → ∀ Q : VK, (∀ v H2, Ex H1 H2 → P v H2 → Q v H2) → k H1 Q
section
variable {k : Hp → VK → Prop} {H H' : Hp} {P P' : V → Hp → Prop} {σ : L2.St} {te ta : TE} {v : V}
theorem Rg.go (h : Rg k H P) {Q : VK} (q : ∀ v H2, Ex H H2 → P v H2 → Q v H2) : k H Q := h H (Ex.refl H) Q q
theorem Rg.mono (e : Ex H H') (h : Rg k H P) : Rg k H' P := fun H1 a Q q => h H1 (e.trans a) Q q
theorem Rg.imp (h : Rg k H P) (i : ∀ v H2, Ex H H2 → P v H2 → P' v H2) : Rg k H P' := fun H1 a Q q => h H1 a Q fun v H2 e p => q v H2 e (i v H2 (a.trans e) p)
theorem Rg.of_ev (h : Ev te σ H v) : Rg (te σ) H (fun x _ => x = v) := fun H1 a Q q => h H1 a Q fun H2 e => q v H2 e rfl
theorem Rg.ev (h : Rg (te σ) H (fun x _ => x = v)) : Ev te σ H v := fun H1 a Q q => h H1 a Q fun x H2 e p => by
  cases p
  exact q H2 e
theorem Rg.bind {g : V → Hp → VK → Prop} (ha : Rg (ta σ) H P) (f : ∀ x H1, Ex H H1 → P x H1 → Rg (g x) H1 P') : Rg (fun H Q => ta σ H fun x H1 => g x H1 Q) H P' := fun H1 a Q q =>
  ha H1 a _ fun x H2 e p => f x H2 (a.trans e) p H2 (Ex.refl H2) Q fun v H3 e3 p3 => q v H3 (e.trans e3) p3
theorem Rg.bindE {g : V → Hp → VK → Prop} (ha : Ev ta σ H v) (f : ∀ H1, Ex H H1 → Rg (g v) H1 P') : Rg (fun H Q => ta σ H fun x H1 => g x H1 Q) H P' := fun H1 a Q q =>
  ha H1 a _ fun H2 e => f H2 (a.trans e) H2 (Ex.refl H2) Q fun v H3 e3 p3 => q v H3 (e.trans e3) p3
theorem Rg.val {z : V} (h : ∀ H1, Ex H H1 → ∀ Q : VK, Q z H1 → k H1 Q) : Rg k H (fun x _ => x = z) := fun H1 a Q q => h H1 a Q (q z H1 (Ex.refl H1) rfl)
end

/-! ### operators, by names -/
theorem imp {X : Cx} {f : Value → Value → Sem Value} {r r' : R2} (h : OpR X f r) (i : ∀ x y H Q, r' x y H Q → r x y H Q) : OpR X f r' :=
  fun pins s σ H x y v u Q I rx ry q => h pins s σ H x y v u Q I rx ry (i x y H Q q)
theorem impC {X : Cx} {f : Value} {r r' : List V → Hp → VK → Prop} (h : CallR X f r) (i : ∀ xs H Q, r' xs H Q → r xs H Q) : CallR X f r' :=
  fun pins s σ H xs us Q I rx q => h pins s σ H xs us Q I rx (i xs H Q q)
theorem impM {X : Cx} {id : String} {r r' : V → List V → Hp → VK → Prop} (h : MtR X id r) (i : ∀ x xs H Q, r' x xs H Q → r x xs H Q) : MtR X id r' :=
  fun pins s σ H x xs v us Q I rx rxs q => h pins s σ H x xs v us Q I rx rxs (i x xs H Q q)
def rAdd : R2 := rI0 fun i j => .int (i + j)
def rSub : R2 := rI0 fun i j => .int (i - j)
def rMul : R2 := rI CMul fun i j => .int (i * j)
def rDiv : R2 := rI CDiv fun i j => .int (i / j)
def rMod : R2 := rI (fun _ j => 0 < j) fun i j => .int (i % j)
def rLt : R2 := rI0 fun i j => .bl (decide (i < j))
def rLe : R2 := rI0 fun i j => .bl (decide (i ≤ j))
def rGt : R2 := rI0 fun i j => .bl (decide (j < i))
def rGe : R2 := rI0 fun i j => .bl (decide (j ≤ i))
def rCat : R2 := fun x y H Q => ∃ a b, x = .str (S a) ∧ y = .str (S b) ∧ a.length + b.length ≤ 1000000 ∧ Q (.str (S (a ++ b))) H
def rRep : R2 := fun x y H Q => ∃ (a : List Nat) (n : Nat), x = .str (S a) ∧ y = .int (n : Int) ∧ a.length * n ≤ 1000000 ∧ n ≤ 1000000 ∧ Q (.str (S (List.replicate n a).flatten)) H
section
variable {X : Cx}
theorem oAdd : OpR X (binaryOp .Add) rAdd := op_add
theorem oSub : OpR X (binaryOp .Sub) rSub := op_sub
theorem oMul : OpR X (binaryOp .Mult) rMul := op_mul
theorem oDiv : OpR X (binaryOp .FloorDiv) rDiv := op_fdiv
theorem oMod : OpR X (binaryOp .Mod) rMod := op_mod
theorem oLt : OpR X (compareOp .Lt) rLt := op_lt
theorem oLe : OpR X (compareOp .LtE) rLe := op_le
theorem oGt : OpR X (compareOp .Gt) rGt := op_gt
theorem oGe : OpR X (compareOp .GtE) rGe := op_ge
theorem oEq : OpR X (compareOp .Eq) rEq := op_eq
theorem oNe : OpR X (compareOp .NotEq) rNe := op_ne
theorem oCat : OpR X (binaryOp .Add) rCat := imp op_add_str fun x y H Q ⟨a, b, e1, e2, h, q⟩ => ⟨S a, S b, e1, e2, by rw [S_len, S_len]; exact sz h, by rw [S_app]; exact q⟩
theorem rep_cps (a : List Nat) : ∀ (n : Nat) (acc : Array Nat), (List.replicate n a.toArray).foldl (· ++ ·) acc = acc ++ (List.replicate n a).flatten.toArray
  | 0, acc => by simp
  | n + 1, acc => by
    rw [List.replicate_succ, List.foldl_cons, rep_cps a n, List.replicate_succ, List.flatten_cons]
    simp
theorem oRep : OpR X (binaryOp .Mult) rRep := by
  intro pins s σ H x y v u Q I rx ry h
  obtain ⟨a, n, rfl, rfl, h1, h2, q⟩ := h
  obtain ⟨t, rfl⟩ := rx
  obtain ⟨t', rfl⟩ := ry
  refine P.mul_str (by rw [decide_eq_false (by omega), decide_eq_false (by omega)]; rfl) (fun h0 _ => ?_) (fun h0 _ => ?_) ?_
  · rw [S_len]
    have h3 : (1000000 : Int) ≤ (2 ^ 63 - 1) / (n : Int) := (Int.le_ediv_iff_mul_le (by omega)).mpr (by omega)
    by_cases hl : a.length ≤ 1000000
    · omega
    · exfalso
      have h4 : a.length * 1 ≤ a.length * n := Nat.mul_le_mul_left _ (by omega)
      omega
  · rw [S_len, Int.toNat_natCast]
    unfold Builtin.Str.tooLong
    exact decide_eq_false (by have := sz h1; omega)
  · have e0 : (List.replicate 0 a).flatten = ([] : List Nat) := rfl
    split
    · have : n = 0 := by omega
      subst this
      exact ⟨by decide, ⟨.str (S (List.replicate 0 a).flatten), H, I.tok _, ⟨s.toks, rfl⟩, q⟩⟩
    · split
      · refine ⟨.str (S (List.replicate n a).flatten), H, I, ⟨t, ?_⟩, q⟩
        rename_i h5
        rw [S_len] at h5
        rcases (Bool.or_eq_true _ _).mp h5 with h6 | h6
        · have : n = 1 := by
            have := eq_of_beq h6
            omega
          subst this
          simp
        · have : a = [] := by
            have := eq_of_beq h6
            exact List.length_eq_zero_iff.mp this
          subst this
          simp
      · rw [Int.toNat_natCast, show (S a).cps = a.toArray from rfl, rep_cps a n #[]]
        refine ⟨?_, ⟨.str (S (List.replicate n a).flatten), H, I.tok _, ⟨s.toks, ?_⟩, q⟩⟩
        · have : (List.replicate n a).flatten.length = n * a.length := by simp
          have h8 := sz h1
          rw [Nat.mul_comm] at h8
          simp [Str.length]
          exact h8
        · simp [S]

theorem impI {r r' : R2} (h : IxR X r) (i : ∀ x y H Q, r' x y H Q → r x y H Q) : IxR X r' :=
  fun value slice pins s σ H x y v u Q I rx ry q => h value slice pins s σ H x y v u Q I rx ry (i x y H Q q)
theorem impS {r r' : V → Option Int → Option Int → Hp → VK → Prop} (h : SlR X r) (i : ∀ x lo hi H Q, r' x lo hi H Q → r x lo hi H Q) : SlR X r' :=
  fun pins s σ H x v vl vu lo hi sl Q I rx hs p1 p2 q => h pins s σ H x v vl vu lo hi sl Q I rx hs p1 p2 (i x lo hi H Q q)
def rIxC : R2 := fun x y H Q => ∃ (l : List Nat) (i : Nat) (c : Nat), x = .str (S l) ∧ y = .int (i : Int) ∧ l.length ≤ 1000000 ∧ l[i]? = some c ∧ Q (.str (S [c])) H
theorem iStrC : IxR X rIxC := impI ix_str fun x y H Q ⟨l, i, c, e1, e2, h, hc, q⟩ => ⟨S l, (i : Int), c, e1, e2, by rw [S_len]; exact sz h, by rw [S_cps]; exact atI_nat hc, q⟩
def cutL (l : List Nat) (lo hi : Option Int) : List Nat := (l.drop (HT.sIx l.length 0 lo)).take (HT.sIx l.length l.length hi - HT.sIx l.length 0 lo)
def rSlC : V → Option Int → Option Int → Hp → VK → Prop := fun x lo hi H Q => ∃ l, x = .str (S l) ∧ l.length ≤ 1000000 ∧ Q (.str (S (cutL l lo hi))) H
theorem slStr : SlR X rSlC := impS sl_str fun x lo hi H Q ⟨l, e1, h, q⟩ => ⟨S l, e1, by rw [S_len]; exact sz h, by
  have e : cutS (S l) lo hi = S (cutL l lo hi) := by unfold cutS cutL; rw [S_cps, S_len]; rfl
  rw [e]; exact q⟩
theorem cut_to (l : List Nat) (k : Nat) : cutL l none (some (k : Int)) = l.take k := by
  unfold cutL
  rw [HT.sIx_none, HT.sIx_nat, List.drop_zero, Nat.sub_zero]
  by_cases h : k ≤ l.length
  · rw [Nat.min_eq_left h]
  · rw [Nat.min_eq_right (by omega), List.take_of_length_le (Nat.le_refl _), List.take_of_length_le (by omega)]
theorem cut_from (l : List Nat) (k : Nat) : cutL l (some (k : Int)) none = l.drop k := by
  unfold cutL
  rw [HT.sIx_none, HT.sIx_nat]
  by_cases h : k ≤ l.length
  · rw [Nat.min_eq_left h, List.take_of_length_le (by rw [List.length_drop]; omega)]
  · rw [Nat.min_eq_right (by omega), List.drop_of_length_le (Nat.le_refl _), List.drop_of_length_le (by omega)]; simp
def rLenC : List V → Hp → VK → Prop := fun xs H Q => ∃ l, xs = [.str (S l)] ∧ l.length ≤ 1000000 ∧ Q (.int (l.length : Int)) H
theorem cLenC : CallR X (.builtin "len") rLenC := impC call_len_str fun xs H Q ⟨l, e, h, q⟩ => ⟨S l, e, by rw [S_len]; exact sz h, by rw [S_len]; exact q⟩
def rLenQ (K : PySem.W.Frag) : List V → Hp → VK → Prop := fun xs H Q => ∃ p ys, xs = [.ref p] ∧ (SqL K H p ys ∨ SqT K H p ys) ∧ Q (.int ys.length) H
theorem cLenQ : CallR X (.builtin "len") (rLenQ X.K) := call_len_seq
def rTupOf (K : PySem.W.Frag) : List V → Hp → VK → Prop := fun xs H Q => ∃ p ys, xs = [.ref p] ∧ SqL K H p ys ∧ ∀ l, H l = none → Q (.ref l) (upd H l (.tup ys))
theorem cTupOf : CallR X (.type "tuple") (rTupOf X.K) := impC call_tuple_of fun xs H Q ⟨p, ys, e, h, q⟩ => ⟨p, ys, e, .inl ⟨h, q⟩⟩
def rMaxL (K : PySem.W.Frag) : List V → Hp → VK → Prop := fun vs H Q => ∃ (a : Addr) (ns : List Int), vs = [V.ref a] ∧ SqL K H a (ns.map V.int) ∧ 0 < ns.length ∧ ∀ m, m ∈ ns → (∀ y, y ∈ ns → y ≤ m) → Q (.int m) H
theorem cMaxL (hc : X.calm = true) : CallR X (.builtin "max") (rMaxL X.K) := cr_max hc
def rMax2 : List V → Hp → VK → Prop := fun xs H Q => ∃ i j, xs = [.int i, .int j] ∧ Q (.int (max i j)) H
theorem cMax2 (hc : X.calm = true) : CallR X (.builtin "max") rMax2 := impC (call_max2 hc) fun xs H Q ⟨i, j, e, q⟩ => ⟨i, j, e, by
  have e2 : (if j > i then j else i) = max i j := by omega
  rw [e2]; exact q⟩
def rMin2 : List V → Hp → VK → Prop := fun xs H Q => ∃ i j, xs = [.int i, .int j] ∧ Q (.int (min i j)) H
theorem cMin2 (hc : X.calm = true) : CallR X (.builtin "min") rMin2 := impC (call_min2 hc) fun xs H Q ⟨i, j, e, q⟩ => ⟨i, j, e, by
  have e2 : (if j < i then j else i) = min i j := by omega
  rw [e2]; exact q⟩
end

/-! ### what evaluates to what: scalars -/
section
variable {K : PySem.W.Frag} {σ : L2.St} {H H' : Hp} {ta tb te tx : TE} {t u : TT} {x y z v : V} {i j : Int} {a b l : List Nat}
theorem ev_add (ha : Ev ta σ H (.int i)) (hb : Ev tb σ H (.int j)) : Ev (tOp rAdd ta tb) σ H (.int (i + j)) := ev_op ha hb rv_I0
theorem ev_sub (ha : Ev ta σ H (.int i)) (hb : Ev tb σ H (.int j)) : Ev (tOp rSub ta tb) σ H (.int (i - j)) := ev_op ha hb rv_I0
theorem ev_mul (ha : Ev ta σ H (.int i)) (hb : Ev tb σ H (.int j)) (h : CMul i j) : Ev (tOp rMul ta tb) σ H (.int (i * j)) := ev_op ha hb (rv_I h)
theorem ev_div (ha : Ev ta σ H (.int i)) (hb : Ev tb σ H (.int j)) (h : 0 < j ∧ j < 1073741824) : Ev (tOp rDiv ta tb) σ H (.int (i / j)) := ev_op ha hb (rv_I h)
theorem ev_mod (ha : Ev ta σ H (.int i)) (hb : Ev tb σ H (.int j)) (h : 0 < j) : Ev (tOp rMod ta tb) σ H (.int (i % j)) := ev_op ha hb (rv_I h)
theorem ev_lt (ha : Ev ta σ H (.int i)) (hb : Ev tb σ H (.int j)) : Ev (tOp rLt ta tb) σ H (.bl (decide (i < j))) := ev_op ha hb rv_I0
theorem ev_le (ha : Ev ta σ H (.int i)) (hb : Ev tb σ H (.int j)) : Ev (tOp rLe ta tb) σ H (.bl (decide (i ≤ j))) := ev_op ha hb rv_I0
theorem ev_gt (ha : Ev ta σ H (.int i)) (hb : Ev tb σ H (.int j)) : Ev (tOp rGt ta tb) σ H (.bl (decide (j < i))) := ev_op ha hb rv_I0
theorem ev_ge (ha : Ev ta σ H (.int i)) (hb : Ev tb σ H (.int j)) : Ev (tOp rGe ta tb) σ H (.bl (decide (j ≤ i))) := ev_op ha hb rv_I0
theorem dec_I (i j : Int) : decide (V.int i = V.int j) = decide (i = j) := by
  by_cases h : i = j
  · subst h; simp
  · rw [decide_eq_false h]
    exact decide_eq_false fun e => h (V.int.inj e)
theorem dec_B (i j : Bool) : decide (V.bl i = V.bl j) = (i == j) := by cases i <;> cases j <;> rfl
theorem ev_eqI (ha : Ev ta σ H (.int i)) (hb : Ev tb σ H (.int j)) : Ev (tOp rEq ta tb) σ H (.bl (decide (i = j))) := ev_is (ev_op ha hb (rv_eq rfl)) (by rw [dec_I])
theorem ev_neI (ha : Ev ta σ H (.int i)) (hb : Ev tb σ H (.int j)) : Ev (tOp rNe ta tb) σ H (.bl (!decide (i = j))) := ev_is (ev_op ha hb (rv_ne rfl)) (by rw [dec_I])
theorem ev_eqS (ha : Ev ta σ H (.str (S a))) (hb : Ev tb σ H (.str (S b))) : Ev (tOp rEq ta tb) σ H (.bl (decide (a = b))) := ev_is (ev_op ha hb (rv_eq rfl)) (by rw [dec_S])
theorem ev_neS (ha : Ev ta σ H (.str (S a))) (hb : Ev tb σ H (.str (S b))) : Ev (tOp rNe ta tb) σ H (.bl (!decide (a = b))) := ev_is (ev_op ha hb (rv_ne rfl)) (by rw [dec_S])
theorem ev_eqB {p q : Bool} (ha : Ev ta σ H (.bl p)) (hb : Ev tb σ H (.bl q)) : Ev (tOp rEq ta tb) σ H (.bl (p == q)) := ev_is (ev_op ha hb (rv_eq rfl)) (by rw [dec_B])
theorem ev_cat (ha : Ev ta σ H (.str (S a))) (hb : Ev tb σ H (.str (S b))) (h : a.length + b.length ≤ 1000000) : Ev (tOp rCat ta tb) σ H (.str (S (a ++ b))) :=
  ev_op ha hb (rv_val fun H1 _ Q q => ⟨a, b, rfl, rfl, h, q⟩)
theorem ev_rep {n : Nat} (ha : Ev ta σ H (.str (S a))) (hb : Ev tb σ H (.int (n : Int))) (h : a.length * n ≤ 1000000 ∧ n ≤ 1000000) : Ev (tOp rRep ta tb) σ H (.str (S (List.replicate n a).flatten)) :=
  ev_op ha hb (rv_val fun H1 _ Q q => ⟨a, n, rfl, rfl, h.1, h.2, q⟩)
theorem ev_cS {z : Str} (e : z = S l) : Ev (tC (.str z)) σ H (.str (S l)) := e ▸ ev_c
theorem ev_lenC (ha : Ev ta σ H (.str (S l))) (h : l.length ≤ 1000000) : Ev (tCB rLenC (tCons ta tNil)) σ H (.int (l.length : Int)) := fun H1 e Q q =>
  ha H1 e _ fun H2 e2 => ⟨l, rfl, h, q H2 e2⟩
theorem ev_lenL {p : Addr} {xs : List V} (ha : Ev ta σ H (.ref p)) (h : SqL K H p xs) : Ev (tCB (rLenQ K) (tCons ta tNil)) σ H (.int (xs.length : Int)) := fun H1 e Q q =>
  ha H1 e _ fun H2 e2 => ⟨p, xs, rfl, .inl (ex_l (e.trans e2) h), q H2 e2⟩
theorem ev_lenT {p : Addr} {xs : List V} (ha : Ev ta σ H (.ref p)) (h : SqT K H p xs) : Ev (tCB (rLenQ K) (tCons ta tNil)) σ H (.int (xs.length : Int)) := fun H1 e Q q =>
  ha H1 e _ fun H2 e2 => ⟨p, xs, rfl, .inr (ex_t (e.trans e2) h), q H2 e2⟩
theorem ev_ixC {n c : Nat} (ha : Ev ta σ H (.str (S l))) (hb : Ev tb σ H (.int (n : Int))) (h : l.length ≤ 1000000) (hc : l[n]? = some c) : Ev (tOp rIxC ta tb) σ H (.str (S [c])) :=
  ev_op ha hb (rv_val fun H1 _ Q q => ⟨l, n, c, rfl, rfl, h, hc, q⟩)
theorem ev_sl {tl th : TO} {lo hi : Option Int} (ha : Ev te σ H (.str (S l))) (h1 : EvO tl σ H lo) (h2 : EvO th σ H hi) (h : l.length ≤ 1000000) : Ev (tSl rSlC te tl th) σ H (.str (S (cutL l lo hi))) := fun H1 e Q q =>
  ha H1 e _ fun H2 e2 => h1 H2 (e.trans e2) _ fun H3 e3 => h2 H3 ((e.trans e2).trans e3) _ fun H4 e4 => ⟨l, rfl, h, q H4 ((e2.trans e3).trans e4)⟩
theorem ev_slTo {n : Nat} (ha : Ev te σ H (.str (S l))) (hb : Ev tb σ H (.int (n : Int))) (h : l.length ≤ 1000000) : Ev (tSl rSlC te tNoPart (tPart tb)) σ H (.str (S (l.take n))) :=
  ev_is (ev_sl ha eo_none (eo_some hb) h) (by rw [cut_to])
theorem ev_slFrom {n : Nat} (ha : Ev te σ H (.str (S l))) (hb : Ev tb σ H (.int (n : Int))) (h : l.length ≤ 1000000) : Ev (tSl rSlC te (tPart tb) tNoPart) σ H (.str (S (l.drop n))) :=
  ev_is (ev_sl ha (eo_some hb) eo_none h) (by rw [cut_from])
theorem ev_max2 (ha : Ev ta σ H (.int i)) (hb : Ev tb σ H (.int j)) : Ev (tCB BW.rMax2 (tCons ta (tCons tb tNil))) σ H (.int (max i j)) := fun H1 e Q q =>
  ha H1 e _ fun H2 e2 => hb H2 (e.trans e2) _ fun H3 e3 => ⟨i, j, rfl, q H3 (e2.trans e3)⟩
theorem ev_min2 (ha : Ev ta σ H (.int i)) (hb : Ev tb σ H (.int j)) : Ev (tCB BW.rMin2 (tCons ta (tCons tb tNil))) σ H (.int (min i j)) := fun H1 e Q q =>
  ha H1 e _ fun H2 e2 => hb H2 (e.trans e2) _ fun H3 e3 => ⟨i, j, rfl, q H3 (e2.trans e3)⟩
/-- a call whose promise gives P -/
def SpP (sp : Sp) (vs : List V) (H : Hp) (P : V → Hp → Prop) : Prop := ∀ H1, Ex H H1 → ∀ Q : VK, (∀ v H2, Ex H1 H2 → P v H2 → Q v H2) → ∀ E : XK, sp vs H1 Q E
theorem rg_call {sp : Sp} {dvs vs : List V} {E : XK} {tA : TA} {P : V → Hp → Prop} (h : EvA tA σ H vs) (hs : SpP sp (vs ++ dvs) H P) : Rg (tCall sp dvs E tA σ) H P := fun H1 e Q q =>
  h H1 e _ fun H2 e2 => hs H2 (e.trans e2) Q (fun v H3 e3 p => q v H3 (e2.trans e3) p) E
/-- a call of one argument that is made on the way -/
theorem rg_call1 {sp : Sp} {E : XK} {P P' : V → Hp → Prop} (h : Rg (ta σ) H P) (hs : ∀ x H1, Ex H H1 → P x H1 → SpP sp [x] H1 P') : Rg (tCall sp [] E (tCons ta tNil) σ) H P' := fun H1 e Q q =>
  h H1 e _ fun x H2 e2 p => hs x H2 (e.trans e2) p H2 (Ex.refl H2) Q (fun v H3 e3 p => q v H3 (e2.trans e3) p) E
theorem rg_cb1 {r : List V → Hp → VK → Prop} {P P' : V → Hp → Prop} (h : Rg (ta σ) H P) (hs : ∀ x H1, Ex H H1 → P x H1 → Rg (r [x]) H1 P') : Rg (tCB r (tCons ta tNil) σ) H P' := Rg.bind (g := fun x => r [x]) h hs
/-- tuple(a list) -/
theorem rg_tupOf {P : List V → Hp → Prop} (h : Rg (ta σ) H (fun v H2 => ∃ p ys, v = .ref p ∧ H2 p = some (.lst ys) ∧ P ys H2)) (hP : ∀ ys H1 H2, Ex H1 H2 → P ys H1 → P ys H2) :
    Rg (tCB (rTupOf K) (tCons ta tNil) σ) H (fun v H2 => ∃ p ys, v = .ref p ∧ SqT K H2 p ys ∧ P ys H2) := rg_cb1 h fun x H1 e p H2 e2 Q q => by
  obtain ⟨p, ys, rfl, h1, h2⟩ := p
  exact ⟨p, ys, rfl, sq_of (e2 p _ h1), fun l hl => q _ _ (Ex.new hl) ⟨l, ys, rfl, st_of upd_same, hP ys H1 _ (e2.trans (Ex.new hl)) h2⟩⟩
/-- max(a list) -/
theorem ev_maxL {ns : List Int} {m : Int} (h : Rg (ta σ) H (fun v H2 => ∃ p, v = .ref p ∧ H2 p = some (.lst (ns.map V.int)))) (hm : m ∈ ns) (hle : ∀ y ∈ ns, y ≤ m) : Ev (tCB (rMaxL K) (tCons ta tNil)) σ H (.int m) :=
  Rg.ev (rg_cb1 h fun x H1 e p H2 e2 Q q => by
    obtain ⟨p, rfl, h1⟩ := p
    refine ⟨p, ns, rfl, sq_of (e2 p _ h1), List.length_pos_iff.mpr (List.ne_nil_of_mem hm), fun m' hm' hle' => q _ H2 (Ex.refl H2) ?_⟩
    have h3 := hle m' hm'
    have h4 := hle' m hm
    rw [show m' = m by omega])
end

/-! ### comprehensions -/
/-- all but lists stand as they stood -/
def Kp (H H' : Hp) : Prop := ∀ a o, H a = some o → (∀ xs, o ≠ .lst xs) → H' a = some o
theorem Ex.kp {H H' : Hp} (e : Ex H H') : Kp H H' := fun a o h _ => e a o h
theorem Kp.trans {H H1 H2 : Hp} (a : Kp H H1) (b : Kp H1 H2) : Kp H H2 := fun x o h n => b x o (a x o h n) n
theorem Kp.upd {H : Hp} {p : Addr} {xs : List V} {o : HO} (h : H p = some (.lst xs)) : Kp H (upd H p o) := fun a u e n => by
  by_cases hp : a = p
  · subst hp
    rw [h] at e
    cases e
    exact absurd rfl (n xs)
  · rw [upd_ne hp]
    exact e
theorem Kp.t {K : PySem.W.Frag} {H H' : Hp} {a : Addr} {xs : List V} (k : Kp H H') (h : SqT K H a xs) : SqT K H' a xs := by
  rcases h with (h | ⟨o, h⟩) | h
  · exact .inl (.inl (k a _ h (fun _ e => nomatch e)))
  · exact .inl (.inr ⟨o, k a _ h (fun _ e => nomatch e)⟩)
  · exact .inr h
def Src (wi : TI) (σ : L2.St) (H : Hp) (xs : List V) : Prop :=
  ∀ H1, Ex H H1 → ∀ R : It → Hp → Prop, (∀ J H2, Ex H1 H2 → L2.Walk J xs.length (fun H3 => Ex H2 H3) (YAt xs) → R J H2) → wi σ H1 R
section
variable {K : PySem.W.Frag} {σ : L2.St} {H H' : Hp} {tl te : TE} {tt : TT}
theorem src_list {a : Addr} {xs : List V} (h : Ev tl σ H (.ref a)) (hq : SqL K H a xs) : Src (iList K tl) σ H xs := fun H1 e R r =>
  h H1 e _ fun H2 e2 => ⟨a, rfl, ⟨xs, ex_l (e.trans e2) hq⟩, r _ H2 e2 (walk_list.mono (fun H3 e3 => ex_l ((e.trans e2).trans e3) hq) fun _ _ _ _ _ _ y => y)⟩
theorem src_listN {xs : List V} (h : Rg (tl σ) H (fun v H2 => ∃ p, v = .ref p ∧ H2 p = some (.lst xs))) : Src (iList K tl) σ H xs := fun H1 e R r =>
  h H1 e _ fun v H2 e2 p => by
    obtain ⟨p, rfl, hp⟩ := p
    exact ⟨p, rfl, ⟨xs, sq_of hp⟩, r _ H2 e2 (walk_list.mono (fun H3 e3 => sq_of (e3 p _ hp)) fun _ _ _ _ _ _ y => y)⟩
theorem src_tup {a : Addr} {xs : List V} (h : Ev tl σ H (.ref a)) (hq : SqT K H a xs) : Src (iTup K tl) σ H xs := fun H1 e R r =>
  h H1 e _ fun H2 e2 => ⟨a, rfl, ⟨xs, ex_t (e.trans e2) hq⟩, r _ H2 e2 (walk_tup.mono (fun H3 e3 => ex_t ((e.trans e2).trans e3) hq) fun _ _ _ _ _ _ y => y)⟩
theorem src_tupN {xs : List V} (h : Rg (tl σ) H (fun v H2 => ∃ p, v = .ref p ∧ SqT K H2 p xs)) : Src (iTup K tl) σ H xs := fun H1 e R r =>
  h H1 e _ fun v H2 e2 p => by
    obtain ⟨p, rfl, hp⟩ := p
    exact ⟨p, rfl, ⟨xs, hp⟩, r _ H2 e2 (walk_tup.mono (fun H3 e3 => ex_t e3 hp) fun _ _ _ _ _ _ y => y)⟩
theorem walkI {J : It} {n : Nat} {G G' : Hp → Prop} {f : Nat → V} {xs : List V} (w : L2.Walk J n G (YFn f)) (hn : xs.length = n) (hx : ∀ i, i < n → xs[i]? = some (f i)) (hg : ∀ H, G' H → G H) : L2.Walk J xs.length G' (YAt xs) := by
  subst hn
  exact w.mono hg fun i H x H' hi _ y => ⟨y.1, by rw [y.2]; exact hx i hi⟩
theorem src_range1 {ta : TA} {n : Nat} (h : EvA ta σ H [.int (n : Int)]) (hn : n ≤ 1000000) : Src (iRng1 ta) σ H ((List.range n).map fun (i : Nat) => V.int (i : Int)) := fun H1 e R r =>
  h H1 e _ fun H2 e2 => ⟨(n : Int), rfl, by omega, by omega, r _ H2 e2 (walkI walk_range (by simp) (fun i hi => by
    have : i < n := by omega
    simp [this]) fun _ _ => True.intro)⟩
theorem src_range2 {ta : TA} {lo : Int} {n : Nat} {hi : Int} (h : EvA ta σ H [.int lo, .int hi]) (hn : (hi - lo).toNat = n) (hb : -1000000 ≤ lo ∧ lo ≤ 1000000 ∧ -1000000 ≤ hi ∧ hi ≤ 1000000) : Src (iRng2 ta) σ H ((List.range n).map fun (i : Nat) => V.int (lo + (i : Int))) := fun H1 e R r =>
  h H1 e _ fun H2 e2 => ⟨lo, hi, rfl, ⟨by omega, by omega, by omega, by omega⟩, r _ H2 e2 (walkI walk_range (by simp; omega) (fun i h => by
    have : i < n := by omega
    simp [this]) fun _ _ => True.intro)⟩
theorem src_str {l : List Nat} (h : Ev te σ H (.str (S l))) : Src (iStr te) σ H (l.map fun c => V.str (S [c])) := fun H1 e R r =>
  h H1 e _ fun H2 e2 => ⟨S l, rfl, r _ H2 e2 (by
    have e0 : (l.map fun c => V.str (S [c])).length = (S l).cps.size := by simp [S]
    rw [e0]
    refine walk_str.mono (fun _ _ => True.intro) fun i H x H' hi _ y => ⟨y.1, ?_⟩
    obtain ⟨c, hc, e3⟩ := y.2
    have hc2 : l[i]? = some c := by simpa [S] using hc
    rw [e3, List.getElem?_map, hc2]
    rfl)⟩

theorem paired_mono {α β : Type} {F G : α → β → Prop} : ∀ {l₁ : List α} {l₂ : List β}, Paired F l₁ l₂ → (∀ a b, F a b → G a b) → Paired G l₁ l₂
  | _, _, .nil, _ => .nil
  | _, _, .cons r t, f => .cons (f _ _ r) (paired_mono t f)
theorem paired_snoc {α β : Type} {F : α → β → Prop} : ∀ {l₁ : List α} {l₂ : List β} {a : α} {b : β}, Paired F l₁ l₂ → F a b → Paired F (l₁ ++ [a]) (l₂ ++ [b])
  | _, _, _, _, .nil, h => .cons h .nil
  | _, _, _, _, .cons r t, h => .cons r (paired_snoc t h)
theorem paired_map {α β : Type} {g : α → β} : ∀ {l₁ : List α} {l₂ : List β}, Paired (fun a b => b = g a) l₁ l₂ → l₂ = l₁.map g
  | _, _, .nil => rfl
  | _, _, .cons r t => by rw [List.map_cons, r, paired_map t]
theorem paired_len {α β : Type} {F : α → β → Prop} : ∀ {l₁ : List α} {l₂ : List β}, Paired F l₁ l₂ → l₁.length = l₂.length
  | _, _, .nil => rfl
  | _, _, .cons _ t => by rw [List.length_cons, List.length_cons, paired_len t]
/-- [e for x in xs if t], the items of any make -/
theorem rg_lc {α : Type} {wi : TI} {vs : List Nat} {j : Nat} (l : List α) (inj : α → V) (f : α → Bool) (R : α → V → Hp → Prop) (hs : Src wi σ H (l.map inj)) (hz : l.length ≤ 100000)
    (hR : ∀ a v H H', Kp H H' → R a v H → R a v H') (hw : ∀ x, wipe ((wipe σ vs).set j (some x)) vs = wipe σ vs)
    (ht : ∀ a ∈ l, ∀ H1, Ex H H1 → EvT tt ((wipe σ vs).set j (some (inj a))) H1 (f a)) (he : ∀ a ∈ l, f a = true → ∀ H1, Ex H H1 → Rg (te ((wipe σ vs).set j (some (inj a)))) H1 (R a)) :
    Rg (tLc wi (gName j) tt te vs σ) H (fun v H2 => ∃ p ys, v = .ref p ∧ H p = none ∧ H2 p = some (.lst ys) ∧ Paired (fun a y => R a y H2) (l.filter f) ys) := fun H0 e Q q =>
  hs H0 e _ fun J H1 e1 wk => fun D hD => by
    refine lc_it wk (fun i H' => Ex H1 H' ∧ i ≤ l.length ∧ ∃ ys, H' D = some (.lst ys) ∧ Paired (fun a y => R a y H') ((l.take i).filter f) ys)
      ⟨Ex.new hD, Nat.zero_le _, [], upd_same, by rw [List.take_zero]; exact .nil⟩ (fun i H' _ p => p.1) ?_ ?_
    · intro i x H' H'' hi p y
      obtain ⟨p1, pi, ys, p2, p3⟩ := p
      obtain ⟨rfl, hx⟩ := y
      rw [List.length_map] at hi
      have hx2 : inj l[i] = x := by
        rw [List.getElem?_map, List.getElem?_eq_getElem hi] at hx
        exact Option.some.inj hx
      subst hx2
      have hm : l[i] ∈ l := List.getElem_mem hi
      have ex := (e.trans e1).trans p1
      refine ⟨hw _, ht l[i] hm H'' ex H'' (Ex.refl H'') _ fun H3 e3 => ?_⟩
      have tk : l.take (i + 1) = l.take i ++ [l[i]] := by rw [List.take_add_one, List.getElem?_eq_getElem hi]; rfl
      cases hf : f l[i] with
      | true =>
        rw [if_pos rfl]
        refine (he l[i] hm hf H3 (ex.trans e3)).go fun y H4 e4 r => ⟨ys, e4 D _ (e3 D _ p2), szl ?_, Ex.mut ((p1.trans e3).trans e4) hD, hi, ys ++ [y], upd_same, ?_⟩
        · have h1 := paired_len p3
          have h2 := List.length_filter_le f (l.take i)
          rw [List.length_take] at h2
          omega
        · have kp : Kp H4 (upd H4 D (.lst (ys ++ [y]))) := Kp.upd (e4 D _ (e3 D _ p2))
          rw [tk, List.filter_append, List.filter_cons, if_pos hf]
          exact paired_snoc (paired_mono p3 fun a b r => hR a b _ _ ((Ex.kp (e3.trans e4)).trans kp) r) (hR _ _ _ _ kp r)
      | false =>
        rw [if_neg Bool.false_ne_true]
        refine ⟨p1.trans e3, hi, ys, e3 D _ p2, ?_⟩
        rw [tk, List.filter_append, List.filter_cons, if_neg (by rw [hf]; decide)]
        show Paired _ (_ ++ []) _
        rw [List.append_nil]
        exact paired_mono p3 fun a b r => hR a b _ _ (Ex.kp e3) r
    · intro H' p
      obtain ⟨p1, _, ys, p2, p3⟩ := p
      rw [List.length_map, List.take_length] at p3
      exact q _ H' (e1.trans p1) ⟨D, ys, rfl, fresh_back (e.trans e1) hD, p2, p3⟩
/-- .. the items scalars -/
theorem rg_lcV {α : Type} {wi : TI} {vs : List Nat} {j : Nat} (l : List α) (inj : α → V) (f : α → Bool) (g : α → V) (hs : Src wi σ H (l.map inj)) (hz : l.length ≤ 100000)
    (hw : ∀ x, wipe ((wipe σ vs).set j (some x)) vs = wipe σ vs)
    (ht : ∀ a ∈ l, ∀ H1, Ex H H1 → EvT tt ((wipe σ vs).set j (some (inj a))) H1 (f a)) (he : ∀ a ∈ l, f a = true → ∀ H1, Ex H H1 → Ev te ((wipe σ vs).set j (some (inj a))) H1 (g a)) :
    Rg (tLc wi (gName j) tt te vs σ) H (fun v H2 => ∃ p, v = .ref p ∧ H p = none ∧ H2 p = some (.lst ((l.filter f).map g))) :=
  (rg_lc l inj f (fun a v _ => v = g a) hs hz (fun _ _ _ _ _ h => h) hw ht fun a ha hf H1 e => Rg.of_ev (he a ha hf H1 e)).imp fun v H2 _ p => by
    obtain ⟨p, ys, e, h1, h2, h3⟩ := p
    rw [paired_map h3] at h2
    exact ⟨p, e, h1, h2⟩
theorem et_yes : EvT tYes σ H true := fun H1 _ _ q => q H1 (Ex.refl H1)
theorem filter_yes {α : Type} (l : List α) : l.filter (fun _ => true) = l := by simp
end

section
variable {K : PySem.W.Frag} {σ : L2.St} {H H' : Hp} {ta tb te tx : TE} {x y z v : V} {i j : Int}
theorem ev_nat {x : Int} (h : Ev te σ H (.int x)) (h0 : 0 ≤ x) : Ev te σ H (.int (x.toNat : Int)) := by
  rw [Int.toNat_of_nonneg h0]
  exact h
theorem atI_int {α : Type} {xs : List α} {i : Int} {v : α} (h0 : 0 ≤ i) (h : xs[i.toNat]? = some v) : atI xs i = some v := by
  have e := atI_nat h
  rw [Int.toNat_of_nonneg h0] at e
  exact e
/-- (a, b, ..)[i], [a, b, ..][i] -/
theorem ev_menuT {tA : TA} {vs : List V} (h : EvA tA σ H vs) (hl : vs.length ≤ 1000) (hb : Ev tb σ H (.int i)) (hx : atI vs i = some v) : Ev (tOp (rIxT K) (tTup tA) tb) σ H v := fun H1 e Q q =>
  h H1 e _ fun H2 e2 => ⟨sz (by omega), fun p hp => hb _ (e.trans (e2.trans (Ex.new hp))) _ fun H3 e3 => ⟨p, vs, i, v, rfl, rfl, ex_t e3 (st_of upd_same), hx, q H3 (e2.trans ((Ex.new hp).trans e3))⟩⟩
theorem ev_menuL {tA : TA} {vs : List V} (h : EvA tA σ H vs) (hl : vs.length ≤ 1000) (hb : Ev tb σ H (.int i)) (hx : atI vs i = some v) : Ev (tOp (rIxL K) (tLst tA) tb) σ H v := fun H1 e Q q =>
  h H1 e _ fun H2 e2 => ⟨sz (by omega), fun p hp => hb _ (e.trans (e2.trans (Ex.new hp))) _ fun H3 e3 => ⟨p, vs, i, v, rfl, rfl, ex_l e3 (sq_of upd_same), hx, q H3 (e2.trans ((Ex.new hp).trans e3))⟩⟩
/-- a made list's item -/
theorem ev_ixN {xs : List V} (h : Rg (ta σ) H (fun v H2 => ∃ p, v = .ref p ∧ H2 p = some (.lst xs))) (hb : Ev tb σ H (.int i)) (hx : atI xs i = some v) : Ev (tOp (rIxL K) ta tb) σ H v := fun H1 e Q q =>
  h H1 e _ fun x H2 e2 p => by
    obtain ⟨p, rfl, hp⟩ := p
    exact hb H2 (e.trans e2) _ fun H3 e3 => ⟨p, xs, i, v, rfl, rfl, sq_of (e3 p _ hp), hx, q H3 (e2.trans e3)⟩
/-- isinstance(x, T), x a scalar -/
def tyN : V → Option String
  | .non => some "NoneType"
  | .bl _ => some "bool"
  | .int _ => some "int"
  | .str _ => some "str"
  | _ => none
theorem tyN_x {K : PySem.W.Frag} {H : Hp} {x : V} {t : String} (h : tyN x = some t) : TyX K H x (.type t) := by
  cases x <;> first | cases h | skip
  · exact .base .non
  · exact .base (.bl _)
  · exact .base (.int _)
  · exact .base (.str _)
theorem ev_isi {t c : String} {r : Bool} (h : Ev ta σ H x) (ht : tyN x = some t) (hk : kitB t c = some r) : Ev (tCB (rIsi K) (tCons ta (tCons (tC (.ty c)) tNil))) σ H (.bl r) := fun H1 e Q q =>
  h H1 e _ fun H2 e2 => ⟨x, .ty c, .type t, .type c, r, rfl, .ty c, tyN_x ht, kit_ty hk, q H2 e2⟩
end
/-- small letters -/
def az (l : List Nat) : Prop := ∀ c ∈ l, 97 ≤ c ∧ c ≤ 122
theorem az_nil : az [] := fun _ h => nomatch h
theorem az_app {a b : List Nat} (h1 : az a) (h2 : az b) : az (a ++ b) := fun c hc => (List.mem_append.mp hc).elim (h1 c) (h2 c)
theorem az_take {a : List Nat} (n : Nat) (h : az a) : az (a.take n) := fun c hc => h c (List.mem_of_mem_take hc)
theorem az_drop {a : List Nat} (n : Nat) (h : az a) : az (a.drop n) := fun c hc => h c (List.mem_of_mem_drop hc)
theorem az_rep {a : List Nat} (n : Nat) (h : az a) : az (List.replicate n a).flatten := fun c hc => by
  obtain ⟨l, hl, hc⟩ := List.mem_flatten.mp hc
  rw [List.eq_of_mem_replicate hl] at hc
  exact h c hc

/-! ### numbers that are Nat -/
abbrev natV (l : List Nat) : List V := l.map fun (i : Nat) => V.int (i : Int)
def isT (K : PySem.W.Frag) (xs : List V) : V → Hp → Prop := fun v H => ∃ p, v = .ref p ∧ SqT K H p xs
def RetT (K : PySem.W.Frag) (xs : List V) (H : Hp) (Q : VK) : Prop := ∀ p H2, Ex H H2 → SqT K H2 p xs → Q (.ref p) H2
section
variable {K : PySem.W.Frag} {σ : L2.St} {H H' : Hp} {ta tb te tx : TE} {x y z v : V} {i j : Int} {a b : Nat}
theorem ev_addn (ha : Ev ta σ H (.int (a : Int))) (hb : Ev tb σ H (.int (b : Int))) : Ev (tOp rAdd ta tb) σ H (.int ((a + b : Nat) : Int)) := ev_is (ev_add ha hb) (by rw [Int.natCast_add])
theorem ev_subn (ha : Ev ta σ H (.int (a : Int))) (hb : Ev tb σ H (.int (b : Int))) (h : b ≤ a) : Ev (tOp rSub ta tb) σ H (.int ((a - b : Nat) : Int)) := ev_is (ev_sub ha hb) (by rw [Int.natCast_sub h])
theorem ev_modn (ha : Ev ta σ H (.int (a : Int))) (hb : Ev tb σ H (.int (b : Int))) (h : 0 < b) : Ev (tOp rMod ta tb) σ H (.int ((a % b : Nat) : Int)) := ev_is (ev_mod ha hb (by omega)) (by rw [Int.natCast_emod])
theorem ev_divn (ha : Ev ta σ H (.int (a : Int))) (hb : Ev tb σ H (.int (b : Int))) (h : 0 < b) (h2 : b < 1073741824) : Ev (tOp rDiv ta tb) σ H (.int ((a / b : Nat) : Int)) := ev_is (ev_div ha hb (by omega)) (by rw [Int.natCast_ediv])
theorem ev_eqn (ha : Ev ta σ H (.int (a : Int))) (hb : Ev tb σ H (.int (b : Int))) : Ev (tOp rEq ta tb) σ H (.bl (decide (a = b))) := ev_is (ev_eqI ha hb) (by rw [show decide ((a : Int) = (b : Int)) = decide (a = b) from decide_eq_decide.mpr (by omega)])
theorem ev_cn {n : Nat} : Ev (tC (.int (n : Int))) σ H (.int (n : Int)) := ev_c
theorem src_range2n {ta : TA} {lo hi : Nat} (h : EvA ta σ H [.int (lo : Int), .int (hi : Int)]) (hb : lo ≤ 1000000 ∧ hi ≤ 1000000) : Src (iRng2 ta) σ H ((List.range (hi - lo)).map fun (i : Nat) => V.int ((lo + i : Nat) : Int)) := by
  have e := src_range2 (n := hi - lo) h (by omega) (by omega)
  have e2 : (fun (i : Nat) => V.int ((lo : Int) + (i : Int))) = fun (i : Nat) => V.int ((lo + i : Nat) : Int) := by
    funext i
    rw [Int.natCast_add]
  rw [e2] at e
  exact e
theorem isT_rg {xs : List V} {p : Addr} (h : Ev te σ H (.ref p)) (hq : SqT K H p xs) : Rg (te σ) H (isT K xs) := fun H1 e Q q => h H1 e _ fun H2 e2 => q _ H2 e2 ⟨p, rfl, ex_t (e.trans e2) hq⟩
end

section
variable {K : PySem.W.Frag} {σ : L2.St} {H H' : Hp} {ta tb te tx : TE} {D : Ends} {tz : TS} {P : V → Hp → Prop}
theorem q_asgR {i : Nat} (h : Rg (te σ) H P) (k : ∀ v H1, Ex H H1 → P v H1 → tz D (σ.set i (some v)) H1) : tSeq (tAsg te (gName i)) tz D σ H := h.go fun v H2 e p => k v H2 e p
theorem s_asgR {i : Nat} (h : Rg (te σ) H P) (k : ∀ v H1, Ex H H1 → P v H1 → D.nx (σ.set i (some v)) H1) : tAsg te (gName i) D σ H := h.go fun v H2 e p => k v H2 e p
theorem s_retR (h : Rg (te σ) H P) (k : ∀ v H1, Ex H H1 → P v H1 → D.rt v H1) : tRet te D σ H := h.go fun v H2 e p => k v H2 e p
theorem rg_cat {b : List Nat} {R : List Nat → Prop} (ha : Rg (ta σ) H (fun v _ => ∃ l, v = .str (S l) ∧ R l)) (hb : Ev tb σ H (.str (S b))) (hl : ∀ l, R l → l.length + b.length ≤ 1000000) :
    Rg (tOp rCat ta tb σ) H (fun v _ => ∃ l, v = .str (S (l ++ b)) ∧ R l) := fun H1 e Q q => ha H1 e _ fun x H2 e2 p => by
  obtain ⟨l, rfl, r⟩ := p
  exact hb H2 (e.trans e2) _ fun H3 e3 => ⟨l, b, rfl, rfl, hl l r, q _ H3 (e2.trans e3) ⟨l, rfl, r⟩⟩
end

/-! ### data compared -/
mutual
theorem dp_mono {K : PySem.W.Frag} {H H' : Hp} (e : Ex H H') : ∀ {v : V} {d : PyData}, Dp K H v d → Dp K H' v d
  | _, _, .non => .non
  | _, _, .bl b => .bl b
  | _, _, .int i => .int i
  | _, _, .str x => .str x
  | _, _, .lst h a => .lst (ex_l e h) (dpAll_mono e a)
  | _, _, .tup h a => .tup (ex_t e h) (dpAll_mono e a)
theorem dpAll_mono {K : PySem.W.Frag} {H H' : Hp} (e : Ex H H') : ∀ {vs : List V} {ds : List PyData}, DpAll K H vs ds → DpAll K H' vs ds
  | _, _, .nil => .nil
  | _, _, .cons h a => .cons (dp_mono e h) (dpAll_mono e a)
end
def natD (l : List Nat) : List PyData := l.map fun (i : Nat) => PyData.int (i : Int)
theorem dpAll_nat {K : PySem.W.Frag} {H : Hp} : ∀ l : List Nat, DpAll K H (natV l) (natD l)
  | [] => .nil
  | i :: r => .cons (.int (i : Int)) (dpAll_nat r)
theorem lay_nat : ∀ l : List Nat, PyData.canLayAll0 (natD l) = true
  | [] => by simp [natD, PyData.canLayAll0]
  | i :: r => by
    have := lay_nat r
    simp only [natD, List.map_cons, PyData.canLayAll0, PyData.canLay0, Bool.true_and]
    exact this
theorem depth_nat : ∀ l : List Nat, PyData.depthAll (natD l) = 0
  | [] => by simp [natD, PyData.depthAll]
  | i :: r => by
    have := depth_nat r
    simp only [natD, List.map_cons, PyData.depthAll, PyData.depth]
    rw [show PyData.depthAll (List.map (fun (i : Nat) => PyData.int (i : Int)) r) = 0 from this]
    rfl
theorem shaped_natT (l : List Nat) : SeqAt.shaped (.tuple (natD l)) = true := by
  unfold SeqAt.shaped
  rw [PyData.canLay0, lay_nat, PyData.depth, depth_nat]
  rfl
theorem shaped_natL (l : List Nat) : SeqAt.shaped (.list (natD l)) = true := by
  unfold SeqAt.shaped
  rw [PyData.canLay0, lay_nat, PyData.depth, depth_nat]
  rfl
theorem eqv_nat : ∀ a b : List Nat, PyData.eqvAll (natD a) (natD b) = decide (a = b)
  | [], [] => by simp [natD, PyData.eqvAll]
  | [], _ :: _ => by simp [natD, PyData.eqvAll]
  | _ :: _, [] => by simp [natD, PyData.eqvAll]
  | x :: a, y :: b => by
    have ih := eqv_nat a b
    simp only [natD, List.map_cons, PyData.eqvAll, PyData.eqv]
    rw [show PyData.eqvAll (List.map (fun (i : Nat) => PyData.int (i : Int)) a) (List.map (fun (i : Nat) => PyData.int (i : Int)) b) = decide (a = b) from ih]
    by_cases h : x = y
    · subst h
      simp
    · rw [show ((x : Int) == (y : Int)) = false from beq_eq_false_iff_ne.mpr (by omega), Bool.false_and]
      exact (decide_eq_false fun e => h (List.cons.inj e).1).symm
section
variable {X : Cx}
theorem oEqD (hu : X.A.units + 64 < cLine) : OpR X (compareOp .Eq) (rEqD X.K) := op_eqD hu
theorem oNeD (hu : X.A.units + 64 < cLine) : OpR X (compareOp .NotEq) (rNeD X.K) := op_neD hu
theorem oIn : OpR X (compareOp .In) (rIn X.K false) := op_in_seq
theorem oNi : OpR X (compareOp .NotIn) (rIn X.K true) := op_notIn_seq
def rIntB : List V → Hp → VK → Prop := fun xs H Q => ∃ k : Bool, xs = [.bl k] ∧ Q (.int (if k then 1 else 0)) H
theorem cIntB : CallR X (.type "int") rIntB := impC call_int1 fun xs H Q ⟨k, e, q⟩ => .inr ⟨k, e, q⟩
end
section
variable {K : PySem.W.Frag} {σ : L2.St} {H H' : Hp} {ta tb te tx tl : TE} {D : Ends} {tz tu : TS} {P : V → Hp → Prop} {x y z v : V}
def isD (K : PySem.W.Frag) (d : PyData) : V → Hp → Prop := fun v H => Dp K H v d
def isN (xs : List V) : V → Hp → Prop := fun v H => ∃ p, v = .ref p ∧ H p = some (.lst xs)
theorem isD_T {l : List Nat} {k : Hp → VK → Prop} (h : Rg k H (isT K (natV l))) : Rg k H (isD K (.tuple (natD l))) := h.imp fun v H2 _ p => by
  obtain ⟨p, rfl, hp⟩ := p
  exact .tup hp (dpAll_nat l)
theorem isD_N {l : List Nat} {k : Hp → VK → Prop} (h : Rg k H (isN (natV l))) : Rg k H (isD K (.list (natD l))) := h.imp fun v H2 _ p => by
  obtain ⟨p, rfl, hp⟩ := p
  exact .lst (sq_of hp) (dpAll_nat l)
theorem ev_eqD {d e : PyData} (ha : Rg (ta σ) H (isD K d)) (hb : ∀ H1, Ex H H1 → Rg (tb σ) H1 (isD K e)) (sd : SeqAt.shaped d = true) (se : SeqAt.shaped e = true) : Ev (tOp (rEqD K) ta tb) σ H (.bl (PyData.eqv d e)) := fun H1 a Q q =>
  ha H1 a _ fun x H2 e2 px => hb H2 (a.trans e2) H2 (Ex.refl H2) _ fun y H3 e3 py => ⟨d, e, dp_mono e3 px, py, sd, se, q H3 (e2.trans e3)⟩
theorem ev_neD {d e : PyData} (ha : Rg (ta σ) H (isD K d)) (hb : ∀ H1, Ex H H1 → Rg (tb σ) H1 (isD K e)) (sd : SeqAt.shaped d = true) (se : SeqAt.shaped e = true) : Ev (tOp (rNeD K) ta tb) σ H (.bl (!PyData.eqv d e)) := fun H1 a Q q =>
  ha H1 a _ fun x H2 e2 px => hb H2 (a.trans e2) H2 (Ex.refl H2) _ fun y H3 e3 py => ⟨d, e, dp_mono e3 px, py, sd, se, q H3 (e2.trans e3)⟩
theorem ev_eqTT {a b : List Nat} (ha : Rg (ta σ) H (isT K (natV a))) (hb : ∀ H1, Ex H H1 → Rg (tb σ) H1 (isT K (natV b))) : Ev (tOp (rEqD K) ta tb) σ H (.bl (decide (a = b))) :=
  ev_is (ev_eqD (isD_T ha) (fun H1 e => isD_T (hb H1 e)) (shaped_natT a) (shaped_natT b)) (by rw [PyData.eqv, eqv_nat])
theorem ev_neTT {a b : List Nat} (ha : Rg (ta σ) H (isT K (natV a))) (hb : ∀ H1, Ex H H1 → Rg (tb σ) H1 (isT K (natV b))) : Ev (tOp (rNeD K) ta tb) σ H (.bl (!decide (a = b))) :=
  ev_is (ev_neD (isD_T ha) (fun H1 e => isD_T (hb H1 e)) (shaped_natT a) (shaped_natT b)) (by rw [PyData.eqv, eqv_nat])
theorem rg_nil : Rg (tLst tNil σ) H (isN []) := fun H1 a Q q => ⟨Nat.zero_le _, fun p hp => q _ _ (Ex.new hp) ⟨p, rfl, upd_same⟩⟩
theorem nil_dec (a : List Nat) : decide (a = []) = a.isEmpty := by cases a <;> simp
/-- a made list of numbers is, is not empty -/
theorem ev_eqE {a : List Nat} (ha : Rg (ta σ) H (isN (natV a))) : Ev (tOp (rEqD K) ta (tLst tNil)) σ H (.bl a.isEmpty) :=
  ev_is (ev_eqD (isD_N ha) (fun H1 e => isD_N (l := []) rg_nil) (shaped_natL a) (shaped_natL [])) (by rw [PyData.eqv, eqv_nat, nil_dec])
theorem ev_neE {a : List Nat} (ha : Rg (ta σ) H (isN (natV a))) : Ev (tOp (rNeD K) ta (tLst tNil)) σ H (.bl (!a.isEmpty)) :=
  ev_is (ev_neD (isD_N ha) (fun H1 e => isD_N (l := []) rg_nil) (shaped_natL a) (shaped_natL [])) (by rw [PyData.eqv, eqv_nat, nil_dec])
theorem flat_nat : ∀ l : List Nat, (natV l).all flatV = true
  | [] => rfl
  | _ :: r => flat_nat r
theorem inV_nat (x : Nat) : ∀ l : List Nat, inV (.int (x : Int)) (natV l) = decide (x ∈ l)
  | [] => by simp [inV]
  | y :: r => by
    have ih := inV_nat x r
    unfold inV at ih ⊢
    rw [natV, List.map_cons, List.any_cons, ih]
    show ((y : Int) == (x : Int) || decide (x ∈ r)) = _
    by_cases h : x = y
    · subst h; simp
    · rw [show ((y : Int) == (x : Int)) = false from beq_eq_false_iff_ne.mpr (by omega)]
      simp [h]
theorem ev_inT {n : Nat} {l : List Nat} {p : Addr} (ha : Ev ta σ H (.int (n : Int))) (hb : Ev tb σ H (.ref p)) (h : SqT K H p (natV l)) : Ev (tOp (rIn K false) ta tb) σ H (.bl (decide (n ∈ l))) :=
  ev_is (ev_op ha hb (rv_isT h rfl (flat_nat l))) (by rw [inV_nat])
theorem ev_niT {n : Nat} {l : List Nat} {p : Addr} (ha : Ev ta σ H (.int (n : Int))) (hb : Ev tb σ H (.ref p)) (h : SqT K H p (natV l)) : Ev (tOp (rIn K true) ta tb) σ H (.bl (!decide (n ∈ l))) :=
  ev_is (ev_op ha hb (rv_niT h rfl (flat_nat l))) (by rw [inV_nat])
theorem ev_inL {n : Nat} {l : List Nat} {p : Addr} (ha : Ev ta σ H (.int (n : Int))) (hb : Ev tb σ H (.ref p)) (h : SqL K H p (natV l)) : Ev (tOp (rIn K false) ta tb) σ H (.bl (decide (n ∈ l))) :=
  ev_is (ev_op ha hb (rv_isL h rfl (flat_nat l))) (by rw [inV_nat])
theorem ev_intB {k : Bool} (h : Ev ta σ H (.bl k)) : Ev (tCB rIntB (tCons ta tNil)) σ H (.int (if k then 1 else 0)) := fun H1 e Q q => h H1 e _ fun H2 e2 => ⟨k, rfl, q H2 e2⟩
theorem s_par {tA : TA} {i j : Nat} (h : EvA tA σ H [x, y]) (k : ∀ H1, Ex H H1 → D.nx ((σ.set i (some x)).set j (some y)) H1) : tPar i j tA D σ H := h H (Ex.refl H) _ fun H1 e => ⟨x, y, rfl, k H1 e⟩
theorem rg_tup {tA : TA} {vs : List V} (h : EvA tA σ H vs) (hl : vs.length ≤ 1000) : Rg (tTup tA σ) H (isT K vs) := fun H1 e Q q => h H1 e _ fun H2 e2 => ⟨sz (by omega), fun p hp => q _ _ (e2.trans (Ex.new hp)) ⟨p, rfl, st_of upd_same⟩⟩
/-- for x in a tuple that is made on the way -/
theorem s_forTR {xs : List V} {j : Nat} (h : Rg (tl σ) H (isT K xs)) (Pv : Hp → Nat → L2.St → Hp → Prop) (h0 : ∀ H1, Ex H H1 → Pv H1 0 σ H1) (hk : ∀ H1 i σ' H', Pv H1 i σ' H' → Kp H1 H')
    (hs : ∀ H1, Ex H H1 → ∀ i x σ' H', xs[i]? = some x → Pv H1 i σ' H' → tu { D with nx := Pv H1 (i + 1), ct := Pv H1 (i + 1), bk := D.nx } (σ'.set j (some x)) H') (hd : ∀ H1, Ex H H1 → ∀ σ' H', Pv H1 xs.length σ' H' → D.nx σ' H') :
    tFor (iTup K tl) (gName j) tu D σ H := h.go fun v H1 e p => by
  obtain ⟨p, rfl, hp⟩ := p
  exact ⟨p, rfl, ⟨xs, hp⟩, for_tup (K := K) (a := p) (xs := xs) (Pv H1) (h0 H1 e) (fun i σ' H' _ q => (hk H1 i σ' H' q).t hp) (fun i x σ' H' hx q => hs H1 e i x σ' H' hx q) (hd H1 e)⟩
theorem q_forTR {xs : List V} {j : Nat} (h : Rg (tl σ) H (isT K xs)) (Pv : Hp → Nat → L2.St → Hp → Prop) (h0 : ∀ H1, Ex H H1 → Pv H1 0 σ H1) (hk : ∀ H1 i σ' H', Pv H1 i σ' H' → Kp H1 H')
    (hs : ∀ H1, Ex H H1 → ∀ i x σ' H', xs[i]? = some x → Pv H1 i σ' H' → tu { D with nx := Pv H1 (i + 1), ct := Pv H1 (i + 1), bk := tz D } (σ'.set j (some x)) H') (hd : ∀ H1, Ex H H1 → ∀ σ' H', Pv H1 xs.length σ' H' → tz D σ' H') :
    tSeq (tFor (iTup K tl) (gName j) tu) tz D σ H := s_forTR (D := { D with nx := tz D }) h Pv h0 hk hs hd
end

/-! ### join of signs, list(range(n)) -/
theorem glue_ones : ∀ (l : List Nat) (acc : Array Nat), (l.map fun c => S [c]).foldl (fun acc p => acc ++ (S []).cps ++ p.cps) acc = acc ++ l.toArray
  | [], acc => by simp
  | c :: r, acc => by
    rw [List.map_cons, List.foldl_cons, glue_ones r]
    simp [S]
theorem join_S (l : List Nat) : Txt.join (S []) (l.map fun c => S [c]) = S l := by
  cases l with
  | nil => rfl
  | cons c r =>
    unfold Txt.join Builtin.Str.glued
    rw [List.map_cons, List.drop_succ_cons, List.drop_zero, glue_ones]
    simp [S]
def rJoinC (K : PySem.W.Frag) : V → List V → Hp → VK → Prop := fun x xs H Q => ∃ (p : Addr) (l : List Nat), x = .str (S []) ∧ xs = [.ref p] ∧ SqL K H p (l.map fun c => V.str (S [c])) ∧ l.length ≤ 100000 ∧ Q (.str (S l)) H
theorem mJoinC {X : Cx} : MtR X "str.join" (rJoinC X.K) := impM mt_join fun x xs H Q ⟨p, l, e1, e2, h, hz, q⟩ => ⟨S [], p, l.map fun c => S [c], e1, e2, .inl (by rw [List.map_map]; exact h), by
  have e0 : (List.map (fun z : Str => z.length) (l.map fun c => S [c])).sum = l.length := by
    rw [List.map_map]
    clear h q hz
    induction l with
    | nil => rfl
    | cons c r ih =>
      rw [List.map_cons, List.sum_cons, ih, List.length_cons]
      show (S [c]).length + _ = _
      rw [S_len, List.length_singleton, Nat.add_comm]
  rw [e0, S_len, List.length_map]
  show l.length + l.length * 0 ≤ _
  omega, by rw [join_S]; exact q⟩
section
variable {K : PySem.W.Frag} {σ : L2.St} {H H' : Hp} {ta tb te to : TE}
theorem ev_join {l : List Nat} (ho : Ev to σ H (.str (S []))) (h : Rg (te σ) H (isN (l.map fun c => V.str (S [c])))) (hl : l.length ≤ 100000) : Ev (tM1 (rJoinC K) to te) σ H (.str (S l)) := fun H1 e Q q =>
  ho H1 e _ fun H2 e2 => ⟨⟨_, rfl⟩, (h.mono (e.trans e2)).go fun v H3 e3 p => by
    obtain ⟨p, rfl, hp⟩ := p
    exact ⟨p, l, rfl, rfl, sq_of hp, hl, q H3 (e2.trans e3)⟩⟩
theorem rg_listRange {n : Nat} (h : Ev ta σ H (.int (n : Int))) (hn : n ≤ 1000000) : Rg (tLstRg (tRg1 ta) σ) H (fun v H2 => ∃ p, v = .ref p ∧ H p = none ∧ H2 p = some (.lst (natV (List.range n)))) := fun H1 e Q q =>
  h H1 e _ fun H2 e2 => ⟨(n : Int), rfl, RgOk.of_le (by omega) (by omega) (by omega) (by omega), fun p hp => q _ _ (e2.trans (Ex.new hp)) ⟨p, rfl, fresh_back (e.trans e2) hp, by
    rw [upd_same]
    unfold rgV natV
    rw [show ((n : Int) - 0).toNat = n by omega]
    congr 2
    apply List.map_congr_left
    intro i _
    rw [Int.zero_add]⟩⟩
end

theorem nat_at {l : List Nat} {i : Nat} {x : V} (h : (natV l)[i]? = some x) : ∃ y, l[i]? = some y ∧ x = V.int (y : Int) := by
  unfold natV at h
  rw [List.getElem?_map] at h
  cases e : l[i]? with
  | none => rw [e] at h; cases h
  | some y => rw [e] at h; exact ⟨y, rfl, (Option.some.inj h).symm⟩
theorem nat_get {l : List Nat} {i y : Nat} (h : l[i]? = some y) : (natV l)[i]? = some (V.int (y : Int)) := by
  unfold natV
  rw [List.getElem?_map, h]
  rfl
theorem empty_S : ("" : Str) = S [] := by decide +kernel
def alph : List Nat := [97, 98, 99, 100, 101, 102, 103, 104, 105, 106, 107, 108, 109, 110, 111, 112, 113, 114, 115, 116, 117, 118, 119, 120, 121, 122]
theorem alph_S : ("abcdefghijklmnopqrstuvwxyz" : Str) = S alph := by decide +kernel
theorem alph_at {g : Nat} (h : g < 26) : alph[g]? = some (g + 97) := by
  have : ∀ g ∈ List.range 26, alph[g]? = some (g + 97) := by decide
  exact this g (List.mem_range.mpr h)
section
variable {K : PySem.W.Frag} {σ : L2.St} {H H' : Hp} {ta tb te to : TE}
theorem ev_ixLn {p : Addr} {l : List Nat} {n y : Nat} (ha : Ev ta σ H (.ref p)) (hb : Ev tb σ H (.int (n : Int))) (hp : SqL K H p (natV l)) (h : l[n]? = some y) : Ev (tOp (rIxL K) ta tb) σ H (.int (y : Int)) :=
  ev_op ha hb (rv_ixL hp (atI_nat (nat_get h)))
theorem ev_ixTn {p : Addr} {l : List Nat} {n y : Nat} (ha : Ev ta σ H (.ref p)) (hb : Ev tb σ H (.int (n : Int))) (hp : SqT K H p (natV l)) (h : l[n]? = some y) : Ev (tOp (rIxT K) ta tb) σ H (.int (y : Int)) :=
  ev_op ha hb (rv_ixT hp (atI_nat (nat_get h)))
theorem ev_min2n {a b : Nat} (ha : Ev ta σ H (.int (a : Int))) (hb : Ev tb σ H (.int (b : Int))) : Ev (tCB BW.rMin2 (tCons ta (tCons tb tNil))) σ H (.int ((min a b : Nat) : Int)) := ev_is (BW.ev_min2 ha hb) (congrArg V.int (by omega))
theorem ev_max2n {a b : Nat} (ha : Ev ta σ H (.int (a : Int))) (hb : Ev tb σ H (.int (b : Int))) : Ev (tCB BW.rMax2 (tCons ta (tCons tb tNil))) σ H (.int ((max a b : Nat) : Int)) := ev_is (BW.ev_max2 ha hb) (congrArg V.int (by omega))
end

/-! ### signs in texts, strip -/
section
variable {X : Cx}
def rInC : R2 := fun x y H Q => ∃ (c : Nat) (l : List Nat), x = .str (S [c]) ∧ y = .str (S l) ∧ Q (.bl (decide (c ∈ l))) H
def rNiC : R2 := fun x y H Q => ∃ (c : Nat) (l : List Nat), x = .str (S [c]) ∧ y = .str (S l) ∧ Q (.bl (!decide (c ∈ l))) H
theorem oInC : OpR X (compareOp .In) rInC := imp op_in_sign fun x y H Q ⟨c, l, e1, e2, q⟩ => ⟨c, S l, e1, e2, by rw [S_cps]; exact q⟩
theorem oNiC : OpR X (compareOp .NotIn) rNiC := imp op_notIn_sign fun x y H Q ⟨c, l, e1, e2, q⟩ => ⟨c, S l, e1, e2, by rw [S_cps]; exact q⟩
theorem takeWhile_all {p : Nat → Bool} : ∀ l : List Nat, (∀ c ∈ l, p c = true) → l.takeWhile p = l
  | [], _ => rfl
  | a :: r, h => by
    rw [List.takeWhile_cons, if_pos (h a List.mem_cons_self), takeWhile_all r fun c hc => h c (List.mem_cons_of_mem _ hc)]
theorem strip_all {l b : List Nat} (h : ∀ c ∈ l, c ∈ b) : Txt.stripChars (S l) (S b) = S [] := by
  have hg : ∀ c ∈ l, (S b).cps.contains c = true := fun c hc => by
    have := h c hc
    simpa [S] using this
  unfold Txt.stripChars
  rw [PyProof.Rows.stripBy_eq]
  have e1 : stripLo (S b).cps.contains true (S l) = l.length := by
    unfold stripLo
    rw [if_pos rfl, S_cps, takeWhile_all l hg]
  have e2 : stripHi (S b).cps.contains true (S l) l.length = l.length := by
    unfold stripHi
    rw [if_pos rfl, S_cps, S_len, List.drop_length]
    rfl
  rw [e1, e2]
  unfold Builtin.Str.strSub
  simp [S]
def rStripC : V → List V → Hp → VK → Prop := fun x xs H Q => ∃ l b : List Nat, x = .str (S l) ∧ xs = [.str (S b)] ∧ (∀ c ∈ l, c ∈ b) ∧ l.length ≤ 1000000 ∧ Q (.str (S [])) H
theorem mStripC : MtR X "str.strip" rStripC := impM mt_stripChars fun x xs H Q ⟨l, b, e1, e2, h, hz, q⟩ => ⟨S l, S b, e1, e2, by rw [S_len]; exact sz hz, by rw [strip_all h]; exact q⟩
end
section
variable {K : PySem.W.Frag} {σ : L2.St} {H H' : Hp} {ta tb te to : TE} {c : Nat} {l b : List Nat}
theorem ev_inC (ha : Ev ta σ H (.str (S [c]))) (hb : Ev tb σ H (.str (S l))) : Ev (tOp rInC ta tb) σ H (.bl (decide (c ∈ l))) := ev_op ha hb (rv_val fun H1 _ Q q => ⟨c, l, rfl, rfl, q⟩)
theorem ev_niC (ha : Ev ta σ H (.str (S [c]))) (hb : Ev tb σ H (.str (S l))) : Ev (tOp rNiC ta tb) σ H (.bl (!decide (c ∈ l))) := ev_op ha hb (rv_val fun H1 _ Q q => ⟨c, l, rfl, rfl, q⟩)
theorem ev_strip (ha : Ev ta σ H (.str (S l))) (hb : Ev tb σ H (.str (S b))) (h : ∀ c ∈ l, c ∈ b) (hz : l.length ≤ 1000000) : Ev (tM1 rStripC ta tb) σ H (.str (S [])) := fun H1 e Q q =>
  ha H1 e _ fun H2 e2 => ⟨⟨_, rfl⟩, hb H2 (e.trans e2) _ fun H3 e3 => ⟨l, b, rfl, rfl, h, hz, q H3 (e2.trans e3)⟩⟩
end

/-! ### list(text), find of a sign, all, isinstance of things -/
section
variable {X : Cx}
def rListC : List V → Hp → VK → Prop := fun xs H Q => ∃ l : List Nat, xs = [.str (S l)] ∧ l.length ≤ 1000000 ∧ ∀ p, H p = none → Q (.ref p) (upd H p (.lst (l.map fun c => V.str (S [c]))))
theorem cListC (hc : X.calm = true) : CallR X (.type "list") rListC := by
  intro pins s σ H xs us Q I r h
  obtain ⟨l, rfl, hz, q⟩ := h
  obtain ⟨u, rfl, rx⟩ := vals1 r
  obtain ⟨t, rfl⟩ := rx
  have hn : (S l).cps.size = l.length := by simp [S]
  refine call_list_str (I.ok.hd hc) (S l) t (fun h' tk acc c' hk e hi => ?_) (by rw [hn]; exact sz hz)
  have hlen : acc.toList.length = l.length := by rw [Array.length_toList, hi.1, hn]
  refine ⟨.ref s.heap.objs.size, upd H s.heap.objs.size (.lst (l.map fun c => V.str (S [c]))), I.laid hk (Nat.le_refl _) (show ObjOk X.prog X.w _ _ _ (.lst (l.map fun c => V.str (S [c]))) from ⟨by rw [List.length_map]; exact sz hz, acc.toList, c', vals_of_at (by rw [List.length_map, hlen]) fun j x u hx hu => ?_, ?_⟩), rfl, q _ (I.hok.fresh (Nat.le_refl _))⟩
  · obtain ⟨c, t', hc', rfl⟩ := hi.2 j u (by rw [← hu, Array.getElem?_toList])
    rw [List.getElem?_map] at hx
    have hc2 : l[j]? = some c := by simpa [S] using hc'
    rw [hc2] at hx
    cases (Option.some.inj hx : V.str (S [c]) = x)
    exact ⟨t', rfl⟩
  · rw [Array.toArray_toList]
    exact e
def findC (l : List Nat) (c : Nat) : Int := Txt.find (S l) (S [c])
theorem findC_neg (l : List Nat) (c : Nat) : decide (findC l c < 0) = !decide (c ∈ l) := by
  have h := StrLaws.found_one (S l) c
  rw [S_cps] at h
  rw [← h, Bool.not_not]
  unfold findC Txt.find
  show decide ((match Builtin.Str.occurrences (S l) (S [c]) 0 (S l).length 1 with | i :: _ => ((i : Nat) : Int) | [] => -1) < 0) = (Builtin.Str.occurrences (S l) (S [c]) 0 (S l).length 1).isEmpty
  cases Builtin.Str.occurrences (S l) (S [c]) 0 (S l).length 1 with
  | nil => rfl
  | cons i r => exact decide_eq_false (by show ¬ ((i : Nat) : Int) < 0; omega)
def rFindC : V → List V → Hp → VK → Prop := fun x xs H Q => ∃ (l : List Nat) (c : Nat), x = .str (S l) ∧ xs = [.str (S [c])] ∧ Q (.int (findC l c)) H
theorem mFindC : MtR X "str.find" rFindC := impM mt_find fun x xs H Q ⟨l, c, e1, e2, q⟩ => ⟨S l, S [c], e1, e2, q⟩
end
/-- what stands for no text -/
def NotS (H : Hp) (v : V) : Prop := v = .non ∨ (∃ b, v = .bl b) ∨ (∃ i, v = .int i) ∨ (∃ p xs, v = .ref p ∧ H p = some (.tup xs)) ∨ ∃ p xs, v = .ref p ∧ H p = some (.lst xs)
theorem NotS.mono {H H' : Hp} {v : V} (e : Ex H H') (h : NotS H v) : NotS H' v := by
  rcases h with h | h | h | ⟨p, xs, h1, h2⟩ | ⟨p, xs, h1, h2⟩
  · exact .inl h
  · exact .inr (.inl h)
  · exact .inr (.inr (.inl h))
  · exact .inr (.inr (.inr (.inl ⟨p, xs, h1, e p _ h2⟩)))
  · exact .inr (.inr (.inr (.inr ⟨p, xs, h1, e p _ h2⟩)))
theorem NotS.ty {K : PySem.W.Frag} {H : Hp} {v : V} (h : NotS H v) : ∃ t, TyX K H v (.type t) ∧ kitB t "str" = some false := by
  rcases h with rfl | ⟨b, rfl⟩ | ⟨i, rfl⟩ | ⟨p, xs, rfl, h⟩ | ⟨p, xs, rfl, h⟩
  · exact ⟨_, .base .non, by decide +kernel⟩
  · exact ⟨_, .base (.bl _), by decide +kernel⟩
  · exact ⟨_, .base (.int _), by decide +kernel⟩
  · exact ⟨_, .base (.tup h), by decide +kernel⟩
  · exact ⟨_, .base (.lst h), by decide +kernel⟩
theorem strOk_S {l : List Nat} (h : ∀ c ∈ l, c < 1114112) : PyData.strOk (S l) = true := by
  unfold PyData.strOk S
  simpa using h
section
variable {K : PySem.W.Frag} {σ : L2.St} {H H' : Hp} {ta tb te to : TE} {c : Nat} {l b : List Nat} {v : V}
theorem rep_flat_len (n : Nat) (a : List Nat) : (List.replicate n a).flatten.length = n * a.length := by simp
theorem ev_isiX {c : String} {r : Bool} (h : Ev ta σ H v) (ht : ∀ H1, Ex H H1 → ∃ t, TyX K H1 v (.type t) ∧ kitB t c = some r) : Ev (tCB (rIsi K) (tCons ta (tCons (tC (.ty c)) tNil))) σ H (.bl r) := fun H1 e Q q =>
  h H1 e _ fun H2 e2 => by
    obtain ⟨t, h1, h2⟩ := ht H2 (e.trans e2)
    exact ⟨v, .ty c, .type t, .type c, r, rfl, .ty c, h1, kit_ty h2, q H2 e2⟩
theorem ev_find (ha : Ev ta σ H (.str (S l))) (hb : Ev tb σ H (.str (S [c]))) : Ev (tM1 rFindC ta tb) σ H (.int (findC l c)) := fun H1 e Q q =>
  ha H1 e _ fun H2 e2 => ⟨⟨_, rfl⟩, hb H2 (e.trans e2) _ fun H3 e3 => ⟨l, c, rfl, rfl, q H3 (e2.trans e3)⟩⟩
theorem ev_all {bs : List Bool} (h : Rg (ta σ) H (isN (bs.map V.bl))) : Ev (tCB (rAll K) (tCons ta tNil)) σ H (.bl (bs.all id)) :=
  Rg.ev (rg_cb1 h fun x H1 e p H2 e2 Q q => by
    obtain ⟨p, rfl, h1⟩ := p
    exact ⟨p, bs, rfl, sq_of (e2 p _ h1), q _ H2 (Ex.refl H2) rfl⟩)
theorem dpAll_one : ∀ l : List Nat, DpAll K H (l.map fun c => V.str (S [c])) (l.map fun c => PyData.str (S [c]))
  | [] => .nil
  | c :: r => .cons (.str _) (dpAll_one r)
theorem lay_one : ∀ l : List Nat, (∀ c ∈ l, c < 1114112) → PyData.canLayAll0 (l.map fun c => PyData.str (S [c])) = true
  | [], _ => by simp [PyData.canLayAll0]
  | c :: r, h => by
    rw [List.map_cons, PyData.canLayAll0, lay_one r fun d hd => h d (List.mem_cons_of_mem _ hd), PyData.canLay0, strOk_S (by simpa using h c List.mem_cons_self)]
    rfl
theorem depth_one : ∀ l : List Nat, PyData.depthAll (l.map fun c => PyData.str (S [c])) = 0
  | [] => by simp [PyData.depthAll]
  | c :: r => by
    rw [List.map_cons, PyData.depthAll, depth_one r, PyData.depth]
    rfl
/-- a made list of signs is empty -/
theorem ev_eqES (ha : Rg (ta σ) H (isN (l.map fun c => V.str (S [c])))) (hl : ∀ c ∈ l, c < 1114112) : Ev (tOp (rEqD K) ta (tLst tNil)) σ H (.bl l.isEmpty) :=
  ev_is (ev_eqD (ha.imp fun v H2 _ p => (show Dp K H2 v (.list (l.map fun c => PyData.str (S [c]))) by
    obtain ⟨p, rfl, hp⟩ := p
    exact .lst (sq_of hp) (dpAll_one l))) (fun H1 e => isD_N (l := []) rg_nil) (by
      unfold SeqAt.shaped
      rw [PyData.canLay0, lay_one l hl, PyData.depth, depth_one]
      rfl) (shaped_natL [])) (by
      cases l with
      | nil => rfl
      | cons c r => rfl)
end
end BW

namespace BW
open PySem PySem.Spec PyProof.Rows L2 Evl

def topS (i : Nat) : Stmt := PySem.Challenge.pw_borderrow_k01_words.main.body.getD i (.Pass ⟨0, 0, 0, 0⟩)
abbrev s_l_cell_at : Stmt := topS 5
abbrev N_l_cell_at : List Str := ["_law_script", "_law_k"]
theorem sc_l_cell_at : FnScope N_l_cell_at ["_law_script", "_law_k"] (defScope s_l_cell_at) := ⟨rfl, rfl, rfl, by decide +kernel, rfl, by decide +kernel, by decide +kernel⟩
abbrev s_l_drawn : Stmt := topS 7
abbrev N_l_drawn : List Str := ["_law_number", "_law_k", "_law_drawn_here"]
theorem sc_l_drawn : FnScope N_l_drawn ["_law_number", "_law_k"] (defScope s_l_drawn) := ⟨rfl, rfl, rfl, by decide +kernel, rfl, by decide +kernel, by decide +kernel⟩
abbrev s_l_is_word : Stmt := topS 9
abbrev N_l_is_word : List Str := ["_law_thing", "_law_sign"]
theorem sc_l_is_word : FnScope N_l_is_word ["_law_thing"] (defScope s_l_is_word) := ⟨rfl, rfl, rfl, by decide +kernel, rfl, by decide +kernel, by decide +kernel⟩
abbrev s_is_word : Stmt := topS 3
abbrev N_is_word : List Str := ["thing", "sign"]
theorem sc_is_word : FnScope N_is_word ["thing"] (defScope s_is_word) := ⟨rfl, rfl, rfl, by decide +kernel, rfl, by decide +kernel, by decide +kernel⟩
abbrev s_l_mixed : Stmt := topS 6
abbrev N_l_mixed : List Str := ["_law_script", "_law_k", "_law_drawn_here"]
theorem sc_l_mixed : FnScope N_l_mixed ["_law_script", "_law_k"] (defScope s_l_mixed) := ⟨rfl, rfl, rfl, by decide +kernel, rfl, by decide +kernel, by decide +kernel⟩
abbrev s_l_text : Stmt := topS 8
abbrev N_l_text : List Str := ["_law_number", "_law_most", "_law_letters", "_law_many", "_law_found", "_law_k", "_law_by"]
theorem sc_l_text : FnScope N_l_text ["_law_number", "_law_most"] (defScope s_l_text) := ⟨rfl, rfl, rfl, by decide +kernel, rfl, by decide +kernel, by decide +kernel⟩
abbrev s_law : Stmt := topS 10
abbrev N_law : List Str := ["_law_script", "_law_thing", "_law_number", "_law_place", "_law_sign", "_law_found"]
theorem sc_law : FnScope N_law ["_law_script"] (defScope s_law) := ⟨rfl, rfl, rfl, by decide +kernel, rfl, by decide +kernel, by decide +kernel⟩
structure Tx (mg : Str → Option Value) : Prop where
  m_all : mg "all" = none
  m_bool : mg "bool" = none
  m_isinstance : mg "isinstance" = none
  m_len : mg "len" = none
  m_list : mg "list" = none
  m_range : mg "range" = none
  m_str : mg "str" = none
  g_LETTERS : ∃ t, mg "LETTERS" = some (.str "abcdefghijklmnopqrstuvwxyz" t)
  g_LONGEST : ∃ t, mg "LONGEST" = some (.int 14 t)
structure Cal (P : Program) (w : World) (K : PySem.W.Frag) (mg : Str → Option Value) (base : Heap) (k : Nat) (x : Str) (ps : List Str) (sp : Sp) : Prop where
  ex : ∃ (f : Addr) (fd : FuncData), FnOk P w K mg base CX0 k f fd ps sp ∧ mg x = some (.ref f) ∧ PySem.W.keepIn K (.ref f) = true ∧ Binds K fd ps []
structure Dfn (K : PySem.W.Frag) (mg : Str → Option Value) (x : Str) (st : Stmt) (ps : List Str) : Prop where
  ex : ∃ (f : Addr) (fd : FuncData), Fun K x x st f fd ∧ mg x = some (.ref f) ∧ Binds K fd ps []
section
variable {P : Program} {w : World} {K : PySem.W.Frag} {mg : Str → Option Value} {base : Heap}
/-! ### _law_cell_at -/
def cellZ (ns : List Int) (k : Nat) : Int := ns.getD k 0
def sp_l_cell_at (K : PySem.W.Frag) : Sp := fun vs H Q _ => ∃ (a : Addr) (ns : List Int) (k : Nat), vs = [.ref a, .int (k : Int)] ∧ SqL K H a (ns.map V.int) ∧ RetV (.int (cellZ ns k)) H Q
theorem ok_l_cell_at (T : Tx mg) (D : Dfn K mg "_law_cell_at" s_l_cell_at ["_law_script", "_law_k"])  : Cal P w K mg base 1 "_law_cell_at" ["_law_script", "_law_k"] (sp_l_cell_at K) := by
  obtain ⟨f, fd, F, mF, bF⟩ := D.ex
  refine ⟨f, fd, F.ok sc_l_cell_at (fun vs H Q E h => ?_) (fun cdv A outer s H vs Q E hr h => ?_), mF, F.kp, bF⟩
  · obtain ⟨a, ns, k, rfl, hS, q⟩ := h
    rfl
  · have hu := hu_of hr
    obtain ⟨a, ns, k, rfl, hS, q⟩ := h
    refine ⟨_, (pss_cons (ps_if (pt_cmpR oLt (pv 1) (pe_callB (show CallR _ (.builtin "len") (rLenQ K) from cLenQ) (by rfl) T.m_len (by decide +kernel) (pa_cons (pv 0) pa_nil)) (nomark _)) (pss_one (ps_ret (pe_ix (show IxR _ (rIxL K) from ix_list) (pv 0) (pv 1) (fun _ _ => rfl)))) pss_nil)
      (pss_one (ps_ret pe_int))), ?_⟩
    refine q_when (et_test (ev_lt (ev_var rfl) (ev_lenL (ev_var rfl) hS))) (fun hb H1 e1 => ?_) (fun hb H1 e1 => ?_)
    · have hk : k < ns.length := by
        have := of_decide_eq_true hb
        rw [List.length_map] at this
        omega
      refine s_ret (ev_op (ev_var rfl) (ev_var rfl) (rv_ixL (ex_l e1 hS) (atI_nat (v := V.int (cellZ ns k)) ?_))) fun H2 e2 => q H2 (e1.trans e2)
      rw [List.getElem?_map, List.getElem?_eq_getElem hk]
      unfold cellZ
      rw [List.getD_eq_getElem?_getD, List.getElem?_eq_getElem hk]
      rfl
    · have hk : ns.length ≤ k := by
        have := of_decide_eq_false hb
        rw [List.length_map] at this
        omega
      have e0 : cellZ ns k = 0 := by
        unfold cellZ
        rw [List.getD_eq_getElem?_getD, List.getElem?_eq_none hk]
        rfl
      rw [e0] at q
      exact s_ret ev_c fun H2 e2 => q H2 (e1.trans e2)
/-! ### _law_drawn -/
def hashE (x : Int) : Int := x * 69621 % 2147483647
def drawZ (n : Int) (k : Nat) : Int := (hashE (n + 104729 * (k : Int) + 17) * hashE (n + 104729 * (k : Int) + 17) + 3 * hashE (n + 104729 * (k : Int) + 17) + (k : Int)) % 2147483629
theorem hashE_lt (x : Int) : 0 ≤ hashE x ∧ hashE x < 2147483647 := ⟨Int.emod_nonneg _ (by decide), Int.emod_lt_of_pos _ (by decide)⟩
theorem drawZ_lt (n : Int) (k : Nat) : 0 ≤ drawZ n k ∧ drawZ n k < 2147483629 := ⟨Int.emod_nonneg _ (by decide), Int.emod_lt_of_pos _ (by decide)⟩
def sp_l_drawn (K : PySem.W.Frag) : Sp := fun vs H Q _ => ∃ (n : Int) (k : Nat), vs = [.int n, .int (k : Int)] ∧ k < 1000 ∧ RetV (.int (drawZ n k)) H Q
theorem sv_drawn {K : PySem.W.Frag} {H : Hp} {n : Int} {k : Nat} (hk : k < 1000) : SpV (sp_l_drawn K) [.int n, .int (k : Int)] H (.int (drawZ n k)) :=
  fun H1 e Q q E => ⟨n, k, rfl, hk, q⟩
theorem ok_l_drawn (T : Tx mg) (D : Dfn K mg "_law_drawn" s_l_drawn ["_law_number", "_law_k"])  : Cal P w K mg base 1 "_law_drawn" ["_law_number", "_law_k"] (sp_l_drawn K) := by
  obtain ⟨f, fd, F, mF, bF⟩ := D.ex
  refine ⟨f, fd, F.ok sc_l_drawn (fun vs H Q E h => ?_) (fun cdv A outer s H vs Q E hr h => ?_), mF, F.kp, bF⟩
  · obtain ⟨n, k, rfl, hk, q⟩ := h
    rfl
  · have hu := hu_of hr
    obtain ⟨n, k, rfl, hk, q⟩ := h
    refine ⟨_, (pss_cons (ps_set (i := 2) sc_l_drawn.nd rfl (Or.inl rfl) (pe_op oMod (pe_op oMul (pe_op oAdd (pe_op oAdd (pv 0) (pe_op oMul pe_int (pv 1))) pe_int) pe_int) pe_int))
      (pss_one (ps_ret (pe_op oMod (pe_op oAdd (pe_op oAdd (pe_op oMul (pv 2) (pv 2)) (pe_op oMul pe_int (pv 2))) (pv 1)) pe_int)))), ?_⟩
    have b := hashE_lt (n + 104729 * (k : Int) + 17)
    refine q_asg (ev_mod (ev_mul (ev_add (ev_add (ev_var rfl) (ev_mul ev_c (ev_var rfl) (.inl (by omega)))) ev_c) ev_c (.inr (by omega))) ev_c (by omega)) fun H1 e1 => ?_
    exact s_ret (ev_mod (ev_add (ev_add (ev_mul (ev_var rfl) (ev_var rfl) (.inl (by show _ < hashE _ ∧ hashE _ < _; omega))) (ev_mul ev_c (ev_var rfl) (.inl (by omega)))) (ev_var rfl)) ev_c (by omega)) fun H2 e2 => q H2 (e1.trans e2)
/-! ### _law_is_word -/
def Thing2 (H : Hp) (v : V) : Option (List Nat) → Prop
  | some l => v = .str (S l) ∧ l.length ≤ 1000 ∧ ∀ c ∈ l, c < 1000
  | none => NotS H v
theorem Thing2.mono {H H' : Hp} {v : V} (e : Ex H H') : ∀ {o : Option (List Nat)}, Thing2 H v o → Thing2 H' v o
  | some _, h => h
  | none, h => NotS.mono e h
def iswC : Option (List Nat) → Bool
  | some l => decide (l.length ≤ 14) && l.all fun c => decide (c ∈ alph)
  | none => false
def sp_l_is_word (K : PySem.W.Frag) : Sp := fun vs H Q _ => ∃ (v : V) (o : Option (List Nat)), vs = [v] ∧ Thing2 H v o ∧ RetV (.bl (iswC o)) H Q
theorem sv_l_is_word {K : PySem.W.Frag} {H : Hp} {v : V} {o : Option (List Nat)} (h : Thing2 H v o) : SpV (sp_l_is_word K) [v] H (.bl (iswC o)) := fun H1 e Q q E => ⟨v, o, rfl, h.mono e, q⟩
theorem none_bad (l : List Nat) : (l.filter fun c => !decide (c ∈ alph)).isEmpty = l.all fun c => decide (c ∈ alph) := by
  rw [Bool.eq_iff_iff, List.isEmpty_iff, List.filter_eq_nil_iff, List.all_eq_true]
  constructor
  · intro h c hc
    have := h c hc
    rw [Bool.not_eq_true, Bool.not_eq_false'] at this
    exact this
  · intro h c hc
    rw [h c hc]
    decide
theorem ok_l_is_word (T : Tx mg) (D : Dfn K mg "_law_is_word" s_l_is_word ["_law_thing"])  : Cal P w K mg base 1 "_law_is_word" ["_law_thing"] (sp_l_is_word K) := by
  obtain ⟨f, fd, F, mF, bF⟩ := D.ex
  refine ⟨f, fd, F.ok sc_l_is_word (fun vs H Q E h => ?_) (fun cdv A outer s H vs Q E hr h => ?_), mF, F.kp, bF⟩
  · obtain ⟨v, o, rfl, hv, q⟩ := h
    rfl
  · have hu := hu_of hr
    obtain ⟨v, o, rfl, hv, q⟩ := h
    refine ⟨_, (pss_cons (ps_if (PW.pt (pw_or (pt_not (pt_val (pe_callB (show CallR _ (.builtin "isinstance") (rIsi K) from call_isi) (by rfl) T.m_isinstance (by decide +kernel) (pa_cons (pv 0) (pa_cons (pe_bltn (v := .ty "str") (by rfl) T.m_str (by decide +kernel) rfl) pa_nil))))) (pw_or1 (pt_cmpR oGt (pe_callB cLenC (by rfl) T.m_len (by decide +kernel) (pa_cons (pv 0) pa_nil)) pe_int (nomark _))))) (pss_one (ps_ret pe_bl)) pss_nil)
      (pss_one (ps_ret (pe_cmpR (show OpR _ (compareOp .Eq) (rEqD K) from (oEqD hr.units)) (pe_lc (own := [("_law_sign", 1)]) (g := gName 1) rfl sc_l_is_word.nd (pi_str (pv 0)) (blkOk_by (own := [("_law_sign", 1)]) (N := N_l_is_word) (sc := defScope s_l_is_word) (by decide +kernel)) (fun _ _ _ _ _ => pg_name (i := 1) sc_l_is_word.nd rfl (by first | exact Or.inl rfl | exact Or.inr rfl)) (fun _ _ _ _ _ => pts_one (pt_cmpR oLt (pe_m1 PySem.F.slot_str_find PySem.F.type_str_find mFindC pe_str (pv 1)) pe_int (nomark _))) (fun _ _ _ _ _ => (pv 1))) (pe_lst pa_nil) (nomark _))))), ?_⟩
    cases o with
    | none => exact q_when (b := true) (et_or (b := true) (et_not (et_B (ev_isiX (c := "str") (r := false) (ev_var rfl) fun H1 e1 => (NotS.mono e1 hv).ty))) fun z => nomatch z) (fun _ H1 e1 => s_ret ev_c fun H2 e2 => q H2 (e1.trans e2)) fun z => nomatch z
    | some l =>
      obtain ⟨rfl, hl, hc⟩ := hv
      refine q_when (et_or (et_not (et_B (ev_isi (c := "str") (r := true) (ev_var rfl) rfl (by decide +kernel)))) fun _ => et_test (ev_gt (ev_lenC (ev_var rfl) (by omega)) ev_c)) (fun hb H1 e1 => s_ret ev_c fun H2 e2 => ?_) (fun hb H1 e1 => ?_)
      · have h14 : ¬ l.length ≤ 14 := by
          have := of_decide_eq_true (show decide ((14 : Int) < (l.length : Int)) = true from hb)
          omega
        have e0 : iswC (some l) = false := by
          show (decide (l.length ≤ 14) && l.all fun c => decide (c ∈ alph)) = false
          rw [decide_eq_false h14]
          rfl
        rw [e0] at q
        exact q H2 (e1.trans e2)
      · have h14 : l.length ≤ 14 := by
          have := of_decide_eq_false (show decide ((14 : Int) < (l.length : Int)) = false from hb)
          omega
        have e0 : iswC (some l) = (l.filter fun c => !decide (c ∈ alph)).isEmpty := by
          show (decide (l.length ≤ 14) && l.all fun c => decide (c ∈ alph)) = _
          rw [decide_eq_true h14, none_bad]
          rfl
        rw [e0] at q
        refine s_ret (ev_eqES ((rg_lcV l (fun c => V.str (S [c])) (fun c => !decide (c ∈ alph)) (fun c => V.str (S [c])) (src_str (ev_var rfl)) (by omega) (fun x => rfl) (fun c hc H1 e1 => et_is (et_test (ev_lt (ev_find (ev_cS alph_S) (ev_var rfl)) ev_c)) (findC_neg alph c)) (fun c hc _ H1 e1 => ev_var rfl)).imp fun v H2 _ p => ?_) fun c hc2 => ?_) fun H2 e2 => q H2 (e1.trans e2)
        · obtain ⟨p, e, _, h2⟩ := p
          exact ⟨p, e, h2⟩
        · have := hc c (List.mem_filter.mp hc2).1
          omega
/-! ### is_word -/
/-- a text with its codes, or what is none -/
def Thing (H : Hp) (v : V) : Option (List Nat) → Prop
  | some l => v = .str (S l) ∧ l.length ≤ 1000 ∧ ∀ c ∈ l, c < 1000
  | none => NotS H v
theorem Thing.mono {H H' : Hp} {v : V} (e : Ex H H') : ∀ {o : Option (List Nat)}, Thing H v o → Thing H' v o
  | some _, h => h
  | none, h => NotS.mono e h
def iswB : Option (List Nat) → Bool
  | some l => decide (l.length ≤ 14) && l.all fun c => decide (c ∈ alph)
  | none => false
def sp_is_word (K : PySem.W.Frag) : Sp := fun vs H Q _ => ∃ (v : V) (o : Option (List Nat)), vs = [v] ∧ Thing H v o ∧ RetV (.bl (iswB o)) H Q
theorem sv_is_word {K : PySem.W.Frag} {H : Hp} {v : V} {o : Option (List Nat)} (h : Thing H v o) : SpV (sp_is_word K) [v] H (.bl (iswB o)) := fun H1 e Q q E => ⟨v, o, rfl, h.mono e, q⟩
theorem ok_is_word (T : Tx mg) (D : Dfn K mg "is_word" s_is_word ["thing"])  : Cal P w K mg base 1 "is_word" ["thing"] (sp_is_word K) := by
  obtain ⟨f, fd, F, mF, bF⟩ := D.ex
  obtain ⟨t_LETTERS, g_LETTERS⟩ := T.g_LETTERS
  obtain ⟨t_LONGEST, g_LONGEST⟩ := T.g_LONGEST
  refine ⟨f, fd, F.ok sc_is_word (fun vs H Q E h => ?_) (fun cdv A outer s H vs Q E hr h => ?_), mF, F.kp, bF⟩
  · obtain ⟨v, o, rfl, hv, q⟩ := h
    rfl
  · have hu := hu_of hr
    obtain ⟨v, o, rfl, hv, q⟩ := h
    refine ⟨_, (pss_one (ps_ret (pe_and (pe_callB (show CallR _ (.builtin "isinstance") (rIsi K) from call_isi) (by rfl) T.m_isinstance (by decide +kernel) (pa_cons (pv 0) (pa_cons (pe_bltn (v := .ty "str") (by rfl) T.m_str (by decide +kernel) rfl) pa_nil))) (pe_and (pe_cmpR oLe (pe_callB cLenC (by rfl) T.m_len (by decide +kernel) (pa_cons (pv 0) pa_nil)) (pe_glob (v := .int 14) (by rfl) g_LONGEST ⟨_, rfl⟩) (nomark _)) (pe_one (pe_callB (show CallR _ (.builtin "all") (rAll K) from (cr_all rfl)) (by rfl) T.m_all (by decide +kernel) (pa_cons (pe_lc (own := [("sign", 1)]) (g := gName 1) rfl sc_is_word.nd (pi_str (pv 0)) (blkOk_by (own := [("sign", 1)]) (N := N_is_word) (sc := defScope s_is_word) (by decide +kernel)) (fun _ _ _ _ _ => pg_name (i := 1) sc_is_word.nd rfl (by first | exact Or.inl rfl | exact Or.inr rfl)) (fun _ _ _ _ _ => pts_nil) (fun _ _ _ _ _ => (pe_cmpR oInC (pv 1) (pe_glob (v := .str "abcdefghijklmnopqrstuvwxyz") (by rfl) g_LETTERS ⟨_, rfl⟩) (by rfl)))) pa_nil))))))), ?_⟩
    cases o with
    | none => exact s_ret (ev_andV (b := true) (ev_isiX (c := "str") (r := false) (ev_var rfl) fun H1 e1 => (NotS.mono e1 hv).ty) (fun z => nomatch z)) q
    | some l =>
      obtain ⟨rfl, hl, hc⟩ := hv
      refine s_ret (ev_is (ev_andV (ev_isi (c := "str") (r := true) (ev_var rfl) rfl (by decide +kernel)) fun _ => ev_andV (ev_le (ev_lenC (ev_var rfl) (by omega)) ev_c) fun _ => ev_all (bs := l.map fun c => decide (c ∈ alph)) ((rg_lcV l (fun c => V.str (S [c])) (fun _ => true) (fun c => V.bl (decide (c ∈ alph))) (src_str (ev_var rfl)) (by omega) (fun x => rfl) (fun c hc H1 e1 => et_yes) (fun c hc _ H1 e1 => ev_inC (ev_var rfl) (ev_cS alph_S))).imp fun v H2 _ p => ?_)) ?_) q
      · obtain ⟨p, e, _, h2⟩ := p
        rw [filter_yes] at h2
        rw [List.map_map]
        exact ⟨p, e, h2⟩
      · show V.bl (true && (decide ((l.length : Int) ≤ 14) && _)) = V.bl (iswB (some l))
        rw [Bool.true_and]
        unfold iswB
        rw [List.all_map, show decide ((l.length : Int) ≤ 14) = decide (l.length ≤ 14) from decide_eq_decide.mpr (by omega)]
        rfl
/-! ### _law_mixed -/
def hashD (x : Int) : Int := x * 48271 % 2147483647
def mixZ (ns : List Int) (k : Nat) : Int := (hashD (cellZ ns k + 7919 * (k : Int) + 1) * hashD (cellZ ns k + 7919 * (k : Int) + 1) + 7 * hashD (cellZ ns k + 7919 * (k : Int) + 1) + (k : Int)) % 2147483629
theorem hashD_lt (x : Int) : 0 ≤ hashD x ∧ hashD x < 2147483647 := ⟨Int.emod_nonneg _ (by decide), Int.emod_lt_of_pos _ (by decide)⟩
theorem mixZ_lt (ns : List Int) (k : Nat) : 0 ≤ mixZ ns k ∧ mixZ ns k < 2147483629 := ⟨Int.emod_nonneg _ (by decide), Int.emod_lt_of_pos _ (by decide)⟩
def sp_l_mixed (K : PySem.W.Frag) : Sp := fun vs H Q _ => ∃ (a : Addr) (ns : List Int) (k : Nat), vs = [.ref a, .int (k : Int)] ∧ SqL K H a (ns.map V.int) ∧ k < 1000 ∧ RetV (.int (mixZ ns k)) H Q
theorem sv_cell {K : PySem.W.Frag} {H : Hp} {a : Addr} {ns : List Int} {k : Nat} (h : SqL K H a (ns.map V.int)) : SpV (sp_l_cell_at K) [.ref a, .int (k : Int)] H (.int (cellZ ns k)) :=
  fun H1 e Q q E => ⟨a, ns, k, rfl, ex_l e h, q⟩
theorem sv_mixed {K : PySem.W.Frag} {H : Hp} {a : Addr} {ns : List Int} {k : Nat} (h : SqL K H a (ns.map V.int)) (hk : k < 1000) : SpV (sp_l_mixed K) [.ref a, .int (k : Int)] H (.int (mixZ ns k)) :=
  fun H1 e Q q E => ⟨a, ns, k, rfl, ex_l e h, hk, q⟩
theorem ok_l_mixed (T : Tx mg) (D : Dfn K mg "_law_mixed" s_l_mixed ["_law_script", "_law_k"]) (c_l_cell_at : Cal P w K mg base 1 "_law_cell_at" ["_law_script", "_law_k"] (sp_l_cell_at K)) : Cal P w K mg base 2 "_law_mixed" ["_law_script", "_law_k"] (sp_l_mixed K) := by
  obtain ⟨f, fd, F, mF, bF⟩ := D.ex
  obtain ⟨f_l_cell_at, fd_l_cell_at, G_l_cell_at, m_l_cell_at, k_l_cell_at, b_l_cell_at⟩ := c_l_cell_at.ex
  refine ⟨f, fd, F.ok sc_l_mixed (fun vs H Q E h => ?_) (fun cdv A outer s H vs Q E hr h => ?_), mF, F.kp, bF⟩
  · obtain ⟨a, ns, k, rfl, hS, hk, q⟩ := h
    rfl
  · have hu := hu_of hr
    obtain ⟨a, ns, k, rfl, hS, hk, q⟩ := h
    refine ⟨_, (pss_cons (ps_set (i := 2) sc_l_mixed.nd rfl (Or.inl rfl) (pe_op oMod (pe_op oMul (pe_op oAdd (pe_op oAdd (pe_call G_l_cell_at hr (by rfl) m_l_cell_at k_l_cell_at b_l_cell_at .nil pass0 (pa_cons (pv 0) (pa_cons (pv 1) pa_nil))) (pe_op oMul pe_int (pv 1))) pe_int) pe_int) pe_int))
      (pss_one (ps_ret (pe_op oMod (pe_op oAdd (pe_op oAdd (pe_op oMul (pv 2) (pv 2)) (pe_op oMul pe_int (pv 2))) (pv 1)) pe_int)))), ?_⟩
    have b := hashD_lt (cellZ ns k + 7919 * (k : Int) + 1)
    refine q_asg (ev_mod (ev_mul (ev_add (ev_add (ev_call (ea_cons (ev_var rfl) (ea_cons (ev_var rfl) ea_nil)) (sv_cell hS)) (ev_mul ev_c (ev_var rfl) (.inl (by omega)))) ev_c) ev_c (.inr (by omega))) ev_c (by omega)) fun H1 e1 => ?_
    exact s_ret (ev_mod (ev_add (ev_add (ev_mul (ev_var rfl) (ev_var rfl) (.inl (by show _ < hashD _ ∧ hashD _ < _; omega))) (ev_mul ev_c (ev_var rfl) (.inl (by omega)))) (ev_var rfl)) ev_c (by omega)) fun H2 e2 => q H2 (e1.trans e2)
/-! ### _law_text -/
def sp_l_text (K : PySem.W.Frag) : Sp := fun vs H Q _ => ∃ (n : Int) (m : Nat), vs = [.int n, .int (m : Int)] ∧ m ≤ 100 ∧ ∀ l : List Nat, l.length ≤ m → az l → RetV (.str (S l)) H Q
theorem letters_at (j : Nat) (h : j < 8) : ∃ zl : List Nat, ([V.str "a", V.str "ab", V.str "ab", V.str "abc", V.str "abcd", V.str "xyz", V.str "bm", V.str "abcdefghijklmnopqrstuvwxyz"] : List V)[j]? = some (.str (S zl)) ∧ 0 < zl.length ∧ zl.length ≤ 26 ∧ az zl := by
  match j, h with
  | 0, _ => exact ⟨[97], by decide +kernel, by decide, by decide, by unfold az; decide⟩
  | 1, _ => exact ⟨[97, 98], by decide +kernel, by decide, by decide, by unfold az; decide⟩
  | 2, _ => exact ⟨[97, 98], by decide +kernel, by decide, by decide, by unfold az; decide⟩
  | 3, _ => exact ⟨[97, 98, 99], by decide +kernel, by decide, by decide, by unfold az; decide⟩
  | 4, _ => exact ⟨[97, 98, 99, 100], by decide +kernel, by decide, by decide, by unfold az; decide⟩
  | 5, _ => exact ⟨[120, 121, 122], by decide +kernel, by decide, by decide, by unfold az; decide⟩
  | 6, _ => exact ⟨[98, 109], by decide +kernel, by decide, by decide, by unfold az; decide⟩
  | 7, _ => exact ⟨[97, 98, 99, 100, 101, 102, 103, 104, 105, 106, 107, 108, 109, 110, 111, 112, 113, 114, 115, 116, 117, 118, 119, 120, 121, 122], by decide +kernel, by decide, by decide, by unfold az; decide⟩
theorem sv_text {K : PySem.W.Frag} {H : Hp} {n : Int} {m : Nat} (hm : m ≤ 100) : SpP (sp_l_text K) [.int n, .int (m : Int)] H (fun v _ => ∃ l, v = .str (S l) ∧ l.length ≤ m ∧ az l) :=
  fun H1 e Q q E => ⟨n, m, rfl, hm, fun l h1 h2 H2 e2 => q _ H2 e2 ⟨l, rfl, h1, h2⟩⟩
theorem ok_l_text (T : Tx mg) (D : Dfn K mg "_law_text" s_l_text ["_law_number", "_law_most"]) (c_l_drawn : Cal P w K mg base 1 "_law_drawn" ["_law_number", "_law_k"] (sp_l_drawn K)) : Cal P w K mg base 2 "_law_text" ["_law_number", "_law_most"] (sp_l_text K) := by
  obtain ⟨f, fd, F, mF, bF⟩ := D.ex
  obtain ⟨f_l_drawn, fd_l_drawn, G_l_drawn, m_l_drawn, k_l_drawn, b_l_drawn⟩ := c_l_drawn.ex
  refine ⟨f, fd, F.ok sc_l_text (fun vs H Q E h => ?_) (fun cdv A outer s H vs Q E hr h => ?_), mF, F.kp, bF⟩
  · obtain ⟨n, m, rfl, hm, q⟩ := h
    rfl
  · have hu := hu_of hr
    obtain ⟨n, m, rfl, hm, q⟩ := h
    refine ⟨_, (pss_cons (ps_set (i := 2) sc_l_text.nd rfl (Or.inl rfl) (pe_ix (show IxR _ (rIxT K) from ix_tup) (pe_tup (pa_cons pe_str (pa_cons pe_str (pa_cons pe_str (pa_cons pe_str (pa_cons pe_str (pa_cons pe_str (pa_cons pe_str (pa_cons pe_str pa_nil))))))))) (pe_op oMod (pv 0) pe_int) (fun _ _ => rfl)))
      (pss_cons (ps_set (i := 3) sc_l_text.nd rfl (Or.inl rfl) (pe_op oMod (pe_op oDiv (pv 0) pe_int) (pe_op oAdd (pv 1) pe_int)))
      (pss_cons (ps_set (i := 4) sc_l_text.nd rfl (Or.inl rfl) pe_str)
      (pss_cons (ps_for PassesOwn.never rfl (pi_range1 (by rfl) T.m_range (pa_cons (pv 3) pa_nil)) (pg_name (i := 5) sc_l_text.nd rfl (by first | exact Or.inl rfl | exact Or.inr rfl))
        (pss_one (ps_set (i := 4) sc_l_text.nd rfl (Or.inl rfl) (pe_op oCat (pv 4) (pe_ix iStrC (pv 2) (pe_op oMod (pe_call G_l_drawn hr (by rfl) m_l_drawn k_l_drawn b_l_drawn .nil pass0 (pa_cons (pv 0) (pa_cons (pv 5) pa_nil))) (pe_callB cLenC (by rfl) T.m_len (by decide +kernel) (pa_cons (pv 2) pa_nil))) (fun _ _ => rfl))))))
      (pss_cons (ps_if (PW.pt (pw_and (pt_cmpR oEq (pe_op oMod (pe_op oDiv (pv 0) pe_int) pe_int) pe_int (nomark _)) (pw_and1 (pt_cmpR oGt (pv 3) pe_int (nomark _))))) (pss_cons (ps_set (i := 6) sc_l_text.nd rfl (Or.inl rfl) (pe_op oAdd pe_int (pe_op oMod (pe_op oDiv (pv 0) pe_int) (pe_op oSub (pv 3) pe_int))))
        (pss_one (ps_set (i := 4) sc_l_text.nd rfl (Or.inl rfl) (pe_slice slStr (pe_op oRep (pe_slice slStr (pv 4) po_none (po_some (pv 6))) (pv 3)) po_none (po_some (pv 3)))))) pss_nil)
      (pss_one (ps_ret (pv 4)))))))), ?_⟩
    have h8 : 0 ≤ n % 8 ∧ n % 8 < 8 := ⟨Int.emod_nonneg _ (by decide), Int.emod_lt_of_pos _ (by decide)⟩
    obtain ⟨zl, hz, hz0, hz26, hza⟩ := letters_at (n % 8).toNat (by omega)
    refine q_asg (ev_menuT (by repeat (first | exact ea_nil | refine ea_cons ev_c ?_)) (by decide) (ev_mod (ev_var rfl) ev_c (by omega)) (atI_int h8.1 hz)) fun H1 e1 => ?_
    obtain ⟨g, hg, hgm⟩ : ∃ g : Nat, n / 8 % ((m : Int) + 1) = (g : Int) ∧ g ≤ m := by
      have a1 : 0 ≤ n / 8 % ((m : Int) + 1) := Int.emod_nonneg _ (by omega)
      have a2 : n / 8 % ((m : Int) + 1) < (m : Int) + 1 := Int.emod_lt_of_pos _ (by omega)
      exact ⟨(n / 8 % ((m : Int) + 1)).toNat, by omega, by omega⟩
    refine q_asg (ev_is (ev_mod (ev_div (ev_var rfl) ev_c (by omega)) (ev_add (ev_var rfl) ev_c) (by omega)) (congrArg V.int hg)) fun H2 e2 => ?_
    refine q_asg (ev_cS empty_S) fun H3 e3 => ?_
    refine q_forR1 (ea_cons (ev_var rfl) ea_nil) (by omega) (fun i σ' H' => Ex H H' ∧ ∃ (l : List Nat) (kv : Option V), σ' = [some (.int n), some (.int (m : Int)), some (.str (S zl)), some (.int (g : Int)), some (.str (S l)), kv, none] ∧ l.length = i ∧ az l)
      (fun H4 e4 => ⟨((e1.trans e2).trans e3).trans e4, [], none, rfl, rfl, az_nil⟩) ?_ ?_
    · rintro i σ' H' hi ⟨ex, l, kv, rfl, hl, ha⟩
      have d1 : 0 ≤ drawZ n i % (zl.length : Int) := Int.emod_nonneg _ (by omega)
      have d2 : drawZ n i % (zl.length : Int) < (zl.length : Int) := Int.emod_lt_of_pos _ (by omega)
      have hc : (drawZ n i % (zl.length : Int)).toNat < zl.length := by omega
      refine s_asg (ev_cat (ev_var rfl) (ev_ixC (ev_var rfl) (ev_nat (ev_mod (ev_call (ea_cons (ev_var rfl) (ea_cons (ev_var rfl) ea_nil)) (sv_drawn (by omega))) (ev_lenC (ev_var rfl) (by omega)) (by omega)) d1) (by omega) (List.getElem?_eq_getElem hc)) (by show l.length + 1 ≤ _; omega)) fun H4 e4 => ⟨ex.trans e4, l ++ [zl[(drawZ n i % (zl.length : Int)).toNat]], some (.int (i : Int)), rfl, by simp [hl], az_app ha fun c hc => ?_⟩
      rw [List.mem_singleton.mp hc]
      exact hza _ (List.getElem_mem _)
    · rintro σ' H' ⟨ex, l, kv, rfl, hl, ha⟩
      have hl2 : l.length = g := by rw [hl]; omega
      refine q_when (et_and (et_test (ev_eqI (ev_mod (ev_div (ev_var rfl) ev_c (by omega)) ev_c (by omega)) ev_c)) fun _ => et_test (ev_gt (ev_var rfl) ev_c)) (fun hb H4 e4 => ?_) (fun hb H4 e4 => ?_)
      · have hb2 := (Bool.and_eq_true _ _ ▸ hb : _ ∧ _).2
        have hg1 : 1 < g := by
          have := of_decide_eq_true hb2
          omega
        have f1 : 0 ≤ n / 2400 % ((g : Int) - 1) := Int.emod_nonneg _ (by omega)
        have f2 : n / 2400 % ((g : Int) - 1) < (g : Int) - 1 := Int.emod_lt_of_pos _ (by omega)
        refine q_asg (ev_nat (ev_add ev_c (ev_mod (ev_div (ev_var rfl) ev_c (by omega)) (ev_sub (ev_var rfl) ev_c) (by omega))) (by omega)) fun H5 e5 => ?_
        have k1 : (l.take (1 + n / 2400 % ((g : Int) - 1)).toNat).length ≤ 100 := by
          rw [List.length_take]
          omega
        have k2 : (l.take (1 + n / 2400 % ((g : Int) - 1)).toNat).length * g ≤ 100 * 100 := Nat.mul_le_mul k1 (by omega)
        refine s_asg (ev_slTo (ev_rep (ev_slTo (ev_var rfl) (ev_var rfl) (by omega)) (ev_var rfl) ⟨by omega, by omega⟩) (ev_var rfl) (by simp; rw [List.length_take] at k2; rw [Nat.mul_comm]; omega)) fun H6 e6 => ?_
        refine s_ret (ev_var rfl) fun H7 e7 => q _ ?_ (az_take _ (az_rep _ (az_take _ ha))) H7 ((((ex.trans e4).trans e5).trans e6).trans e7)
        rw [List.length_take]
        omega
      · exact s_ret (ev_var rfl) fun H7 e7 => q l (by omega) ha H7 ((ex.trans e4).trans e7)
/-! ### law -/
--CUT 3 4 5
def sp_law (K : PySem.W.Frag) : Sp := fun vs H Q _ => ∃ (a : Addr) (ns : List Int), vs = [.ref a] ∧ SqL K H a (ns.map V.int) ∧ ns.length ≤ 63 ∧ ∀ H', Q (.bl true) H'
theorem thing2_of {H : Hp} {v : V} : ∀ {o : Option (List Nat)}, Thing H v o → Thing2 H v o
  | some _, h => h
  | none, h => h
theorem isw_same : ∀ o : Option (List Nat), iswB o = iswC o
  | some _ => rfl
  | none => rfl
theorem ab_S : ("ab" : Str) = S [97, 98] := by decide +kernel
theorem odd_S : ("A0 -_zaZ{`\n\t" : Str) = S [65, 48, 32, 45, 95, 122, 97, 90, 123, 96, 10, 9] := by decide +kernel
theorem odd_at (i : Nat) (h : i < 12) : ∃ c, ([65, 48, 32, 45, 95, 122, 97, 90, 123, 96, 10, 9] : List Nat)[i]? = some c ∧ c < 1000 := by
  have : ∀ i ∈ List.range 12, ∃ c, ([65, 48, 32, 45, 95, 122, 97, 90, 123, 96, 10, 9] : List Nat)[i]? = some c ∧ c < 1000 := by
    intro i hi
    rw [List.mem_range] at hi
    have hl : ([65, 48, 32, 45, 95, 122, 97, 90, 123, 96, 10, 9] : List Nat).length = 12 := rfl
    refine ⟨_, List.getElem?_eq_getElem (by rw [hl]; exact hi), ?_⟩
    have h2 : ∀ c ∈ ([65, 48, 32, 45, 95, 122, 97, 90, 123, 96, 10, 9] : List Nat), c < 1000 := by decide
    exact h2 _ (List.getElem_mem _)
  exact this i (List.mem_range.mpr h)
def asc (l : List Nat) : Prop := ∀ c ∈ l, c < 1000
theorem asc_app {a b : List Nat} (h1 : asc a) (h2 : asc b) : asc (a ++ b) := fun c hc => (List.mem_append.mp hc).elim (h1 c) (h2 c)
theorem asc_take {a : List Nat} (n : Nat) (h : asc a) : asc (a.take n) := fun c hc => h c (List.mem_of_mem_take hc)
theorem asc_drop {a : List Nat} (n : Nat) (h : asc a) : asc (a.drop n) := fun c hc => h c (List.mem_of_mem_drop hc)
theorem asc_rep {a : List Nat} (n : Nat) (h : asc a) : asc (List.replicate n a).flatten := fun c hc => by
  obtain ⟨l, hl, hc⟩ := List.mem_flatten.mp hc
  rw [List.eq_of_mem_replicate hl] at hc
  exact h c hc
theorem asc_ab : asc [97, 98] := by unfold asc; decide
theorem mod_to (x : Int) (m : Nat) (h : 0 < m) : ∃ r : Nat, x % (m : Int) = (r : Int) ∧ r < m := by
  have a1 : 0 ≤ x % (m : Int) := Int.emod_nonneg _ (by omega)
  have a2 : x % (m : Int) < (m : Int) := Int.emod_lt_of_pos _ (by omega)
  exact ⟨(x % (m : Int)).toNat, by omega, by omega⟩
/-- a list of things, made from the left -/
def RgA (k : Hp → (List V → Hp → Prop) → Prop) (H : Hp) (P : List V → Hp → Prop) : Prop := ∀ H1, Ex H H1 → ∀ Q : List V → Hp → Prop, (∀ vs H2, Ex H1 H2 → P vs H2 → Q vs H2) → k H1 Q
def Things (vs : List V) (H : Hp) : Prop := ∀ v ∈ vs, ∃ o, Thing H v o
theorem things_nil {σ : L2.St} {H : Hp} {n : Nat} (hn : n = 0) : RgA (tNil σ) H (fun vs H2 => vs.length = n ∧ Things vs H2) := fun H1 e Q q => q [] H1 (Ex.refl H1) ⟨hn ▸ rfl, fun v hv => nomatch hv⟩
theorem things_cons {σ : L2.St} {H : Hp} {te : TE} {tr : TA} {n : Nat} (h : Rg (te σ) H (fun v H2 => ∃ o, Thing H2 v o)) (hr : ∀ H1, Ex H H1 → RgA (tr σ) H1 (fun vs H2 => vs.length = n ∧ Things vs H2)) : RgA (tCons te tr σ) H (fun vs H2 => vs.length = n + 1 ∧ Things vs H2) := fun H1 e Q q =>
  h H1 e _ fun v H2 e2 p => hr H2 (e.trans e2) H2 (Ex.refl H2) _ fun vs H3 e3 pv => q _ H3 (e2.trans e3) ⟨by rw [List.length_cons, pv.1], fun x hx => by
    rcases List.mem_cons.mp hx with z | hx
    · subst z
      obtain ⟨o, ho⟩ := p
      exact ⟨o, ho.mono e3⟩
    · exact pv.2 x hx⟩
theorem thing_ev {σ : L2.St} {H : Hp} {te : TE} {v : V} (h : Ev te σ H v) (hv : NotS H v) : Rg (te σ) H (fun v H2 => ∃ o, Thing H2 v o) := fun H1 e Q q => h H1 e _ fun H2 e2 => q _ H2 e2 ⟨none, NotS.mono (e.trans e2) hv⟩
theorem thing_tup {σ : L2.St} {H : Hp} {tA : TA} {vs : List V} (h : EvA tA σ H vs) (hl : vs.length ≤ 1000) : Rg (tTup tA σ) H (fun v H2 => ∃ o, Thing H2 v o) := fun H1 e Q q =>
  h H1 e _ fun H2 e2 => ⟨sz (by omega), fun p hp => q _ _ (e2.trans (Ex.new hp)) ⟨none, .inr (.inr (.inr (.inl ⟨p, vs, rfl, upd_same⟩)))⟩⟩
theorem thing_lst {σ : L2.St} {H : Hp} {tA : TA} {vs : List V} (h : EvA tA σ H vs) (hl : vs.length ≤ 1000) : Rg (tLst tA σ) H (fun v H2 => ∃ o, Thing H2 v o) := fun H1 e Q q =>
  h H1 e _ fun H2 e2 => ⟨sz (by omega), fun p hp => q _ _ (e2.trans (Ex.new hp)) ⟨none, .inr (.inr (.inr (.inr ⟨p, vs, rfl, upd_same⟩)))⟩⟩
theorem thing_listC {σ : L2.St} {H : Hp} {ta : TE} {l : List Nat} (h : Ev ta σ H (.str (S l))) (hl : l.length ≤ 1000) : Rg (tCB rListC (tCons ta tNil) σ) H (fun v H2 => ∃ o, Thing H2 v o) := fun H1 e Q q =>
  h H1 e _ fun H2 e2 => ⟨l, rfl, by omega, fun p hp => q _ _ (e2.trans (Ex.new hp)) ⟨none, .inr (.inr (.inr (.inr ⟨p, _, rfl, upd_same⟩)))⟩⟩
theorem rg_menu {K : PySem.W.Frag} {σ : L2.St} {H : Hp} {tA : TA} {tb : TE} {n i : Nat} (h : RgA (tA σ) H (fun vs H2 => vs.length = n ∧ Things vs H2)) (hb : Ev tb σ H (.int (i : Int))) (hi : i < n) (hn : n ≤ 1000) :
    Rg (tOp (rIxL K) (tLst tA) tb σ) H (fun v H2 => ∃ o, Thing H2 v o) := fun H1 e Q q =>
  h H1 e _ fun vs H2 e2 pv => ⟨sz (by omega), fun p hp => hb _ ((e.trans e2).trans (Ex.new hp)) _ fun H4 e4 => by
    have f := (Ex.new hp (o := .lst vs)).trans e4
    obtain ⟨o, ho⟩ := pv.2 (vs[i]'(by omega)) (List.getElem_mem _)
    exact ⟨p, vs, i, _, rfl, rfl, ex_l e4 (sq_of upd_same), atI_nat (List.getElem?_eq_getElem (by omega)), q _ H4 (e2.trans f) ⟨o, ho.mono f⟩⟩⟩
theorem ok_law (T : Tx mg) {f : Addr} {fd : FuncData} (F : Fun K "law" "law" s_law f fd) (c_l_is_word : Cal P w K mg base 1 "_law_is_word" ["_law_thing"] (sp_l_is_word K)) (c_is_word : Cal P w K mg base 1 "is_word" ["thing"] (sp_is_word K)) (c_l_mixed : Cal P w K mg base 2 "_law_mixed" ["_law_script", "_law_k"] (sp_l_mixed K)) (c_l_text : Cal P w K mg base 2 "_law_text" ["_law_number", "_law_most"] (sp_l_text K)) : FnOk P w K mg base CX0 3 f fd ["_law_script"] (sp_law K) := by
  obtain ⟨f_l_is_word, fd_l_is_word, G_l_is_word, m_l_is_word, k_l_is_word, b_l_is_word⟩ := c_l_is_word.ex
  obtain ⟨f_is_word, fd_is_word, G_is_word, m_is_word, k_is_word, b_is_word⟩ := c_is_word.ex
  obtain ⟨f_l_mixed, fd_l_mixed, G_l_mixed, m_l_mixed, k_l_mixed, b_l_mixed⟩ := c_l_mixed.ex
  obtain ⟨f_l_text, fd_l_text, G_l_text, m_l_text, k_l_text, b_l_text⟩ := c_l_text.ex
  refine F.ok sc_law (fun vs H Q E h => ?_) (fun cdv A outer s H vs Q E hr h => ?_)
  · obtain ⟨a, ns, rfl, hS, hlen, q⟩ := h
    rfl
  · have hu := hu_of hr
    obtain ⟨a, ns, rfl, hS, hlen, q⟩ := h
    refine ⟨_, (pss_cons (ps_set (i := 1) sc_law.nd rfl (Or.inl rfl) (pe_call G_l_text hr (by rfl) m_l_text k_l_text b_l_text .nil pass0 (pa_cons (pe_call G_l_mixed hr (by rfl) m_l_mixed k_l_mixed b_l_mixed .nil pass0 (pa_cons (pv 0) (pa_cons pe_int pa_nil))) (pa_cons pe_int pa_nil))))
      (pss_cons (ps_set (i := 2) sc_law.nd rfl (Or.inl rfl) (pe_call G_l_mixed hr (by rfl) m_l_mixed k_l_mixed b_l_mixed .nil pass0 (pa_cons (pv 0) (pa_cons pe_int pa_nil))))
      (pss_cons (ps_set (i := 3) sc_law.nd rfl (Or.inl rfl) (pe_op oMod (pe_op oDiv (pv 2) pe_int) (pe_op oAdd (pe_callB cLenC (by rfl) T.m_len (by decide +kernel) (pa_cons (pv 1) pa_nil)) pe_int)))
      (pss_cut (ps_if (pt_cmpR oEq (pe_op oMod (pv 2) pe_int) pe_int (nomark _)) (pss_cons (ps_set (i := 4) sc_law.nd rfl (Or.inl rfl) (pe_ix iStrC pe_str (pe_op oMod (pe_op oDiv (pv 2) pe_int) pe_int) (fun _ _ => rfl)))
        (pss_one (ps_set (i := 1) sc_law.nd rfl (Or.inl rfl) (pe_op oCat (pe_op oCat (pe_slice slStr (pv 1) po_none (po_some (pv 3))) (pv 4)) (pe_slice slStr (pv 1) (po_some (pe_op oAdd (pv 3) (pe_op oMod (pe_op oDiv (pv 2) pe_int) pe_int))) po_none))))) pss_nil)
      (pss_cut (ps_if (pt_cmpR oEq (pe_op oMod (pv 2) pe_int) pe_int (nomark _)) (pss_cons (ps_set (i := 1) sc_law.nd rfl (Or.inl rfl) (pe_op oRep (pe_op oCat (pv 1) pe_str) pe_int))
        (pss_one (ps_set (i := 1) sc_law.nd rfl (Or.inl rfl) (pe_slice slStr (pv 1) po_none (po_some (pe_op oAdd pe_int (pe_op oMod (pe_op oDiv (pv 2) pe_int) pe_int))))))) pss_nil)
      (pss_cut (ps_if (pt_cmpR oEq (pe_op oMod (pv 2) pe_int) pe_int (nomark _)) (pss_one (ps_set (i := 1) sc_law.nd rfl (Or.inl rfl) (pe_ix (show IxR _ (rIxL K) from ix_list) (pe_lst (pa_cons pe_non (pa_cons pe_bl (pa_cons pe_int (pa_cons (pe_tup pa_nil) (pa_cons (pe_tup (pa_cons (pv 1) pa_nil)) (pa_cons (pe_tup (pa_cons pe_str pa_nil)) (pa_cons (pe_callTy (cListC rfl) (by rfl) T.m_list (by decide +kernel) (pa_cons (pv 1) pa_nil)) (pa_cons (pe_un un_neg pe_int) (pa_cons (pe_lst pa_nil) (pa_cons (pe_tup (pa_cons pe_int (pa_cons pe_int pa_nil))) pa_nil))))))))))) (pe_op oMod (pe_op oDiv (pv 2) pe_int) pe_int) (fun _ _ => rfl)))) pss_nil)
      (pss_cons (ps_set (i := 5) sc_law.nd rfl (Or.inl rfl) (pe_call G_is_word (hr.mono (by decide)) (by rfl) m_is_word k_is_word b_is_word .nil pass0 (pa_cons (pv 1) pa_nil)))
      (pss_one (ps_ret (pe_and (pe_callB (show CallR _ (.builtin "isinstance") (rIsi K) from call_isi) (by rfl) T.m_isinstance (by decide +kernel) (pa_cons (pv 5) (pa_cons (pe_bltn (v := .ty "bool") (by rfl) T.m_bool (by decide +kernel) rfl) pa_nil))) (pe_one (pe_cmpR oEq (pv 5) (pe_call G_l_is_word (hr.mono (by decide)) (by rfl) m_l_is_word k_l_is_word b_l_is_word .nil pass0 (pa_cons (pv 1) pa_nil)) (nomark _))))))))))))), ?_⟩
    refine q_asgR (rg_call (ea_cons (ev_call (ea_cons (ev_var rfl) (ea_cons (ev_cn (n := 0)) ea_nil)) (sv_mixed hS (by omega))) (ea_cons (ev_cn (n := 14)) ea_nil)) (sv_text (by omega))) fun v H1 e1 p => ?_
    obtain ⟨l, rfl, hl, hz⟩ := p
    refine q_asg (ev_call (ea_cons (ev_var rfl) (ea_cons (ev_cn (n := 1)) ea_nil)) (sv_mixed (ex_l e1 hS) (by omega))) fun H2 e2 => ?_
    have E2 := e1.trans e2
    generalize mixZ ns 1 = n
    obtain ⟨pl, hpl, hpl2⟩ := mod_to (n / 16) (l.length + 1) (by omega)
    refine q_asg (ev_is (ev_mod (ev_div (ev_var rfl) ev_c (by omega)) (ev_addn (b := 1) (ev_lenC (ev_var rfl) (by omega)) ev_c) (by omega)) (congrArg V.int hpl)) fun H3 e3 => ?_
    have E3 := E2.trans e3
    have hasc : asc l := fun c hc => by have := hz c hc; omega
    -- a sign put in or exchanged
    refine q_cut (M := fun σ' H' => Ex H H' ∧ ∃ (l : List Nat) (x4 : Option V), l.length ≤ 15 ∧ asc l ∧ σ' = [some (.ref a), some (.str (S l)), some (.int n), some (.int (pl : Int)), x4, none])
      (s_when (et_test (ev_eqI (ev_mod (ev_var rfl) ev_c (by omega)) ev_c)) (fun _ H4 e4 => ?_) (fun _ H4 e4 => ⟨E3.trans e4, l, none, by omega, hasc, rfl⟩)) ?_
    · obtain ⟨i, hi, hi2⟩ := mod_to (n / 400) 12 (by omega)
      obtain ⟨c, hc, hc2⟩ := odd_at i hi2
      refine q_asg (ev_ixC (ev_cS odd_S) (ev_is (ev_mod (ev_div (ev_var rfl) ev_c (by omega)) ev_c (by omega)) (congrArg V.int hi)) (by decide) hc) fun H5 e5 => ?_
      obtain ⟨j, hj, hj2⟩ := mod_to (n / 5000) 2 (by omega)
      have k1 : (l.take pl).length ≤ l.length := by rw [List.length_take]; omega
      have k2 : (l.drop (pl + j)).length ≤ l.length := by rw [List.length_drop]; omega
      refine s_asg (ev_cat (ev_cat (ev_slTo (ev_var rfl) (ev_var rfl) (by omega)) (ev_var rfl) (by show _ + 1 ≤ _; omega)) (ev_slFrom (ev_var rfl) (ev_addn (ev_var rfl) (ev_is (ev_mod (ev_div (ev_var rfl) ev_c (by omega)) ev_c (by omega)) (congrArg V.int hj))) (by omega)) (by rw [List.length_append]; show _ + 1 + _ ≤ _; omega)) fun H6 e6 => ⟨((E3.trans e4).trans e5).trans e6, _, _, ?_, asc_app (asc_app (asc_take _ hasc) fun d hd => by rw [List.mem_singleton.mp hd]; exact hc2) (asc_drop _ hasc), rfl⟩
      rw [List.length_append, List.length_append, List.length_take, List.length_drop]
      show _ + 1 + _ ≤ _
      omega
    rintro σ' H4 ⟨E4, l, x4, hl, hasc, rfl⟩
    -- thirteen to sixteen letters
    refine q_cut (M := fun σ' H' => Ex H H' ∧ ∃ (l : List Nat) (x4 : Option V), l.length ≤ 16 ∧ asc l ∧ σ' = [some (.ref a), some (.str (S l)), some (.int n), some (.int (pl : Int)), x4, none])
      (s_when (et_test (ev_eqI (ev_mod (ev_var rfl) ev_c (by omega)) ev_c)) (fun _ H5 e5 => ?_) (fun _ H5 e5 => ⟨E4.trans e5, l, x4, by omega, hasc, rfl⟩)) ?_
    · have k0 : (l ++ [97, 98]).length = l.length + 2 := by rw [List.length_append]; rfl
      refine q_asg (ev_rep (n := 8) (ev_cat (ev_var rfl) (ev_cS ab_S) (by show _ + 2 ≤ _; omega)) ev_c ⟨by omega, by omega⟩) fun H6 e6 => ?_
      obtain ⟨j, hj, hj2⟩ := mod_to (n / 16) 4 (by omega)
      have k3 : (List.replicate 8 (l ++ [97, 98])).flatten.length = 8 * (l ++ [97, 98]).length := rep_flat_len 8 _
      refine s_asg (ev_slTo (n := 13 + j) (ev_var rfl) (ev_is (ev_add ev_c (ev_mod (ev_div (ev_var rfl) ev_c (by omega)) ev_c (by omega))) (congrArg V.int (by rw [show n / 16 % 4 = (j : Int) from hj]; omega))) (by omega)) fun H7 e7 => ⟨((E4.trans e5).trans e6).trans e7, _, _, ?_, asc_take _ (asc_rep _ (asc_app hasc asc_ab)), rfl⟩
      rw [List.length_take]
      omega
    clear hl hasc
    rintro σ' H5 ⟨E5, l, x4, hl, hasc, rfl⟩
    -- a thing that is none
    refine q_cut (M := fun σ' H' => Ex H H' ∧ ∃ (v : V) (o : Option (List Nat)) (x4 : Option V), Thing H' v o ∧ σ' = [some (.ref a), some v, some (.int n), some (.int (pl : Int)), x4, none])
      (s_when (et_test (ev_eqI (ev_mod (ev_var rfl) ev_c (by omega)) ev_c)) (fun _ H6 e6 => ?_) (fun _ H6 e6 => ⟨E5.trans e6, .str (S l), some l, x4, ⟨rfl, by omega, hasc⟩, rfl⟩)) ?_
    · obtain ⟨j, hj, hj2⟩ := mod_to (n / 16) 10 (by omega)
      refine s_asgR (rg_menu (i := j) (n := 10) (things_cons (thing_ev ev_c (.inl rfl)) fun _ _ => things_cons (thing_ev ev_c (.inr (.inl ⟨_, rfl⟩))) fun _ _ => things_cons (thing_ev ev_c (.inr (.inr (.inl ⟨_, rfl⟩)))) fun _ _ => things_cons (thing_tup ea_nil (by decide)) fun _ _ =>
        things_cons (thing_tup (ea_cons (ev_var rfl) ea_nil) (by show 1 ≤ 1000; decide)) fun _ _ => things_cons (thing_tup (ea_cons ev_c ea_nil) (by decide)) fun _ _ => things_cons (thing_listC (ev_var rfl) (by omega)) fun _ _ => things_cons (thing_ev (ev_un ev_c ru_neg) (.inr (.inr (.inl ⟨_, rfl⟩)))) fun _ _ =>
        things_cons (thing_lst ea_nil (by decide)) fun _ _ => things_cons (thing_tup (ea_cons ev_c (ea_cons ev_c ea_nil)) (by decide)) fun _ _ => things_nil rfl) (ev_is (ev_mod (ev_div (ev_var rfl) ev_c (by omega)) ev_c (by omega)) (congrArg V.int hj)) hj2 (by decide)) fun v H7 e7 p => ?_
      obtain ⟨o, ho⟩ := p
      exact ⟨(E5.trans e6).trans e7, v, o, x4, ho, rfl⟩
    rintro σ' H6 ⟨E6, v, o, x4, ho, rfl⟩
    refine q_asg (ev_call (ea_cons (ev_var rfl) ea_nil) (sv_is_word ho)) fun H7 e7 => ?_
    refine s_ret (ev_andV (ev_isi (c := "bool") (r := true) (ev_var rfl) rfl (by decide +kernel)) fun _ => ev_eqB (ev_var rfl) (ev_call (ea_cons (ev_var rfl) ea_nil) (sv_l_is_word (thing2_of (ho.mono e7))))) fun H8 e8 => ?_
    rw [isw_same o, beq_self_eq_true]
    exact q _
end
theorem all_mk {l : PySem.W.OpenLaw} {w : World} {K : PySem.W.Frag} {h : Heap} {mg : Str → Option Value} {fa : Addr} (X : K.In h) (G : h.Ns mainGlobals mg) (hfa : mg "law" = some (.ref fa))
    {f0 : Addr} {od0 an0 : Option Addr} {sl0 : Array (Option Value)} {oc0 kV0 dc0 pm0 cd0 ct0 : Value}
    {f1 : Addr} {od1 an1 : Option Addr} {sl1 : Array (Option Value)} {oc1 kV1 dc1 pm1 cd1 ct1 : Value}
    {f2 : Addr} {od2 an2 : Option Addr} {sl2 : Array (Option Value)} {oc2 kV2 dc2 pm2 cd2 ct2 : Value}
    {f3 : Addr} {od3 an3 : Option Addr} {sl3 : Array (Option Value)} {oc3 kV3 dc3 pm3 cd3 ct3 : Value}
    {f4 : Addr} {od4 an4 : Option Addr} {sl4 : Array (Option Value)} {oc4 kV4 dc4 pm4 cd4 ct4 : Value}
    {f5 : Addr} {od5 an5 : Option Addr} {sl5 : Array (Option Value)} {oc5 kV5 dc5 pm5 cd5 ct5 : Value}
    {f6 : Addr} {od6 an6 : Option Addr} {sl6 : Array (Option Value)} {oc6 kV6 dc6 pm6 cd6 ct6 : Value}
    (a0 : PySem.W.nsIn K mainGlobals "_law_cell_at" = some (some (.ref f0))) (l0 : K.lookup f0 = some ⟨oc0, od0, .func (PySem.W.fnOf "_law_cell_at" "_law_cell_at" (defArgs s_l_cell_at) (defBody s_l_cell_at) (defScope s_l_cell_at) .none kV0 dc0 pm0 an0 cd0 ct0), sl0⟩) (c0 : PySem.W.codeIn K cd0 "_law_cell_at" = true) (k0 : PySem.W.keepIn K (.ref f0) = true)
    (a1 : PySem.W.nsIn K mainGlobals "_law_drawn" = some (some (.ref f1))) (l1 : K.lookup f1 = some ⟨oc1, od1, .func (PySem.W.fnOf "_law_drawn" "_law_drawn" (defArgs s_l_drawn) (defBody s_l_drawn) (defScope s_l_drawn) .none kV1 dc1 pm1 an1 cd1 ct1), sl1⟩) (c1 : PySem.W.codeIn K cd1 "_law_drawn" = true) (k1 : PySem.W.keepIn K (.ref f1) = true)
    (a2 : PySem.W.nsIn K mainGlobals "_law_is_word" = some (some (.ref f2))) (l2 : K.lookup f2 = some ⟨oc2, od2, .func (PySem.W.fnOf "_law_is_word" "_law_is_word" (defArgs s_l_is_word) (defBody s_l_is_word) (defScope s_l_is_word) .none kV2 dc2 pm2 an2 cd2 ct2), sl2⟩) (c2 : PySem.W.codeIn K cd2 "_law_is_word" = true) (k2 : PySem.W.keepIn K (.ref f2) = true)
    (a3 : PySem.W.nsIn K mainGlobals "is_word" = some (some (.ref f3))) (l3 : K.lookup f3 = some ⟨oc3, od3, .func (PySem.W.fnOf "is_word" "is_word" (defArgs s_is_word) (defBody s_is_word) (defScope s_is_word) .none kV3 dc3 pm3 an3 cd3 ct3), sl3⟩) (c3 : PySem.W.codeIn K cd3 "is_word" = true) (k3 : PySem.W.keepIn K (.ref f3) = true)
    (a4 : PySem.W.nsIn K mainGlobals "_law_mixed" = some (some (.ref f4))) (l4 : K.lookup f4 = some ⟨oc4, od4, .func (PySem.W.fnOf "_law_mixed" "_law_mixed" (defArgs s_l_mixed) (defBody s_l_mixed) (defScope s_l_mixed) .none kV4 dc4 pm4 an4 cd4 ct4), sl4⟩) (c4 : PySem.W.codeIn K cd4 "_law_mixed" = true) (k4 : PySem.W.keepIn K (.ref f4) = true)
    (a5 : PySem.W.nsIn K mainGlobals "_law_text" = some (some (.ref f5))) (l5 : K.lookup f5 = some ⟨oc5, od5, .func (PySem.W.fnOf "_law_text" "_law_text" (defArgs s_l_text) (defBody s_l_text) (defScope s_l_text) .none kV5 dc5 pm5 an5 cd5 ct5), sl5⟩) (c5 : PySem.W.codeIn K cd5 "_law_text" = true) (k5 : PySem.W.keepIn K (.ref f5) = true)
    (a6 : PySem.W.nsIn K mainGlobals "law" = some (some (.ref f6))) (l6 : K.lookup f6 = some ⟨oc6, od6, .func (PySem.W.fnOf "law" "law" (defArgs s_law) (defBody s_law) (defScope s_law) .none kV6 dc6 pm6 an6 cd6 ct6), sl6⟩) (c6 : PySem.W.codeIn K cd6 "law" = true) (k6 : PySem.W.keepIn K (.ref f6) = true)
    {tg0 : Tok} (ag0 : PySem.W.nsIn K mainGlobals "LETTERS" = some (some (.str "abcdefghijklmnopqrstuvwxyz" tg0)))
    {tg1 : Tok} (ag1 : PySem.W.nsIn K mainGlobals "LONGEST" = some (some (.int 14 tg1)))
    (z0 : PySem.W.nsIn K mainGlobals "all" = some none)
    (z1 : PySem.W.nsIn K mainGlobals "bool" = some none)
    (z2 : PySem.W.nsIn K mainGlobals "isinstance" = some none)
    (z3 : PySem.W.nsIn K mainGlobals "len" = some none)
    (z4 : PySem.W.nsIn K mainGlobals "list" = some none)
    (z5 : PySem.W.nsIn K mainGlobals "range" = some none)
    (z6 : PySem.W.nsIn K mainGlobals "str" = some none)
    : ∃ fd : FuncData, (∀ (s : Shared) (v : Value), BindsTo s fd ⟨[v], []⟩ [("_law_script", v)]) ∧ ∀ base : Heap, K.In base → base.Ns mainGlobals mg → FnOk l.prog w K mg base CX0 3 fa fd ["_law_script"] (sp_law K) := by
  have e := hfa.symm.trans (PySem.W.mg_of X G a6)
  cases e
  have T : Tx mg := ⟨PySem.W.mg_none_of X G z0, PySem.W.mg_none_of X G z1, PySem.W.mg_none_of X G z2, PySem.W.mg_none_of X G z3, PySem.W.mg_none_of X G z4, PySem.W.mg_none_of X G z5, PySem.W.mg_none_of X G z6, ⟨tg0, PySem.W.mg_of X G ag0⟩, ⟨tg1, PySem.W.mg_of X G ag1⟩⟩
  have F0 := fun_mk (st := s_l_cell_at) l0 c0 k0
  have b0 := F0.binds (ps := ["_law_script", "_law_k"]) fun _ _ _ _ _ _ us hl => match us, hl with | [_, _], _ => rfl
  have D_l_cell_at : Dfn K mg "_law_cell_at" s_l_cell_at ["_law_script", "_law_k"] := ⟨_, _, F0, PySem.W.mg_of X G a0, b0⟩
  have F1 := fun_mk (st := s_l_drawn) l1 c1 k1
  have b1 := F1.binds (ps := ["_law_number", "_law_k"]) fun _ _ _ _ _ _ us hl => match us, hl with | [_, _], _ => rfl
  have D_l_drawn : Dfn K mg "_law_drawn" s_l_drawn ["_law_number", "_law_k"] := ⟨_, _, F1, PySem.W.mg_of X G a1, b1⟩
  have F2 := fun_mk (st := s_l_is_word) l2 c2 k2
  have b2 := F2.binds (ps := ["_law_thing"]) fun _ _ _ _ _ _ us hl => match us, hl with | [_], _ => rfl
  have D_l_is_word : Dfn K mg "_law_is_word" s_l_is_word ["_law_thing"] := ⟨_, _, F2, PySem.W.mg_of X G a2, b2⟩
  have F3 := fun_mk (st := s_is_word) l3 c3 k3
  have b3 := F3.binds (ps := ["thing"]) fun _ _ _ _ _ _ us hl => match us, hl with | [_], _ => rfl
  have D_is_word : Dfn K mg "is_word" s_is_word ["thing"] := ⟨_, _, F3, PySem.W.mg_of X G a3, b3⟩
  have F4 := fun_mk (st := s_l_mixed) l4 c4 k4
  have b4 := F4.binds (ps := ["_law_script", "_law_k"]) fun _ _ _ _ _ _ us hl => match us, hl with | [_, _], _ => rfl
  have D_l_mixed : Dfn K mg "_law_mixed" s_l_mixed ["_law_script", "_law_k"] := ⟨_, _, F4, PySem.W.mg_of X G a4, b4⟩
  have F5 := fun_mk (st := s_l_text) l5 c5 k5
  have b5 := F5.binds (ps := ["_law_number", "_law_most"]) fun _ _ _ _ _ _ us hl => match us, hl with | [_, _], _ => rfl
  have D_l_text : Dfn K mg "_law_text" s_l_text ["_law_number", "_law_most"] := ⟨_, _, F5, PySem.W.mg_of X G a5, b5⟩
  have F6 := fun_mk (st := s_law) l6 c6 k6
  refine ⟨PySem.W.fnOf "law" "law" (defArgs s_law) (defBody s_law) (defScope s_law) .none kV6 dc6 pm6 an6 cd6 ct6, fun s v => .of_eq rfl, fun base _ _ => ?_⟩
  have C_l_cell_at := ok_l_cell_at (P := l.prog) (w := w) (base := base) T D_l_cell_at 
  have C_l_drawn := ok_l_drawn (P := l.prog) (w := w) (base := base) T D_l_drawn 
  have C_l_is_word := ok_l_is_word (P := l.prog) (w := w) (base := base) T D_l_is_word 
  have C_is_word := ok_is_word (P := l.prog) (w := w) (base := base) T D_is_word 
  have C_l_mixed := ok_l_mixed (P := l.prog) (w := w) (base := base) T D_l_mixed C_l_cell_at
  have C_l_text := ok_l_text (P := l.prog) (w := w) (base := base) T D_l_text C_l_drawn
  exact ok_law T F6 C_l_is_word C_is_word C_l_mixed C_l_text
end BW
open PySem PySem.W PyProof.Rows
set_option maxRecDepth 100000 in
set_option maxHeartbeats 0 in
theorem PySem.Challenge.cw_borderrow_k01_words_holds : PySem.Challenge.rw_borderrow_k01_words.Holds := by
  w_on; o_law; k_head; (case hw => w_witness2)
  k_fill
  refine L2.walk_of (l := PySem.Challenge.rw_borderrow_k01_words) (n := 63) (k := 3) (x := "_law_script") (CX := fun _ => L2.CX0) (sp := fun w => BW.sp_law _) rfl (by decide) rfl ⟨rfl, by decide, by decide⟩ (fun w h Y => PySem.W.kIn_of Y) ?F (fun _ _ a ns hl _ hS => ⟨a, ns, rfl, hS, hl, fun _ => rfl⟩) (fun _ _ _ _ _ h => h)
  case F =>
    intro w mg fa h KX G hmg
    refine' BW.all_mk KX G hmg ?a0 ?l0 ?c0 ?k0 ?a1 ?l1 ?c1 ?k1 ?a2 ?l2 ?c2 ?k2 ?a3 ?l3 ?c3 ?k3 ?a4 ?l4 ?c4 ?k4 ?a5 ?l5 ?c5 ?k5 ?a6 ?l6 ?c6 ?k6 ?ag0 ?ag1 ?z0 ?z1 ?z2 ?z3 ?z4 ?z5 ?z6
    (case a0 => k_is)
    (case l0 => k_is)
    (case c0 => k_is)
    (case k0 => k_is)
    (case a1 => k_is)
    (case l1 => k_is)
    (case c1 => k_is)
    (case k1 => k_is)
    (case a2 => k_is)
    (case l2 => k_is)
    (case c2 => k_is)
    (case k2 => k_is)
    (case a3 => k_is)
    (case l3 => k_is)
    (case c3 => k_is)
    (case k3 => k_is)
    (case a4 => k_is)
    (case l4 => k_is)
    (case c4 => k_is)
    (case k4 => k_is)
    (case a5 => k_is)
    (case l5 => k_is)
    (case c5 => k_is)
    (case k5 => k_is)
    (case a6 => k_is)
    (case l6 => k_is)
    (case c6 => k_is)
    (case k6 => k_is)
    (case ag0 => k_is)
    (case ag1 => k_is)
    (case z0 => k_is)
    (case z1 => k_is)
    (case z2 => k_is)
    (case z3 => k_is)
    (case z4 => k_is)
    (case z5 => k_is)
    (case z6 => k_is)
