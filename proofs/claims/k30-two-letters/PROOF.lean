import PyProof.Rows.All
import Wide.All
import OpenK.AllK
import Wide.FinOn
import PyProof.StrOps2
import HandS.ForMost
import HandS.Evl
import HandS.IsInst
import HandS.StrMore
import HandS.TupAny
import HandS.Conv
import HandS.Steps
import HandS.Walk
import PySem.Challenge.RW_borderrow_k30_whole_two_letters_do
set_option Elab.async false
set_option linter.all false
set_option maxRecDepth 100000
set_option maxHeartbeats 4000000

/-! Words over the hand layer: texts as lists of codes, what an expression gives (Rg), comprehensions over any source. -/
namespace BW
open PySem PySem.Spec PyProof.Rows L2 Evl

/-! ### texts as lists of codes -/
def S (l : List Nat) : Str := ⟨l.toArray⟩
theorem S_len (l : List Nat) : (S l).length = l.length := by simp [S, Str.length]
theorem S_cps (l : List Nat) : (S l).cps.toList = l := by simp [S]
theorem S_app (a b : List Nat) : S a ++ S b = S (a ++ b) :=
  congrArg Str.mk (show a.toArray ++ b.toArray = (a ++ b).toArray by simp)
theorem S_inj {a b : List Nat} (h : S a = S b) : a = b := by
  have h2 := congrArg (fun z : Str => z.cps.toList) h
  simpa [S] using h2
theorem S_eq (z : Str) : S z.cps.toList = z := by cases z; simp [S]
theorem dec_S (a b : List Nat) : decide (V.str (S a) = V.str (S b)) = decide (a = b) := by
  by_cases h : a = b
  · subst h; simp
  · rw [decide_eq_false h]
    exact decide_eq_false fun e => h (S_inj (V.str.inj e))
theorem sz {n : Nat} (h : n ≤ 1000000) : n ≤ sizeLine := Nat.le_trans h (by decide)
theorem szl {n : Nat} (h : n < 1000000) : n < sizeLine := Nat.lt_of_lt_of_le h (by decide)

/-! ### what gives a value, in any heap that extends H -/
def Rg (k : Hp → VK → Prop) (H : Hp) (P : V → Hp → Prop) : Prop := ∀ H1, Ex H H1 → ∀ Q : VK, (∀ v H2, Ex H1 H2 → P v H2 → Q v H2) → k H1 Q
section
variable {k : Hp → VK → Prop} {H H' : Hp} {P P' : V → Hp → Prop} {σ : L2.St} {te ta : TE} {v : V}
theorem Rg.go (h : Rg k H P) {Q : VK} (q : ∀ v H2, Ex H H2 → P v H2 → Q v H2) : k H Q := h H (Ex.refl H) Q q
theorem Rg.mono (e : Ex H H') (h : Rg k H P) : Rg k H' P := fun H1 a Q q => h H1 (e.trans a) Q q
theorem Rg.imp (h : Rg k H P) (i : ∀ v H2, Ex H H2 → P v H2 → P' v H2) : Rg k H P' := fun H1 a Q q => h H1 a Q fun v H2 e p => q v H2 e (i v H2 (a.trans e) p)
theorem Rg.of_ev (h : Ev te σ H v) : Rg (te σ) H (fun x _ => x = v) := fun H1 a Q q => h H1 a Q fun H2 e => q v H2 e rfl
theorem Rg.ev (h : Rg (te σ) H (fun x _ => x = v)) : Ev te σ H v := fun H1 a Q q => h H1 a Q fun x H2 e p => by
  cases p
  exact q H2 e
theorem Rg.bind {g : V → Hp → VK → Prop} (ha : Rg (ta σ) H P) (f : ∀ x H1, Ex H H1 → P x H1 → Rg (g x) H1 P') : Rg (fun H Q => ta σ H fun x H1 => g x H1 Q) H P' := fun H1 a Q q =>
  ha H1 a _ fun x H2 e p => f x H2 (a.trans e) p H2 (Ex.refl H2) Q fun v H3 e3 p3 => q v H3 (e.trans e3) p3
theorem Rg.bindE {g : V → Hp → VK → Prop} (ha : Ev ta σ H v) (f : ∀ H1, Ex H H1 → Rg (g v) H1 P') : Rg (fun H Q => ta σ H fun x H1 => g x H1 Q) H P' := fun H1 a Q q =>
  ha H1 a _ fun H2 e => f H2 (a.trans e) H2 (Ex.refl H2) Q fun v H3 e3 p3 => q v H3 (e.trans e3) p3
theorem Rg.val {z : V} (h : ∀ H1, Ex H H1 → ∀ Q : VK, Q z H1 → k H1 Q) : Rg k H (fun x _ => x = z) := fun H1 a Q q => h H1 a Q (q z H1 (Ex.refl H1) rfl)
end

/-! ### operators, by names -/
theorem imp {X : Cx} {f : Value → Value → Sem Value} {r r' : R2} (h : OpR X f r) (i : ∀ x y H Q, r' x y H Q → r x y H Q) : OpR X f r' :=
  fun pins s σ H x y v u Q I rx ry q => h pins s σ H x y v u Q I rx ry (i x y H Q q)
theorem impC {X : Cx} {f : Value} {r r' : List V → Hp → VK → Prop} (h : CallR X f r) (i : ∀ xs H Q, r' xs H Q → r xs H Q) : CallR X f r' :=
  fun pins s σ H xs us Q I rx q => h pins s σ H xs us Q I rx (i xs H Q q)
theorem impM {X : Cx} {id : String} {r r' : V → List V → Hp → VK → Prop} (h : MtR X id r) (i : ∀ x xs H Q, r' x xs H Q → r x xs H Q) : MtR X id r' :=
  fun pins s σ H x xs v us Q I rx rxs q => h pins s σ H x xs v us Q I rx rxs (i x xs H Q q)
def rAdd : R2 := rI0 fun i j => .int (i + j)
def rSub : R2 := rI0 fun i j => .int (i - j)
def rMul : R2 := rI CMul fun i j => .int (i * j)
def rDiv : R2 := rI CDiv fun i j => .int (i / j)
def rMod : R2 := rI (fun _ j => 0 < j) fun i j => .int (i % j)
def rLt : R2 := rI0 fun i j => .bl (decide (i < j))
def rLe : R2 := rI0 fun i j => .bl (decide (i ≤ j))
def rGt : R2 := rI0 fun i j => .bl (decide (j < i))
def rGe : R2 := rI0 fun i j => .bl (decide (j ≤ i))
def rCat : R2 := fun x y H Q => ∃ a b, x = .str (S a) ∧ y = .str (S b) ∧ a.length + b.length ≤ 1000000 ∧ Q (.str (S (a ++ b))) H
def rRep : R2 := fun x y H Q => ∃ (a : List Nat) (n : Nat), x = .str (S a) ∧ y = .int (n : Int) ∧ a.length * n ≤ 1000000 ∧ n ≤ 1000000 ∧ Q (.str (S (List.replicate n a).flatten)) H
section
variable {X : Cx}
theorem oAdd : OpR X (binaryOp .Add) rAdd := op_add
theorem oSub : OpR X (binaryOp .Sub) rSub := op_sub
theorem oMul : OpR X (binaryOp .Mult) rMul := op_mul
theorem oDiv : OpR X (binaryOp .FloorDiv) rDiv := op_fdiv
theorem oMod : OpR X (binaryOp .Mod) rMod := op_mod
theorem oLt : OpR X (compareOp .Lt) rLt := op_lt
theorem oLe : OpR X (compareOp .LtE) rLe := op_le
theorem oGt : OpR X (compareOp .Gt) rGt := op_gt
theorem oGe : OpR X (compareOp .GtE) rGe := op_ge
theorem oEq : OpR X (compareOp .Eq) rEq := op_eq
theorem oNe : OpR X (compareOp .NotEq) rNe := op_ne
theorem oCat : OpR X (binaryOp .Add) rCat := imp op_add_str fun x y H Q ⟨a, b, e1, e2, h, q⟩ => ⟨S a, S b, e1, e2, by rw [S_len, S_len]; exact sz h, by rw [S_app]; exact q⟩
theorem rep_cps (a : List Nat) : ∀ (n : Nat) (acc : Array Nat), (List.replicate n a.toArray).foldl (· ++ ·) acc = acc ++ (List.replicate n a).flatten.toArray
  | 0, acc => by simp
  | n + 1, acc => by
    rw [List.replicate_succ, List.foldl_cons, rep_cps a n, List.replicate_succ, List.flatten_cons]
    simp
theorem oRep : OpR X (binaryOp .Mult) rRep := by
  intro pins s σ H x y v u Q I rx ry h
  obtain ⟨a, n, rfl, rfl, h1, h2, q⟩ := h
  obtain ⟨t, rfl⟩ := rx
  obtain ⟨t', rfl⟩ := ry
  refine P.mul_str (by rw [decide_eq_false (by omega), decide_eq_false (by omega)]; rfl) (fun h0 _ => ?_) (fun h0 _ => ?_) ?_
  · rw [S_len]
    have h3 : (1000000 : Int) ≤ (2 ^ 63 - 1) / (n : Int) := (Int.le_ediv_iff_mul_le (by omega)).mpr (by omega)
    by_cases hl : a.length ≤ 1000000
    · omega
    · exfalso
      have h4 : a.length * 1 ≤ a.length * n := Nat.mul_le_mul_left _ (by omega)
      omega
  · rw [S_len, Int.toNat_natCast]
    unfold Builtin.Str.tooLong
    exact decide_eq_false (by have := sz h1; omega)
  · have e0 : (List.replicate 0 a).flatten = ([] : List Nat) := rfl
    split
    · have : n = 0 := by omega
      subst this
      exact ⟨by decide, ⟨.str (S (List.replicate 0 a).flatten), H, I.tok _, ⟨s.toks, rfl⟩, q⟩⟩
    · split
      · refine ⟨.str (S (List.replicate n a).flatten), H, I, ⟨t, ?_⟩, q⟩
        rename_i h5
        rw [S_len] at h5
        rcases (Bool.or_eq_true _ _).mp h5 with h6 | h6
        · have : n = 1 := by
            have := eq_of_beq h6
            omega
          subst this
          simp
        · have : a = [] := by
            have := eq_of_beq h6
            exact List.length_eq_zero_iff.mp this
          subst this
          simp
      · rw [Int.toNat_natCast, show (S a).cps = a.toArray from rfl, rep_cps a n #[]]
        refine ⟨?_, ⟨.str (S (List.replicate n a).flatten), H, I.tok _, ⟨s.toks, ?_⟩, q⟩⟩
        · have : (List.replicate n a).flatten.length = n * a.length := by simp
          have h8 := sz h1
          rw [Nat.mul_comm] at h8
          simp [Str.length]
          exact h8
        · simp [S]

theorem impI {r r' : R2} (h : IxR X r) (i : ∀ x y H Q, r' x y H Q → r x y H Q) : IxR X r' :=
  fun value slice pins s σ H x y v u Q I rx ry q => h value slice pins s σ H x y v u Q I rx ry (i x y H Q q)
theorem impS {r r' : V → Option Int → Option Int → Hp → VK → Prop} (h : SlR X r) (i : ∀ x lo hi H Q, r' x lo hi H Q → r x lo hi H Q) : SlR X r' :=
  fun pins s σ H x v vl vu lo hi sl Q I rx hs p1 p2 q => h pins s σ H x v vl vu lo hi sl Q I rx hs p1 p2 (i x lo hi H Q q)
def rIxC : R2 := fun x y H Q => ∃ (l : List Nat) (i : Nat) (c : Nat), x = .str (S l) ∧ y = .int (i : Int) ∧ l.length ≤ 1000000 ∧ l[i]? = some c ∧ Q (.str (S [c])) H
theorem iStrC : IxR X rIxC := impI ix_str fun x y H Q ⟨l, i, c, e1, e2, h, hc, q⟩ => ⟨S l, (i : Int), c, e1, e2, by rw [S_len]; exact sz h, by rw [S_cps]; exact atI_nat hc, q⟩
def cutL (l : List Nat) (lo hi : Option Int) : List Nat := (l.drop (HT.sIx l.length 0 lo)).take (HT.sIx l.length l.length hi - HT.sIx l.length 0 lo)
def rSlC : V → Option Int → Option Int → Hp → VK → Prop := fun x lo hi H Q => ∃ l, x = .str (S l) ∧ l.length ≤ 1000000 ∧ Q (.str (S (cutL l lo hi))) H
theorem slStr : SlR X rSlC := impS sl_str fun x lo hi H Q ⟨l, e1, h, q⟩ => ⟨S l, e1, by rw [S_len]; exact sz h, by
  have e : cutS (S l) lo hi = S (cutL l lo hi) := by unfold cutS cutL; rw [S_cps, S_len]; rfl
  rw [e]; exact q⟩
theorem cut_to (l : List Nat) (k : Nat) : cutL l none (some (k : Int)) = l.take k := by
  unfold cutL
  rw [HT.sIx_none, HT.sIx_nat, List.drop_zero, Nat.sub_zero]
  by_cases h : k ≤ l.length
  · rw [Nat.min_eq_left h]
  · rw [Nat.min_eq_right (by omega), List.take_of_length_le (Nat.le_refl _), List.take_of_length_le (by omega)]
theorem cut_from (l : List Nat) (k : Nat) : cutL l (some (k : Int)) none = l.drop k := by
  unfold cutL
  rw [HT.sIx_none, HT.sIx_nat]
  by_cases h : k ≤ l.length
  · rw [Nat.min_eq_left h, List.take_of_length_le (by rw [List.length_drop]; omega)]
  · rw [Nat.min_eq_right (by omega), List.drop_of_length_le (Nat.le_refl _), List.drop_of_length_le (by omega)]; simp
def rLenC : List V → Hp → VK → Prop := fun xs H Q => ∃ l, xs = [.str (S l)] ∧ l.length ≤ 1000000 ∧ Q (.int (l.length : Int)) H
theorem cLenC : CallR X (.builtin "len") rLenC := impC call_len_str fun xs H Q ⟨l, e, h, q⟩ => ⟨S l, e, by rw [S_len]; exact sz h, by rw [S_len]; exact q⟩
def rLenQ (K : PySem.W.Frag) : List V → Hp → VK → Prop := fun xs H Q => ∃ p ys, xs = [.ref p] ∧ (SqL K H p ys ∨ SqT K H p ys) ∧ Q (.int ys.length) H
theorem cLenQ : CallR X (.builtin "len") (rLenQ X.K) := call_len_seq
def rTupOf (K : PySem.W.Frag) : List V → Hp → VK → Prop := fun xs H Q => ∃ p ys, xs = [.ref p] ∧ SqL K H p ys ∧ ∀ l, H l = none → Q (.ref l) (upd H l (.tup ys))
theorem cTupOf : CallR X (.type "tuple") (rTupOf X.K) := impC call_tuple_of fun xs H Q ⟨p, ys, e, h, q⟩ => ⟨p, ys, e, .inl ⟨h, q⟩⟩
def rMaxL (K : PySem.W.Frag) : List V → Hp → VK → Prop := fun vs H Q => ∃ (a : Addr) (ns : List Int), vs = [V.ref a] ∧ SqL K H a (ns.map V.int) ∧ 0 < ns.length ∧ ∀ m, m ∈ ns → (∀ y, y ∈ ns → y ≤ m) → Q (.int m) H
theorem cMaxL (hc : X.calm = true) : CallR X (.builtin "max") (rMaxL X.K) := cr_max hc
def rMax2 : List V → Hp → VK → Prop := fun xs H Q => ∃ i j, xs = [.int i, .int j] ∧ Q (.int (max i j)) H
theorem cMax2 (hc : X.calm = true) : CallR X (.builtin "max") rMax2 := impC (call_max2 hc) fun xs H Q ⟨i, j, e, q⟩ => ⟨i, j, e, by
  have e2 : (if j > i then j else i) = max i j := by omega
  rw [e2]; exact q⟩
def rMin2 : List V → Hp → VK → Prop := fun xs H Q => ∃ i j, xs = [.int i, .int j] ∧ Q (.int (min i j)) H
theorem cMin2 (hc : X.calm = true) : CallR X (.builtin "min") rMin2 := impC (call_min2 hc) fun xs H Q ⟨i, j, e, q⟩ => ⟨i, j, e, by
  have e2 : (if j < i then j else i) = min i j := by omega
  rw [e2]; exact q⟩
end

/-! ### what evaluates to what: scalars -/
section
variable {K : PySem.W.Frag} {σ : L2.St} {H H' : Hp} {ta tb te tx : TE} {t u : TT} {x y z v : V} {i j : Int} {a b l : List Nat}
theorem ev_add (ha : Ev ta σ H (.int i)) (hb : Ev tb σ H (.int j)) : Ev (tOp rAdd ta tb) σ H (.int (i + j)) := ev_op ha hb rv_I0
theorem ev_sub (ha : Ev ta σ H (.int i)) (hb : Ev tb σ H (.int j)) : Ev (tOp rSub ta tb) σ H (.int (i - j)) := ev_op ha hb rv_I0
theorem ev_mul (ha : Ev ta σ H (.int i)) (hb : Ev tb σ H (.int j)) (h : CMul i j) : Ev (tOp rMul ta tb) σ H (.int (i * j)) := ev_op ha hb (rv_I h)
theorem ev_div (ha : Ev ta σ H (.int i)) (hb : Ev tb σ H (.int j)) (h : 0 < j ∧ j < 1073741824) : Ev (tOp rDiv ta tb) σ H (.int (i / j)) := ev_op ha hb (rv_I h)
theorem ev_mod (ha : Ev ta σ H (.int i)) (hb : Ev tb σ H (.int j)) (h : 0 < j) : Ev (tOp rMod ta tb) σ H (.int (i % j)) := ev_op ha hb (rv_I h)
theorem ev_lt (ha : Ev ta σ H (.int i)) (hb : Ev tb σ H (.int j)) : Ev (tOp rLt ta tb) σ H (.bl (decide (i < j))) := ev_op ha hb rv_I0
theorem ev_le (ha : Ev ta σ H (.int i)) (hb : Ev tb σ H (.int j)) : Ev (tOp rLe ta tb) σ H (.bl (decide (i ≤ j))) := ev_op ha hb rv_I0
theorem ev_gt (ha : Ev ta σ H (.int i)) (hb : Ev tb σ H (.int j)) : Ev (tOp rGt ta tb) σ H (.bl (decide (j < i))) := ev_op ha hb rv_I0
theorem ev_ge (ha : Ev ta σ H (.int i)) (hb : Ev tb σ H (.int j)) : Ev (tOp rGe ta tb) σ H (.bl (decide (j ≤ i))) := ev_op ha hb rv_I0
theorem dec_I (i j : Int) : decide (V.int i = V.int j) = decide (i = j) := by
  by_cases h : i = j
  · subst h; simp
  · rw [decide_eq_false h]
    exact decide_eq_false fun e => h (V.int.inj e)
theorem dec_B (i j : Bool) : decide (V.bl i = V.bl j) = (i == j) := by cases i <;> cases j <;> rfl
theorem ev_eqI (ha : Ev ta σ H (.int i)) (hb : Ev tb σ H (.int j)) : Ev (tOp rEq ta tb) σ H (.bl (decide (i = j))) := ev_is (ev_op ha hb (rv_eq rfl)) (by rw [dec_I])
theorem ev_neI (ha : Ev ta σ H (.int i)) (hb : Ev tb σ H (.int j)) : Ev (tOp rNe ta tb) σ H (.bl (!decide (i = j))) := ev_is (ev_op ha hb (rv_ne rfl)) (by rw [dec_I])
theorem ev_eqS (ha : Ev ta σ H (.str (S a))) (hb : Ev tb σ H (.str (S b))) : Ev (tOp rEq ta tb) σ H (.bl (decide (a = b))) := ev_is (ev_op ha hb (rv_eq rfl)) (by rw [dec_S])
theorem ev_neS (ha : Ev ta σ H (.str (S a))) (hb : Ev tb σ H (.str (S b))) : Ev (tOp rNe ta tb) σ H (.bl (!decide (a = b))) := ev_is (ev_op ha hb (rv_ne rfl)) (by rw [dec_S])
theorem ev_eqB {p q : Bool} (ha : Ev ta σ H (.bl p)) (hb : Ev tb σ H (.bl q)) : Ev (tOp rEq ta tb) σ H (.bl (p == q)) := ev_is (ev_op ha hb (rv_eq rfl)) (by rw [dec_B])
theorem ev_cat (ha : Ev ta σ H (.str (S a))) (hb : Ev tb σ H (.str (S b))) (h : a.length + b.length ≤ 1000000) : Ev (tOp rCat ta tb) σ H (.str (S (a ++ b))) :=
  ev_op ha hb (rv_val fun H1 _ Q q => ⟨a, b, rfl, rfl, h, q⟩)
theorem ev_rep {n : Nat} (ha : Ev ta σ H (.str (S a))) (hb : Ev tb σ H (.int (n : Int))) (h : a.length * n ≤ 1000000 ∧ n ≤ 1000000) : Ev (tOp rRep ta tb) σ H (.str (S (List.replicate n a).flatten)) :=
  ev_op ha hb (rv_val fun H1 _ Q q => ⟨a, n, rfl, rfl, h.1, h.2, q⟩)
theorem ev_cS {z : Str} (e : z = S l) : Ev (tC (.str z)) σ H (.str (S l)) := e ▸ ev_c
theorem ev_lenC (ha : Ev ta σ H (.str (S l))) (h : l.length ≤ 1000000) : Ev (tCB rLenC (tCons ta tNil)) σ H (.int (l.length : Int)) := fun H1 e Q q =>
  ha H1 e _ fun H2 e2 => ⟨l, rfl, h, q H2 e2⟩
theorem ev_lenL {p : Addr} {xs : List V} (ha : Ev ta σ H (.ref p)) (h : SqL K H p xs) : Ev (tCB (rLenQ K) (tCons ta tNil)) σ H (.int (xs.length : Int)) := fun H1 e Q q =>
  ha H1 e _ fun H2 e2 => ⟨p, xs, rfl, .inl (ex_l (e.trans e2) h), q H2 e2⟩
theorem ev_lenT {p : Addr} {xs : List V} (ha : Ev ta σ H (.ref p)) (h : SqT K H p xs) : Ev (tCB (rLenQ K) (tCons ta tNil)) σ H (.int (xs.length : Int)) := fun H1 e Q q =>
  ha H1 e _ fun H2 e2 => ⟨p, xs, rfl, .inr (ex_t (e.trans e2) h), q H2 e2⟩
theorem ev_ixC {n c : Nat} (ha : Ev ta σ H (.str (S l))) (hb : Ev tb σ H (.int (n : Int))) (h : l.length ≤ 1000000) (hc : l[n]? = some c) : Ev (tOp rIxC ta tb) σ H (.str (S [c])) :=
  ev_op ha hb (rv_val fun H1 _ Q q => ⟨l, n, c, rfl, rfl, h, hc, q⟩)
theorem ev_sl {tl th : TO} {lo hi : Option Int} (ha : Ev te σ H (.str (S l))) (h1 : EvO tl σ H lo) (h2 : EvO th σ H hi) (h : l.length ≤ 1000000) : Ev (tSl rSlC te tl th) σ H (.str (S (cutL l lo hi))) := fun H1 e Q q =>
  ha H1 e _ fun H2 e2 => h1 H2 (e.trans e2) _ fun H3 e3 => h2 H3 ((e.trans e2).trans e3) _ fun H4 e4 => ⟨l, rfl, h, q H4 ((e2.trans e3).trans e4)⟩
theorem ev_slTo {n : Nat} (ha : Ev te σ H (.str (S l))) (hb : Ev tb σ H (.int (n : Int))) (h : l.length ≤ 1000000) : Ev (tSl rSlC te tNoPart (tPart tb)) σ H (.str (S (l.take n))) :=
  ev_is (ev_sl ha eo_none (eo_some hb) h) (by rw [cut_to])
theorem ev_slFrom {n : Nat} (ha : Ev te σ H (.str (S l))) (hb : Ev tb σ H (.int (n : Int))) (h : l.length ≤ 1000000) : Ev (tSl rSlC te (tPart tb) tNoPart) σ H (.str (S (l.drop n))) :=
  ev_is (ev_sl ha (eo_some hb) eo_none h) (by rw [cut_from])
theorem ev_max2 (ha : Ev ta σ H (.int i)) (hb : Ev tb σ H (.int j)) : Ev (tCB BW.rMax2 (tCons ta (tCons tb tNil))) σ H (.int (max i j)) := fun H1 e Q q =>
  ha H1 e _ fun H2 e2 => hb H2 (e.trans e2) _ fun H3 e3 => ⟨i, j, rfl, q H3 (e2.trans e3)⟩
theorem ev_min2 (ha : Ev ta σ H (.int i)) (hb : Ev tb σ H (.int j)) : Ev (tCB BW.rMin2 (tCons ta (tCons tb tNil))) σ H (.int (min i j)) := fun H1 e Q q =>
  ha H1 e _ fun H2 e2 => hb H2 (e.trans e2) _ fun H3 e3 => ⟨i, j, rfl, q H3 (e2.trans e3)⟩
/-- a call whose promise gives P -/
def SpP (sp : Sp) (vs : List V) (H : Hp) (P : V → Hp → Prop) : Prop := ∀ H1, Ex H H1 → ∀ Q : VK, (∀ v H2, Ex H1 H2 → P v H2 → Q v H2) → ∀ E : XK, sp vs H1 Q E
theorem rg_call {sp : Sp} {dvs vs : List V} {E : XK} {tA : TA} {P : V → Hp → Prop} (h : EvA tA σ H vs) (hs : SpP sp (vs ++ dvs) H P) : Rg (tCall sp dvs E tA σ) H P := fun H1 e Q q =>
  h H1 e _ fun H2 e2 => hs H2 (e.trans e2) Q (fun v H3 e3 p => q v H3 (e2.trans e3) p) E
/-- a call of one argument that is made on the way -/
theorem rg_call1 {sp : Sp} {E : XK} {P P' : V → Hp → Prop} (h : Rg (ta σ) H P) (hs : ∀ x H1, Ex H H1 → P x H1 → SpP sp [x] H1 P') : Rg (tCall sp [] E (tCons ta tNil) σ) H P' := fun H1 e Q q =>
  h H1 e _ fun x H2 e2 p => hs x H2 (e.trans e2) p H2 (Ex.refl H2) Q (fun v H3 e3 p => q v H3 (e2.trans e3) p) E
theorem rg_cb1 {r : List V → Hp → VK → Prop} {P P' : V → Hp → Prop} (h : Rg (ta σ) H P) (hs : ∀ x H1, Ex H H1 → P x H1 → Rg (r [x]) H1 P') : Rg (tCB r (tCons ta tNil) σ) H P' := Rg.bind (g := fun x => r [x]) h hs
/-- tuple(a list) -/
theorem rg_tupOf {P : List V → Hp → Prop} (h : Rg (ta σ) H (fun v H2 => ∃ p ys, v = .ref p ∧ H2 p = some (.lst ys) ∧ P ys H2)) (hP : ∀ ys H1 H2, Ex H1 H2 → P ys H1 → P ys H2) :
    Rg (tCB (rTupOf K) (tCons ta tNil) σ) H (fun v H2 => ∃ p ys, v = .ref p ∧ SqT K H2 p ys ∧ P ys H2) := rg_cb1 h fun x H1 e p H2 e2 Q q => by
  obtain ⟨p, ys, rfl, h1, h2⟩ := p
  exact ⟨p, ys, rfl, sq_of (e2 p _ h1), fun l hl => q _ _ (Ex.new hl) ⟨l, ys, rfl, st_of upd_same, hP ys H1 _ (e2.trans (Ex.new hl)) h2⟩⟩
/-- max(a list) -/
theorem ev_maxL {ns : List Int} {m : Int} (h : Rg (ta σ) H (fun v H2 => ∃ p, v = .ref p ∧ H2 p = some (.lst (ns.map V.int)))) (hm : m ∈ ns) (hle : ∀ y ∈ ns, y ≤ m) : Ev (tCB (rMaxL K) (tCons ta tNil)) σ H (.int m) :=
  Rg.ev (rg_cb1 h fun x H1 e p H2 e2 Q q => by
    obtain ⟨p, rfl, h1⟩ := p
    refine ⟨p, ns, rfl, sq_of (e2 p _ h1), List.length_pos_iff.mpr (List.ne_nil_of_mem hm), fun m' hm' hle' => q _ H2 (Ex.refl H2) ?_⟩
    have h3 := hle m' hm'
    have h4 := hle' m hm
    rw [show m' = m by omega])
end

/-! ### comprehensions -/
/-- all but lists stand as they stood -/
def Kp (H H' : Hp) : Prop := ∀ a o, H a = some o → (∀ xs, o ≠ .lst xs) → H' a = some o
theorem Ex.kp {H H' : Hp} (e : Ex H H') : Kp H H' := fun a o h _ => e a o h
theorem Kp.trans {H H1 H2 : Hp} (a : Kp H H1) (b : Kp H1 H2) : Kp H H2 := fun x o h n => b x o (a x o h n) n
theorem Kp.upd {H : Hp} {p : Addr} {xs : List V} {o : HO} (h : H p = some (.lst xs)) : Kp H (upd H p o) := fun a u e n => by
  by_cases hp : a = p
  · subst hp
    rw [h] at e
    cases e
    exact absurd rfl (n xs)
  · rw [upd_ne hp]
    exact e
theorem Kp.t {K : PySem.W.Frag} {H H' : Hp} {a : Addr} {xs : List V} (k : Kp H H') (h : SqT K H a xs) : SqT K H' a xs := by
  rcases h with (h | ⟨o, h⟩) | h
  · exact .inl (.inl (k a _ h (fun _ e => nomatch e)))
  · exact .inl (.inr ⟨o, k a _ h (fun _ e => nomatch e)⟩)
  · exact .inr h
def Src (wi : TI) (σ : L2.St) (H : Hp) (xs : List V) : Prop :=
  ∀ H1, Ex H H1 → ∀ R : It → Hp → Prop, (∀ J H2, Ex H1 H2 → L2.Walk J xs.length (fun H3 => Ex H2 H3) (YAt xs) → R J H2) → wi σ H1 R
section
variable {K : PySem.W.Frag} {σ : L2.St} {H H' : Hp} {tl te : TE} {tt : TT}
theorem src_list {a : Addr} {xs : List V} (h : Ev tl σ H (.ref a)) (hq : SqL K H a xs) : Src (iList K tl) σ H xs := fun H1 e R r =>
  h H1 e _ fun H2 e2 => ⟨a, rfl, ⟨xs, ex_l (e.trans e2) hq⟩, r _ H2 e2 (walk_list.mono (fun H3 e3 => ex_l ((e.trans e2).trans e3) hq) fun _ _ _ _ _ _ y => y)⟩
theorem src_listN {xs : List V} (h : Rg (tl σ) H (fun v H2 => ∃ p, v = .ref p ∧ H2 p = some (.lst xs))) : Src (iList K tl) σ H xs := fun H1 e R r =>
  h H1 e _ fun v H2 e2 p => by
    obtain ⟨p, rfl, hp⟩ := p
    exact ⟨p, rfl, ⟨xs, sq_of hp⟩, r _ H2 e2 (walk_list.mono (fun H3 e3 => sq_of (e3 p _ hp)) fun _ _ _ _ _ _ y => y)⟩
theorem src_tup {a : Addr} {xs : List V} (h : Ev tl σ H (.ref a)) (hq : SqT K H a xs) : Src (iTup K tl) σ H xs := fun H1 e R r =>
  h H1 e _ fun H2 e2 => ⟨a, rfl, ⟨xs, ex_t (e.trans e2) hq⟩, r _ H2 e2 (walk_tup.mono (fun H3 e3 => ex_t ((e.trans e2).trans e3) hq) fun _ _ _ _ _ _ y => y)⟩
theorem src_tupN {xs : List V} (h : Rg (tl σ) H (fun v H2 => ∃ p, v = .ref p ∧ SqT K H2 p xs)) : Src (iTup K tl) σ H xs := fun H1 e R r =>
  h H1 e _ fun v H2 e2 p => by
    obtain ⟨p, rfl, hp⟩ := p
    exact ⟨p, rfl, ⟨xs, hp⟩, r _ H2 e2 (walk_tup.mono (fun H3 e3 => ex_t e3 hp) fun _ _ _ _ _ _ y => y)⟩
theorem walkI {J : It} {n : Nat} {G G' : Hp → Prop} {f : Nat → V} {xs : List V} (w : L2.Walk J n G (YFn f)) (hn : xs.length = n) (hx : ∀ i, i < n → xs[i]? = some (f i)) (hg : ∀ H, G' H → G H) : L2.Walk J xs.length G' (YAt xs) := by
  subst hn
  exact w.mono hg fun i H x H' hi _ y => ⟨y.1, by rw [y.2]; exact hx i hi⟩
theorem src_range1 {ta : TA} {n : Nat} (h : EvA ta σ H [.int (n : Int)]) (hn : n ≤ 1000000) : Src (iRng1 ta) σ H ((List.range n).map fun (i : Nat) => V.int (i : Int)) := fun H1 e R r =>
  h H1 e _ fun H2 e2 => ⟨(n : Int), rfl, by omega, by omega, r _ H2 e2 (walkI walk_range (by simp) (fun i hi => by
    have : i < n := by omega
    simp [this]) fun _ _ => True.intro)⟩
theorem src_range2 {ta : TA} {lo : Int} {n : Nat} {hi : Int} (h : EvA ta σ H [.int lo, .int hi]) (hn : (hi - lo).toNat = n) (hb : -1000000 ≤ lo ∧ lo ≤ 1000000 ∧ -1000000 ≤ hi ∧ hi ≤ 1000000) : Src (iRng2 ta) σ H ((List.range n).map fun (i : Nat) => V.int (lo + (i : Int))) := fun H1 e R r =>
  h H1 e _ fun H2 e2 => ⟨lo, hi, rfl, ⟨by omega, by omega, by omega, by omega⟩, r _ H2 e2 (walkI walk_range (by simp; omega) (fun i h => by
    have : i < n := by omega
    simp [this]) fun _ _ => True.intro)⟩
theorem src_str {l : List Nat} (h : Ev te σ H (.str (S l))) : Src (iStr te) σ H (l.map fun c => V.str (S [c])) := fun H1 e R r =>
  h H1 e _ fun H2 e2 => ⟨S l, rfl, r _ H2 e2 (by
    have e0 : (l.map fun c => V.str (S [c])).length = (S l).cps.size := by simp [S]
    rw [e0]
    refine walk_str.mono (fun _ _ => True.intro) fun i H x H' hi _ y => ⟨y.1, ?_⟩
    obtain ⟨c, hc, e3⟩ := y.2
    have hc2 : l[i]? = some c := by simpa [S] using hc
    rw [e3, List.getElem?_map, hc2]
    rfl)⟩

theorem paired_mono {α β : Type} {F G : α → β → Prop} : ∀ {l₁ : List α} {l₂ : List β}, Paired F l₁ l₂ → (∀ a b, F a b → G a b) → Paired G l₁ l₂
  | _, _, .nil, _ => .nil
  | _, _, .cons r t, f => .cons (f _ _ r) (paired_mono t f)
theorem paired_snoc {α β : Type} {F : α → β → Prop} : ∀ {l₁ : List α} {l₂ : List β} {a : α} {b : β}, Paired F l₁ l₂ → F a b → Paired F (l₁ ++ [a]) (l₂ ++ [b])
  | _, _, _, _, .nil, h => .cons h .nil
  | _, _, _, _, .cons r t, h => .cons r (paired_snoc t h)
theorem paired_map {α β : Type} {g : α → β} : ∀ {l₁ : List α} {l₂ : List β}, Paired (fun a b => b = g a) l₁ l₂ → l₂ = l₁.map g
  | _, _, .nil => rfl
  | _, _, .cons r t => by rw [List.map_cons, r, paired_map t]
theorem paired_len {α β : Type} {F : α → β → Prop} : ∀ {l₁ : List α} {l₂ : List β}, Paired F l₁ l₂ → l₁.length = l₂.length
  | _, _, .nil => rfl
  | _, _, .cons _ t => by rw [List.length_cons, List.length_cons, paired_len t]
/-- [e for x in xs if t], the items of any make -/
theorem rg_lc {α : Type} {wi : TI} {vs : List Nat} {j : Nat} (l : List α) (inj : α → V) (f : α → Bool) (R : α → V → Hp → Prop) (hs : Src wi σ H (l.map inj)) (hz : l.length ≤ 100000)
    (hR : ∀ a v H H', Kp H H' → R a v H → R a v H') (hw : ∀ x, wipe ((wipe σ vs).set j (some x)) vs = wipe σ vs)
    (ht : ∀ a ∈ l, ∀ H1, Ex H H1 → EvT tt ((wipe σ vs).set j (some (inj a))) H1 (f a)) (he : ∀ a ∈ l, f a = true → ∀ H1, Ex H H1 → Rg (te ((wipe σ vs).set j (some (inj a)))) H1 (R a)) :
    Rg (tLc wi (gName j) tt te vs σ) H (fun v H2 => ∃ p ys, v = .ref p ∧ H p = none ∧ H2 p = some (.lst ys) ∧ Paired (fun a y => R a y H2) (l.filter f) ys) := fun H0 e Q q =>
  hs H0 e _ fun J H1 e1 wk => fun D hD => by
    refine lc_it wk (fun i H' => Ex H1 H' ∧ i ≤ l.length ∧ ∃ ys, H' D = some (.lst ys) ∧ Paired (fun a y => R a y H') ((l.take i).filter f) ys)
      ⟨Ex.new hD, Nat.zero_le _, [], upd_same, by rw [List.take_zero]; exact .nil⟩ (fun i H' _ p => p.1) ?_ ?_
    · intro i x H' H'' hi p y
      obtain ⟨p1, pi, ys, p2, p3⟩ := p
      obtain ⟨rfl, hx⟩ := y
      rw [List.length_map] at hi
      have hx2 : inj l[i] = x := by
        rw [List.getElem?_map, List.getElem?_eq_getElem hi] at hx
        exact Option.some.inj hx
      subst hx2
      have hm : l[i] ∈ l := List.getElem_mem hi
      have ex := (e.trans e1).trans p1
      refine ⟨hw _, ht l[i] hm H'' ex H'' (Ex.refl H'') _ fun H3 e3 => ?_⟩
      have tk : l.take (i + 1) = l.take i ++ [l[i]] := by rw [List.take_add_one, List.getElem?_eq_getElem hi]; rfl
      cases hf : f l[i] with
      | true =>
        rw [if_pos rfl]
        refine (he l[i] hm hf H3 (ex.trans e3)).go fun y H4 e4 r => ⟨ys, e4 D _ (e3 D _ p2), szl ?_, Ex.mut ((p1.trans e3).trans e4) hD, hi, ys ++ [y], upd_same, ?_⟩
        · have h1 := paired_len p3
          have h2 := List.length_filter_le f (l.take i)
          rw [List.length_take] at h2
          omega
        · have kp : Kp H4 (upd H4 D (.lst (ys ++ [y]))) := Kp.upd (e4 D _ (e3 D _ p2))
          rw [tk, List.filter_append, List.filter_cons, if_pos hf]
          exact paired_snoc (paired_mono p3 fun a b r => hR a b _ _ ((Ex.kp (e3.trans e4)).trans kp) r) (hR _ _ _ _ kp r)
      | false =>
        rw [if_neg Bool.false_ne_true]
        refine ⟨p1.trans e3, hi, ys, e3 D _ p2, ?_⟩
        rw [tk, List.filter_append, List.filter_cons, if_neg (by rw [hf]; decide)]
        show Paired _ (_ ++ []) _
        rw [List.append_nil]
        exact paired_mono p3 fun a b r => hR a b _ _ (Ex.kp e3) r
    · intro H' p
      obtain ⟨p1, _, ys, p2, p3⟩ := p
      rw [List.length_map, List.take_length] at p3
      exact q _ H' (e1.trans p1) ⟨D, ys, rfl, fresh_back (e.trans e1) hD, p2, p3⟩
/-- .. the items scalars -/
theorem rg_lcV {α : Type} {wi : TI} {vs : List Nat} {j : Nat} (l : List α) (inj : α → V) (f : α → Bool) (g : α → V) (hs : Src wi σ H (l.map inj)) (hz : l.length ≤ 100000)
    (hw : ∀ x, wipe ((wipe σ vs).set j (some x)) vs = wipe σ vs)
    (ht : ∀ a ∈ l, ∀ H1, Ex H H1 → EvT tt ((wipe σ vs).set j (some (inj a))) H1 (f a)) (he : ∀ a ∈ l, f a = true → ∀ H1, Ex H H1 → Ev te ((wipe σ vs).set j (some (inj a))) H1 (g a)) :
    Rg (tLc wi (gName j) tt te vs σ) H (fun v H2 => ∃ p, v = .ref p ∧ H p = none ∧ H2 p = some (.lst ((l.filter f).map g))) :=
  (rg_lc l inj f (fun a v _ => v = g a) hs hz (fun _ _ _ _ _ h => h) hw ht fun a ha hf H1 e => Rg.of_ev (he a ha hf H1 e)).imp fun v H2 _ p => by
    obtain ⟨p, ys, e, h1, h2, h3⟩ := p
    rw [paired_map h3] at h2
    exact ⟨p, e, h1, h2⟩
theorem et_yes : EvT tYes σ H true := fun H1 _ _ q => q H1 (Ex.refl H1)
theorem filter_yes {α : Type} (l : List α) : l.filter (fun _ => true) = l := by simp
end

section
variable {K : PySem.W.Frag} {σ : L2.St} {H H' : Hp} {ta tb te tx : TE} {x y z v : V} {i j : Int}
theorem ev_nat {x : Int} (h : Ev te σ H (.int x)) (h0 : 0 ≤ x) : Ev te σ H (.int (x.toNat : Int)) := by
  rw [Int.toNat_of_nonneg h0]
  exact h
theorem atI_int {α : Type} {xs : List α} {i : Int} {v : α} (h0 : 0 ≤ i) (h : xs[i.toNat]? = some v) : atI xs i = some v := by
  have e := atI_nat h
  rw [Int.toNat_of_nonneg h0] at e
  exact e
/-- (a, b, ..)[i], [a, b, ..][i] -/
theorem ev_menuT {tA : TA} {vs : List V} (h : EvA tA σ H vs) (hl : vs.length ≤ 1000) (hb : Ev tb σ H (.int i)) (hx : atI vs i = some v) : Ev (tOp (rIxT K) (tTup tA) tb) σ H v := fun H1 e Q q =>
  h H1 e _ fun H2 e2 => ⟨sz (by omega), fun p hp => hb _ (e.trans (e2.trans (Ex.new hp))) _ fun H3 e3 => ⟨p, vs, i, v, rfl, rfl, ex_t e3 (st_of upd_same), hx, q H3 (e2.trans ((Ex.new hp).trans e3))⟩⟩
theorem ev_menuL {tA : TA} {vs : List V} (h : EvA tA σ H vs) (hl : vs.length ≤ 1000) (hb : Ev tb σ H (.int i)) (hx : atI vs i = some v) : Ev (tOp (rIxL K) (tLst tA) tb) σ H v := fun H1 e Q q =>
  h H1 e _ fun H2 e2 => ⟨sz (by omega), fun p hp => hb _ (e.trans (e2.trans (Ex.new hp))) _ fun H3 e3 => ⟨p, vs, i, v, rfl, rfl, ex_l e3 (sq_of upd_same), hx, q H3 (e2.trans ((Ex.new hp).trans e3))⟩⟩
/-- a made list's item -/
theorem ev_ixN {xs : List V} (h : Rg (ta σ) H (fun v H2 => ∃ p, v = .ref p ∧ H2 p = some (.lst xs))) (hb : Ev tb σ H (.int i)) (hx : atI xs i = some v) : Ev (tOp (rIxL K) ta tb) σ H v := fun H1 e Q q =>
  h H1 e _ fun x H2 e2 p => by
    obtain ⟨p, rfl, hp⟩ := p
    exact hb H2 (e.trans e2) _ fun H3 e3 => ⟨p, xs, i, v, rfl, rfl, sq_of (e3 p _ hp), hx, q H3 (e2.trans e3)⟩
/-- isinstance(x, T), x a scalar -/
def tyN : V → Option String
  | .non => some "NoneType"
  | .bl _ => some "bool"
  | .int _ => some "int"
  | .str _ => some "str"
  | _ => none
theorem tyN_x {K : PySem.W.Frag} {H : Hp} {x : V} {t : String} (h : tyN x = some t) : TyX K H x (.type t) := by
  cases x <;> first | cases h | skip
  · exact .base .non
  · exact .base (.bl _)
  · exact .base (.int _)
  · exact .base (.str _)
theorem ev_isi {t c : String} {r : Bool} (h : Ev ta σ H x) (ht : tyN x = some t) (hk : kitB t c = some r) : Ev (tCB (rIsi K) (tCons ta (tCons (tC (.ty c)) tNil))) σ H (.bl r) := fun H1 e Q q =>
  h H1 e _ fun H2 e2 => ⟨x, .ty c, .type t, .type c, r, rfl, .ty c, tyN_x ht, kit_ty hk, q H2 e2⟩
end
/-- small letters -/
def az (l : List Nat) : Prop := ∀ c ∈ l, 97 ≤ c ∧ c ≤ 122
theorem az_nil : az [] := fun _ h => nomatch h
theorem az_app {a b : List Nat} (h1 : az a) (h2 : az b) : az (a ++ b) := fun c hc => (List.mem_append.mp hc).elim (h1 c) (h2 c)
theorem az_take {a : List Nat} (n : Nat) (h : az a) : az (a.take n) := fun c hc => h c (List.mem_of_mem_take hc)
theorem az_drop {a : List Nat} (n : Nat) (h : az a) : az (a.drop n) := fun c hc => h c (List.mem_of_mem_drop hc)
theorem az_rep {a : List Nat} (n : Nat) (h : az a) : az (List.replicate n a).flatten := fun c hc => by
  obtain ⟨l, hl, hc⟩ := List.mem_flatten.mp hc
  rw [List.eq_of_mem_replicate hl] at hc
  exact h c hc

/-! ### numbers that are Nat -/
abbrev natV (l : List Nat) : List V := l.map fun (i : Nat) => V.int (i : Int)
def isT (K : PySem.W.Frag) (xs : List V) : V → Hp → Prop := fun v H => ∃ p, v = .ref p ∧ SqT K H p xs
def RetT (K : PySem.W.Frag) (xs : List V) (H : Hp) (Q : VK) : Prop := ∀ p H2, Ex H H2 → SqT K H2 p xs → Q (.ref p) H2
section
variable {K : PySem.W.Frag} {σ : L2.St} {H H' : Hp} {ta tb te tx : TE} {x y z v : V} {i j : Int} {a b : Nat}
theorem ev_addn (ha : Ev ta σ H (.int (a : Int))) (hb : Ev tb σ H (.int (b : Int))) : Ev (tOp rAdd ta tb) σ H (.int ((a + b : Nat) : Int)) := ev_is (ev_add ha hb) (by rw [Int.natCast_add])
theorem ev_subn (ha : Ev ta σ H (.int (a : Int))) (hb : Ev tb σ H (.int (b : Int))) (h : b ≤ a) : Ev (tOp rSub ta tb) σ H (.int ((a - b : Nat) : Int)) := ev_is (ev_sub ha hb) (by rw [Int.natCast_sub h])
theorem ev_modn (ha : Ev ta σ H (.int (a : Int))) (hb : Ev tb σ H (.int (b : Int))) (h : 0 < b) : Ev (tOp rMod ta tb) σ H (.int ((a % b : Nat) : Int)) := ev_is (ev_mod ha hb (by omega)) (by rw [Int.natCast_emod])
theorem ev_divn (ha : Ev ta σ H (.int (a : Int))) (hb : Ev tb σ H (.int (b : Int))) (h : 0 < b) (h2 : b < 1073741824) : Ev (tOp rDiv ta tb) σ H (.int ((a / b : Nat) : Int)) := ev_is (ev_div ha hb (by omega)) (by rw [Int.natCast_ediv])
theorem ev_eqn (ha : Ev ta σ H (.int (a : Int))) (hb : Ev tb σ H (.int (b : Int))) : Ev (tOp rEq ta tb) σ H (.bl (decide (a = b))) := ev_is (ev_eqI ha hb) (by rw [show decide ((a : Int) = (b : Int)) = decide (a = b) from decide_eq_decide.mpr (by omega)])
theorem ev_cn {n : Nat} : Ev (tC (.int (n : Int))) σ H (.int (n : Int)) := ev_c
theorem src_range2n {ta : TA} {lo hi : Nat} (h : EvA ta σ H [.int (lo : Int), .int (hi : Int)]) (hb : lo ≤ 1000000 ∧ hi ≤ 1000000) : Src (iRng2 ta) σ H ((List.range (hi - lo)).map fun (i : Nat) => V.int ((lo + i : Nat) : Int)) := by
  have e := src_range2 (n := hi - lo) h (by omega) (by omega)
  have e2 : (fun (i : Nat) => V.int ((lo : Int) + (i : Int))) = fun (i : Nat) => V.int ((lo + i : Nat) : Int) := by
    funext i
    rw [Int.natCast_add]
  rw [e2] at e
  exact e
theorem isT_rg {xs : List V} {p : Addr} (h : Ev te σ H (.ref p)) (hq : SqT K H p xs) : Rg (te σ) H (isT K xs) := fun H1 e Q q => h H1 e _ fun H2 e2 => q _ H2 e2 ⟨p, rfl, ex_t (e.trans e2) hq⟩
end

section
variable {K : PySem.W.Frag} {σ : L2.St} {H H' : Hp} {ta tb te tx : TE} {D : Ends} {tz : TS} {P : V → Hp → Prop}
theorem q_asgR {i : Nat} (h : Rg (te σ) H P) (k : ∀ v H1, Ex H H1 → P v H1 → tz D (σ.set i (some v)) H1) : tSeq (tAsg te (gName i)) tz D σ H := h.go fun v H2 e p => k v H2 e p
theorem s_asgR {i : Nat} (h : Rg (te σ) H P) (k : ∀ v H1, Ex H H1 → P v H1 → D.nx (σ.set i (some v)) H1) : tAsg te (gName i) D σ H := h.go fun v H2 e p => k v H2 e p
theorem s_retR (h : Rg (te σ) H P) (k : ∀ v H1, Ex H H1 → P v H1 → D.rt v H1) : tRet te D σ H := h.go fun v H2 e p => k v H2 e p
theorem rg_cat {b : List Nat} {R : List Nat → Prop} (ha : Rg (ta σ) H (fun v _ => ∃ l, v = .str (S l) ∧ R l)) (hb : Ev tb σ H (.str (S b))) (hl : ∀ l, R l → l.length + b.length ≤ 1000000) :
    Rg (tOp rCat ta tb σ) H (fun v _ => ∃ l, v = .str (S (l ++ b)) ∧ R l) := fun H1 e Q q => ha H1 e _ fun x H2 e2 p => by
  obtain ⟨l, rfl, r⟩ := p
  exact hb H2 (e.trans e2) _ fun H3 e3 => ⟨l, b, rfl, rfl, hl l r, q _ H3 (e2.trans e3) ⟨l, rfl, r⟩⟩
end

/-! ### data compared -/
mutual
theorem dp_mono {K : PySem.W.Frag} {H H' : Hp} (e : Ex H H') : ∀ {v : V} {d : PyData}, Dp K H v d → Dp K H' v d
  | _, _, .non => .non
  | _, _, .bl b => .bl b
  | _, _, .int i => .int i
  | _, _, .str x => .str x
  | _, _, .lst h a => .lst (ex_l e h) (dpAll_mono e a)
  | _, _, .tup h a => .tup (ex_t e h) (dpAll_mono e a)
theorem dpAll_mono {K : PySem.W.Frag} {H H' : Hp} (e : Ex H H') : ∀ {vs : List V} {ds : List PyData}, DpAll K H vs ds → DpAll K H' vs ds
  | _, _, .nil => .nil
  | _, _, .cons h a => .cons (dp_mono e h) (dpAll_mono e a)
end
def natD (l : List Nat) : List PyData := l.map fun (i : Nat) => PyData.int (i : Int)
theorem dpAll_nat {K : PySem.W.Frag} {H : Hp} : ∀ l : List Nat, DpAll K H (natV l) (natD l)
  | [] => .nil
  | i :: r => .cons (.int (i : Int)) (dpAll_nat r)
theorem lay_nat : ∀ l : List Nat, PyData.canLayAll0 (natD l) = true
  | [] => by simp [natD, PyData.canLayAll0]
  | i :: r => by
    have := lay_nat r
    simp only [natD, List.map_cons, PyData.canLayAll0, PyData.canLay0, Bool.true_and]
    exact this
theorem depth_nat : ∀ l : List Nat, PyData.depthAll (natD l) = 0
  | [] => by simp [natD, PyData.depthAll]
  | i :: r => by
    have := depth_nat r
    simp only [natD, List.map_cons, PyData.depthAll, PyData.depth]
    rw [show PyData.depthAll (List.map (fun (i : Nat) => PyData.int (i : Int)) r) = 0 from this]
    rfl
theorem shaped_natT (l : List Nat) : SeqAt.shaped (.tuple (natD l)) = true := by
  unfold SeqAt.shaped
  rw [PyData.canLay0, lay_nat, PyData.depth, depth_nat]
  rfl
theorem shaped_natL (l : List Nat) : SeqAt.shaped (.list (natD l)) = true := by
  unfold SeqAt.shaped
  rw [PyData.canLay0, lay_nat, PyData.depth, depth_nat]
  rfl
theorem eqv_nat : ∀ a b : List Nat, PyData.eqvAll (natD a) (natD b) = decide (a = b)
  | [], [] => by simp [natD, PyData.eqvAll]
  | [], _ :: _ => by simp [natD, PyData.eqvAll]
  | _ :: _, [] => by simp [natD, PyData.eqvAll]
  | x :: a, y :: b => by
    have ih := eqv_nat a b
    simp only [natD, List.map_cons, PyData.eqvAll, PyData.eqv]
    rw [show PyData.eqvAll (List.map (fun (i : Nat) => PyData.int (i : Int)) a) (List.map (fun (i : Nat) => PyData.int (i : Int)) b) = decide (a = b) from ih]
    by_cases h : x = y
    · subst h
      simp
    · rw [show ((x : Int) == (y : Int)) = false from beq_eq_false_iff_ne.mpr (by omega), Bool.false_and]
      exact (decide_eq_false fun e => h (List.cons.inj e).1).symm
section
variable {X : Cx}
theorem oEqD (hu : X.A.units + 64 < cLine) : OpR X (compareOp .Eq) (rEqD X.K) := op_eqD hu
theorem oNeD (hu : X.A.units + 64 < cLine) : OpR X (compareOp .NotEq) (rNeD X.K) := op_neD hu
theorem oIn : OpR X (compareOp .In) (rIn X.K false) := op_in_seq
theorem oNi : OpR X (compareOp .NotIn) (rIn X.K true) := op_notIn_seq
def rIntB : List V → Hp → VK → Prop := fun xs H Q => ∃ k : Bool, xs = [.bl k] ∧ Q (.int (if k then 1 else 0)) H
theorem cIntB : CallR X (.type "int") rIntB := impC call_int1 fun xs H Q ⟨k, e, q⟩ => .inr ⟨k, e, q⟩
end
section
variable {K : PySem.W.Frag} {σ : L2.St} {H H' : Hp} {ta tb te tx tl : TE} {D : Ends} {tz tu : TS} {P : V → Hp → Prop} {x y z v : V}
def isD (K : PySem.W.Frag) (d : PyData) : V → Hp → Prop := fun v H => Dp K H v d
def isN (xs : List V) : V → Hp → Prop := fun v H => ∃ p, v = .ref p ∧ H p = some (.lst xs)
theorem isD_T {l : List Nat} {k : Hp → VK → Prop} (h : Rg k H (isT K (natV l))) : Rg k H (isD K (.tuple (natD l))) := h.imp fun v H2 _ p => by
  obtain ⟨p, rfl, hp⟩ := p
  exact .tup hp (dpAll_nat l)
theorem isD_N {l : List Nat} {k : Hp → VK → Prop} (h : Rg k H (isN (natV l))) : Rg k H (isD K (.list (natD l))) := h.imp fun v H2 _ p => by
  obtain ⟨p, rfl, hp⟩ := p
  exact .lst (sq_of hp) (dpAll_nat l)
theorem ev_eqD {d e : PyData} (ha : Rg (ta σ) H (isD K d)) (hb : ∀ H1, Ex H H1 → Rg (tb σ) H1 (isD K e)) (sd : SeqAt.shaped d = true) (se : SeqAt.shaped e = true) : Ev (tOp (rEqD K) ta tb) σ H (.bl (PyData.eqv d e)) := fun H1 a Q q =>
  ha H1 a _ fun x H2 e2 px => hb H2 (a.trans e2) H2 (Ex.refl H2) _ fun y H3 e3 py => ⟨d, e, dp_mono e3 px, py, sd, se, q H3 (e2.trans e3)⟩
theorem ev_neD {d e : PyData} (ha : Rg (ta σ) H (isD K d)) (hb : ∀ H1, Ex H H1 → Rg (tb σ) H1 (isD K e)) (sd : SeqAt.shaped d = true) (se : SeqAt.shaped e = true) : Ev (tOp (rNeD K) ta tb) σ H (.bl (!PyData.eqv d e)) := fun H1 a Q q =>
  ha H1 a _ fun x H2 e2 px => hb H2 (a.trans e2) H2 (Ex.refl H2) _ fun y H3 e3 py => ⟨d, e, dp_mono e3 px, py, sd, se, q H3 (e2.trans e3)⟩
theorem ev_eqTT {a b : List Nat} (ha : Rg (ta σ) H (isT K (natV a))) (hb : ∀ H1, Ex H H1 → Rg (tb σ) H1 (isT K (natV b))) : Ev (tOp (rEqD K) ta tb) σ H (.bl (decide (a = b))) :=
  ev_is (ev_eqD (isD_T ha) (fun H1 e => isD_T (hb H1 e)) (shaped_natT a) (shaped_natT b)) (by rw [PyData.eqv, eqv_nat])
theorem ev_neTT {a b : List Nat} (ha : Rg (ta σ) H (isT K (natV a))) (hb : ∀ H1, Ex H H1 → Rg (tb σ) H1 (isT K (natV b))) : Ev (tOp (rNeD K) ta tb) σ H (.bl (!decide (a = b))) :=
  ev_is (ev_neD (isD_T ha) (fun H1 e => isD_T (hb H1 e)) (shaped_natT a) (shaped_natT b)) (by rw [PyData.eqv, eqv_nat])
theorem rg_nil : Rg (tLst tNil σ) H (isN []) := fun H1 a Q q => ⟨Nat.zero_le _, fun p hp => q _ _ (Ex.new hp) ⟨p, rfl, upd_same⟩⟩
theorem nil_dec (a : List Nat) : decide (a = []) = a.isEmpty := by cases a <;> simp
/-- a made list of numbers is, is not empty -/
theorem ev_eqE {a : List Nat} (ha : Rg (ta σ) H (isN (natV a))) : Ev (tOp (rEqD K) ta (tLst tNil)) σ H (.bl a.isEmpty) :=
  ev_is (ev_eqD (isD_N ha) (fun H1 e => isD_N (l := []) rg_nil) (shaped_natL a) (shaped_natL [])) (by rw [PyData.eqv, eqv_nat, nil_dec])
theorem ev_neE {a : List Nat} (ha : Rg (ta σ) H (isN (natV a))) : Ev (tOp (rNeD K) ta (tLst tNil)) σ H (.bl (!a.isEmpty)) :=
  ev_is (ev_neD (isD_N ha) (fun H1 e => isD_N (l := []) rg_nil) (shaped_natL a) (shaped_natL [])) (by rw [PyData.eqv, eqv_nat, nil_dec])
theorem flat_nat : ∀ l : List Nat, (natV l).all flatV = true
  | [] => rfl
  | _ :: r => flat_nat r
theorem inV_nat (x : Nat) : ∀ l : List Nat, inV (.int (x : Int)) (natV l) = decide (x ∈ l)
  | [] => by simp [inV]
  | y :: r => by
    have ih := inV_nat x r
    unfold inV at ih ⊢
    rw [natV, List.map_cons, List.any_cons, ih]
    show ((y : Int) == (x : Int) || decide (x ∈ r)) = _
    by_cases h : x = y
    · subst h; simp
    · rw [show ((y : Int) == (x : Int)) = false from beq_eq_false_iff_ne.mpr (by omega)]
      simp [h]
theorem ev_inT {n : Nat} {l : List Nat} {p : Addr} (ha : Ev ta σ H (.int (n : Int))) (hb : Ev tb σ H (.ref p)) (h : SqT K H p (natV l)) : Ev (tOp (rIn K false) ta tb) σ H (.bl (decide (n ∈ l))) :=
  ev_is (ev_op ha hb (rv_isT h rfl (flat_nat l))) (by rw [inV_nat])
theorem ev_niT {n : Nat} {l : List Nat} {p : Addr} (ha : Ev ta σ H (.int (n : Int))) (hb : Ev tb σ H (.ref p)) (h : SqT K H p (natV l)) : Ev (tOp (rIn K true) ta tb) σ H (.bl (!decide (n ∈ l))) :=
  ev_is (ev_op ha hb (rv_niT h rfl (flat_nat l))) (by rw [inV_nat])
theorem ev_inL {n : Nat} {l : List Nat} {p : Addr} (ha : Ev ta σ H (.int (n : Int))) (hb : Ev tb σ H (.ref p)) (h : SqL K H p (natV l)) : Ev (tOp (rIn K false) ta tb) σ H (.bl (decide (n ∈ l))) :=
  ev_is (ev_op ha hb (rv_isL h rfl (flat_nat l))) (by rw [inV_nat])
theorem ev_intB {k : Bool} (h : Ev ta σ H (.bl k)) : Ev (tCB rIntB (tCons ta tNil)) σ H (.int (if k then 1 else 0)) := fun H1 e Q q => h H1 e _ fun H2 e2 => ⟨k, rfl, q H2 e2⟩
theorem s_par {tA : TA} {i j : Nat} (h : EvA tA σ H [x, y]) (k : ∀ H1, Ex H H1 → D.nx ((σ.set i (some x)).set j (some y)) H1) : tPar i j tA D σ H := h H (Ex.refl H) _ fun H1 e => ⟨x, y, rfl, k H1 e⟩
theorem rg_tup {tA : TA} {vs : List V} (h : EvA tA σ H vs) (hl : vs.length ≤ 1000) : Rg (tTup tA σ) H (isT K vs) := fun H1 e Q q => h H1 e _ fun H2 e2 => ⟨sz (by omega), fun p hp => q _ _ (e2.trans (Ex.new hp)) ⟨p, rfl, st_of upd_same⟩⟩
/-- for x in a tuple that is made on the way -/
theorem s_forTR {xs : List V} {j : Nat} (h : Rg (tl σ) H (isT K xs)) (Pv : Hp → Nat → L2.St → Hp → Prop) (h0 : ∀ H1, Ex H H1 → Pv H1 0 σ H1) (hk : ∀ H1 i σ' H', Pv H1 i σ' H' → Kp H1 H')
    (hs : ∀ H1, Ex H H1 → ∀ i x σ' H', xs[i]? = some x → Pv H1 i σ' H' → tu { D with nx := Pv H1 (i + 1), ct := Pv H1 (i + 1), bk := D.nx } (σ'.set j (some x)) H') (hd : ∀ H1, Ex H H1 → ∀ σ' H', Pv H1 xs.length σ' H' → D.nx σ' H') :
    tFor (iTup K tl) (gName j) tu D σ H := h.go fun v H1 e p => by
  obtain ⟨p, rfl, hp⟩ := p
  exact ⟨p, rfl, ⟨xs, hp⟩, for_tup (K := K) (a := p) (xs := xs) (Pv H1) (h0 H1 e) (fun i σ' H' _ q => (hk H1 i σ' H' q).t hp) (fun i x σ' H' hx q => hs H1 e i x σ' H' hx q) (hd H1 e)⟩
theorem q_forTR {xs : List V} {j : Nat} (h : Rg (tl σ) H (isT K xs)) (Pv : Hp → Nat → L2.St → Hp → Prop) (h0 : ∀ H1, Ex H H1 → Pv H1 0 σ H1) (hk : ∀ H1 i σ' H', Pv H1 i σ' H' → Kp H1 H')
    (hs : ∀ H1, Ex H H1 → ∀ i x σ' H', xs[i]? = some x → Pv H1 i σ' H' → tu { D with nx := Pv H1 (i + 1), ct := Pv H1 (i + 1), bk := tz D } (σ'.set j (some x)) H') (hd : ∀ H1, Ex H H1 → ∀ σ' H', Pv H1 xs.length σ' H' → tz D σ' H') :
    tSeq (tFor (iTup K tl) (gName j) tu) tz D σ H := s_forTR (D := { D with nx := tz D }) h Pv h0 hk hs hd
end

/-! ### join of signs, list(range(n)) -/
theorem glue_ones : ∀ (l : List Nat) (acc : Array Nat), (l.map fun c => S [c]).foldl (fun acc p => acc ++ (S []).cps ++ p.cps) acc = acc ++ l.toArray
  | [], acc => by simp
  | c :: r, acc => by
    rw [List.map_cons, List.foldl_cons, glue_ones r]
    simp [S]
theorem join_S (l : List Nat) : Txt.join (S []) (l.map fun c => S [c]) = S l := by
  cases l with
  | nil => rfl
  | cons c r =>
    unfold Txt.join Builtin.Str.glued
    rw [List.map_cons, List.drop_succ_cons, List.drop_zero, glue_ones]
    simp [S]
def rJoinC (K : PySem.W.Frag) : V → List V → Hp → VK → Prop := fun x xs H Q => ∃ (p : Addr) (l : List Nat), x = .str (S []) ∧ xs = [.ref p] ∧ SqL K H p (l.map fun c => V.str (S [c])) ∧ l.length ≤ 100000 ∧ Q (.str (S l)) H
theorem mJoinC {X : Cx} : MtR X "str.join" (rJoinC X.K) := impM mt_join fun x xs H Q ⟨p, l, e1, e2, h, hz, q⟩ => ⟨S [], p, l.map fun c => S [c], e1, e2, .inl (by rw [List.map_map]; exact h), by
  have e0 : (List.map (fun z : Str => z.length) (l.map fun c => S [c])).sum = l.length := by
    rw [List.map_map]
    clear h q hz
    induction l with
    | nil => rfl
    | cons c r ih =>
      rw [List.map_cons, List.sum_cons, ih, List.length_cons]
      show (S [c]).length + _ = _
      rw [S_len, List.length_singleton, Nat.add_comm]
  rw [e0, S_len, List.length_map]
  show l.length + l.length * 0 ≤ _
  omega, by rw [join_S]; exact q⟩
section
variable {K : PySem.W.Frag} {σ : L2.St} {H H' : Hp} {ta tb te to : TE}
theorem ev_join {l : List Nat} (ho : Ev to σ H (.str (S []))) (h : Rg (te σ) H (isN (l.map fun c => V.str (S [c])))) (hl : l.length ≤ 100000) : Ev (tM1 (rJoinC K) to te) σ H (.str (S l)) := fun H1 e Q q =>
  ho H1 e _ fun H2 e2 => ⟨⟨_, rfl⟩, (h.mono (e.trans e2)).go fun v H3 e3 p => by
    obtain ⟨p, rfl, hp⟩ := p
    exact ⟨p, l, rfl, rfl, sq_of hp, hl, q H3 (e2.trans e3)⟩⟩
theorem rg_listRange {n : Nat} (h : Ev ta σ H (.int (n : Int))) (hn : n ≤ 1000000) : Rg (tLstRg (tRg1 ta) σ) H (fun v H2 => ∃ p, v = .ref p ∧ H p = none ∧ H2 p = some (.lst (natV (List.range n)))) := fun H1 e Q q =>
  h H1 e _ fun H2 e2 => ⟨(n : Int), rfl, RgOk.of_le (by omega) (by omega) (by omega) (by omega), fun p hp => q _ _ (e2.trans (Ex.new hp)) ⟨p, rfl, fresh_back (e.trans e2) hp, by
    rw [upd_same]
    unfold rgV natV
    rw [show ((n : Int) - 0).toNat = n by omega]
    congr 2
    apply List.map_congr_left
    intro i _
    rw [Int.zero_add]⟩⟩
end

theorem nat_at {l : List Nat} {i : Nat} {x : V} (h : (natV l)[i]? = some x) : ∃ y, l[i]? = some y ∧ x = V.int (y : Int) := by
  unfold natV at h
  rw [List.getElem?_map] at h
  cases e : l[i]? with
  | none => rw [e] at h; cases h
  | some y => rw [e] at h; exact ⟨y, rfl, (Option.some.inj h).symm⟩
theorem nat_get {l : List Nat} {i y : Nat} (h : l[i]? = some y) : (natV l)[i]? = some (V.int (y : Int)) := by
  unfold natV
  rw [List.getElem?_map, h]
  rfl
theorem empty_S : ("" : Str) = S [] := by decide +kernel
def alph : List Nat := [97, 98, 99, 100, 101, 102, 103, 104, 105, 106, 107, 108, 109, 110, 111, 112, 113, 114, 115, 116, 117, 118, 119, 120, 121, 122]
theorem alph_S : ("abcdefghijklmnopqrstuvwxyz" : Str) = S alph := by decide +kernel
theorem alph_at {g : Nat} (h : g < 26) : alph[g]? = some (g + 97) := by
  have : ∀ g ∈ List.range 26, alph[g]? = some (g + 97) := by decide
  exact this g (List.mem_range.mpr h)
section
variable {K : PySem.W.Frag} {σ : L2.St} {H H' : Hp} {ta tb te to : TE}
theorem ev_ixLn {p : Addr} {l : List Nat} {n y : Nat} (ha : Ev ta σ H (.ref p)) (hb : Ev tb σ H (.int (n : Int))) (hp : SqL K H p (natV l)) (h : l[n]? = some y) : Ev (tOp (rIxL K) ta tb) σ H (.int (y : Int)) :=
  ev_op ha hb (rv_ixL hp (atI_nat (nat_get h)))
theorem ev_ixTn {p : Addr} {l : List Nat} {n y : Nat} (ha : Ev ta σ H (.ref p)) (hb : Ev tb σ H (.int (n : Int))) (hp : SqT K H p (natV l)) (h : l[n]? = some y) : Ev (tOp (rIxT K) ta tb) σ H (.int (y : Int)) :=
  ev_op ha hb (rv_ixT hp (atI_nat (nat_get h)))
theorem ev_min2n {a b : Nat} (ha : Ev ta σ H (.int (a : Int))) (hb : Ev tb σ H (.int (b : Int))) : Ev (tCB BW.rMin2 (tCons ta (tCons tb tNil))) σ H (.int ((min a b : Nat) : Int)) := ev_is (BW.ev_min2 ha hb) (congrArg V.int (by omega))
theorem ev_max2n {a b : Nat} (ha : Ev ta σ H (.int (a : Int))) (hb : Ev tb σ H (.int (b : Int))) : Ev (tCB BW.rMax2 (tCons ta (tCons tb tNil))) σ H (.int ((max a b : Nat) : Int)) := ev_is (BW.ev_max2 ha hb) (congrArg V.int (by omega))
end

/-! ### signs in texts, strip -/
section
variable {X : Cx}
def rInC : R2 := fun x y H Q => ∃ (c : Nat) (l : List Nat), x = .str (S [c]) ∧ y = .str (S l) ∧ Q (.bl (decide (c ∈ l))) H
def rNiC : R2 := fun x y H Q => ∃ (c : Nat) (l : List Nat), x = .str (S [c]) ∧ y = .str (S l) ∧ Q (.bl (!decide (c ∈ l))) H
theorem oInC : OpR X (compareOp .In) rInC := imp op_in_sign fun x y H Q ⟨c, l, e1, e2, q⟩ => ⟨c, S l, e1, e2, by rw [S_cps]; exact q⟩
theorem oNiC : OpR X (compareOp .NotIn) rNiC := imp op_notIn_sign fun x y H Q ⟨c, l, e1, e2, q⟩ => ⟨c, S l, e1, e2, by rw [S_cps]; exact q⟩
theorem takeWhile_all {p : Nat → Bool} : ∀ l : List Nat, (∀ c ∈ l, p c = true) → l.takeWhile p = l
  | [], _ => rfl
  | a :: r, h => by
    rw [List.takeWhile_cons, if_pos (h a List.mem_cons_self), takeWhile_all r fun c hc => h c (List.mem_cons_of_mem _ hc)]
theorem strip_all {l b : List Nat} (h : ∀ c ∈ l, c ∈ b) : Txt.stripChars (S l) (S b) = S [] := by
  have hg : ∀ c ∈ l, (S b).cps.contains c = true := fun c hc => by
    have := h c hc
    simpa [S] using this
  unfold Txt.stripChars
  rw [PyProof.Rows.stripBy_eq]
  have e1 : stripLo (S b).cps.contains true (S l) = l.length := by
    unfold stripLo
    rw [if_pos rfl, S_cps, takeWhile_all l hg]
  have e2 : stripHi (S b).cps.contains true (S l) l.length = l.length := by
    unfold stripHi
    rw [if_pos rfl, S_cps, S_len, List.drop_length]
    rfl
  rw [e1, e2]
  unfold Builtin.Str.strSub
  simp [S]
def rStripC : V → List V → Hp → VK → Prop := fun x xs H Q => ∃ l b : List Nat, x = .str (S l) ∧ xs = [.str (S b)] ∧ (∀ c ∈ l, c ∈ b) ∧ l.length ≤ 1000000 ∧ Q (.str (S [])) H
theorem mStripC : MtR X "str.strip" rStripC := impM mt_stripChars fun x xs H Q ⟨l, b, e1, e2, h, hz, q⟩ => ⟨S l, S b, e1, e2, by rw [S_len]; exact sz hz, by rw [strip_all h]; exact q⟩
end
section
variable {K : PySem.W.Frag} {σ : L2.St} {H H' : Hp} {ta tb te to : TE} {c : Nat} {l b : List Nat}
theorem ev_inC (ha : Ev ta σ H (.str (S [c]))) (hb : Ev tb σ H (.str (S l))) : Ev (tOp rInC ta tb) σ H (.bl (decide (c ∈ l))) := ev_op ha hb (rv_val fun H1 _ Q q => ⟨c, l, rfl, rfl, q⟩)
theorem ev_niC (ha : Ev ta σ H (.str (S [c]))) (hb : Ev tb σ H (.str (S l))) : Ev (tOp rNiC ta tb) σ H (.bl (!decide (c ∈ l))) := ev_op ha hb (rv_val fun H1 _ Q q => ⟨c, l, rfl, rfl, q⟩)
theorem ev_strip (ha : Ev ta σ H (.str (S l))) (hb : Ev tb σ H (.str (S b))) (h : ∀ c ∈ l, c ∈ b) (hz : l.length ≤ 1000000) : Ev (tM1 rStripC ta tb) σ H (.str (S [])) := fun H1 e Q q =>
  ha H1 e _ fun H2 e2 => ⟨⟨_, rfl⟩, hb H2 (e.trans e2) _ fun H3 e3 => ⟨l, b, rfl, rfl, h, hz, q H3 (e2.trans e3)⟩⟩
end
end BW

/-! Periods of lists: Fine and Wilf, roots, two words that make the same either way. Plain Lean. -/
namespace Pr
/-- period of the first n values of f -/
def PF {α : Type} (f : Nat → α) (n p : Nat) : Prop := ∀ i, i + p < n → f i = f (i + p)
theorem PF.mul {α : Type} {f : Nat → α} {n p : Nat} (h : PF f n p) : ∀ k i, i + k * p < n → f i = f (i + k * p)
  | 0, i, _ => by rw [Nat.zero_mul, Nat.add_zero]
  | k + 1, i, hi => by
    have e : i + (k + 1) * p = (i + k * p) + p := by rw [Nat.succ_mul]; omega
    rw [e] at hi ⊢
    rw [h.mul k i (by omega)]
    exact h _ hi
theorem PF.mod {α : Type} {f : Nat → α} {n p : Nat} (h : PF f n p) {i : Nat} (hi : i < n) : f (i % p) = f i := by
  have e : i % p + (i / p) * p = i := by rw [Nat.mul_comm]; exact Nat.mod_add_div i p
  have := h.mul (i / p) (i % p) (by rw [e]; exact hi)
  rw [e] at this
  exact this
theorem fw {α : Type} (f : Nat → α) : ∀ (m n p q : Nat), p + q ≤ m → 0 < p → 0 < q → PF f n p → PF f n q → p + q ≤ n + Nat.gcd p q → PF f n (Nat.gcd p q) := by
  intro m
  induction m with
  | zero => intro n p q h hp; omega
  | succ m ih =>
    have main : ∀ n p q : Nat, p + q ≤ m + 1 → 0 < p → p < q → PF f n p → PF f n q → p + q ≤ n + Nat.gcd p q → PF f n (Nat.gcd p q) := by
      intro n p q hm hp hpq h1 h2 hn
      have eg : Nat.gcd p (q - p) = Nat.gcd p q := by
        have e := Nat.gcd_add_self_right p (q - p)
        rw [show q - p + p = q by omega] at e
        exact e.symm
      have gp : Nat.gcd p q ∣ p := Nat.gcd_dvd_left p q
      have gle : Nat.gcd p q ≤ p := Nat.le_of_dvd hp gp
      have gq : Nat.gcd p q ≤ q - p := by
        rw [← eg]
        exact Nat.le_of_dvd (by omega) (Nat.gcd_dvd_right p (q - p))
      have g0 : 0 < Nat.gcd p q := Nat.gcd_pos_of_pos_left q hp
      have i1 : PF f (n - p) p := fun i hi => h1 i (by omega)
      have i2 : PF f (n - p) (q - p) := fun i hi => by
        rw [h2 i (by omega)]
        have := h1 (i + (q - p)) (by omega)
        rw [show i + (q - p) + p = i + q by omega] at this
        exact this.symm
      have ig := ih (n - p) p (q - p) (by omega) hp (by omega) i1 i2 (by rw [eg]; omega)
      rw [eg] at ig
      generalize Nat.gcd p q = g at *
      intro i hi
      by_cases c1 : i + g < n - p
      · exact ig i c1
      · by_cases c2 : p ≤ i
        · have a1 := h1 (i - p) (by omega)
          have a2 := h1 (i + g - p) (by omega)
          rw [show i - p + p = i by omega] at a1
          rw [show i + g - p + p = i + g by omega] at a2
          rw [← a1, ← a2, show i + g - p = (i - p) + g by omega]
          exact ig _ (by omega)
        · have a2 := h1 (i + g - p) (by omega)
          rw [show i + g - p + p = i + g by omega] at a2
          rw [← a2]
          obtain ⟨k, rfl⟩ := gp
          have ek : i + g - g * k + (k - 1) * g = i := by
            have : 1 ≤ k := Nat.one_le_iff_ne_zero.mpr (fun z => by subst z; omega)
            obtain ⟨j, rfl⟩ : ∃ j, k = j + 1 := ⟨k - 1, by omega⟩
            rw [Nat.add_sub_cancel, Nat.mul_succ, Nat.mul_comm j g]
            rw [Nat.mul_succ] at c2 a2 hn
            omega
          have := ig.mul (k - 1) (i + g - g * k) (by rw [ek]; omega)
          rw [ek] at this
          exact this.symm
    intro n p q hm hp hq h1 h2 hn
    rcases Nat.lt_trichotomy p q with c | c | c
    · exact main n p q hm hp c h1 h2 hn
    · subst c
      rw [Nat.gcd_self]
      exact h1
    · rw [Nat.gcd_comm] at hn ⊢
      exact main n q p (by omega) hq c h2 h1 (by omega)

/-- p is a period of w -/
def Per (w : List Nat) (p : Nat) : Prop := PF (fun i => w[i]?) w.length p
def perB (w : List Nat) (p : Nat) : Bool := decide (w.drop p = w.take (w.length - p))
theorem perB_iff {w : List Nat} {p : Nat} : perB w p = true ↔ Per w p := by
  unfold perB
  rw [decide_eq_true_iff]
  constructor
  · intro h i hi
    have e := congrArg (fun l : List Nat => l[i]?) h
    simp only [List.getElem?_drop, List.getElem?_take] at e
    rw [if_pos (by omega)] at e
    show w[i]? = w[i + p]?
    rw [← e, Nat.add_comm p i]
  · intro h
    apply List.ext_getElem?
    intro i
    rw [List.getElem?_drop, List.getElem?_take]
    by_cases hi : i < w.length - p
    · rw [if_pos hi]
      have e : w[i]? = w[i + p]? := h i (by omega)
      rw [e, Nat.add_comm]
    · rw [if_neg hi]
      exact List.getElem?_eq_none (by omega)
def pers (w : List Nat) : List Nat := ((List.range w.length).map (· + 1)).filter (perB w)
theorem mem_pers {w : List Nat} {p : Nat} : p ∈ pers w ↔ 1 ≤ p ∧ p ≤ w.length ∧ Per w p := by
  unfold pers
  rw [List.mem_filter, List.mem_map, perB_iff]
  constructor
  · rintro ⟨⟨i, hi, rfl⟩, h⟩
    rw [List.mem_range] at hi
    exact ⟨by omega, by omega, h⟩
  · rintro ⟨h1, h2, h3⟩
    exact ⟨⟨p - 1, List.mem_range.mpr (by omega), by omega⟩, h3⟩
theorem per_self (w : List Nat) : Per w w.length := fun i hi => by omega
theorem fw_word {w : List Nat} {p q : Nat} (hp : p ∈ pers w) (hq : q ∈ pers w) (h : p + q ≤ w.length + Nat.gcd p q) : Nat.gcd p q ∈ pers w := by
  obtain ⟨p1, p2, p3⟩ := mem_pers.mp hp
  obtain ⟨q1, q2, q3⟩ := mem_pers.mp hq
  refine mem_pers.mpr ⟨Nat.gcd_pos_of_pos_left q p1, Nat.le_trans (Nat.le_of_dvd p1 (Nat.gcd_dvd_left p q)) p2, ?_⟩
  exact fw _ (p + q) w.length p q (Nat.le_refl _) p1 q1 p3 q3 h

/-! ### roots -/
theorem rep_get (u : List Nat) : ∀ k i, i < k * u.length → (List.replicate k u).flatten[i]? = u[i % u.length]?
  | 0, i, h => by omega
  | k + 1, i, h => by
    rw [List.replicate_succ, List.flatten_cons]
    rw [Nat.succ_mul] at h
    by_cases c : i < u.length
    · rw [List.getElem?_append_left c, Nat.mod_eq_of_lt c]
    · rw [List.getElem?_append_right (by omega), rep_get u k _ (by omega), ← Nat.mod_eq_sub_mod (by omega)]
theorem rep_len (u : List Nat) (k : Nat) : (List.replicate k u).flatten.length = k * u.length := by simp
theorem pow_of_per {w : List Nat} {p : Nat} (h1 : 0 < p) (h2 : p ∣ w.length) (h : Per w p) (hw : 0 < w.length) : (List.replicate (w.length / p) (w.take p)).flatten = w := by
  have hp : p ≤ w.length := Nat.le_of_dvd hw h2
  have hl : (w.take p).length = p := by rw [List.length_take]; omega
  have hk : w.length / p * p = w.length := Nat.div_mul_cancel h2
  apply List.ext_getElem?
  intro i
  by_cases hi : i < w.length
  · rw [rep_get _ _ _ (by rw [hl, hk]; exact hi), hl, List.getElem?_take, if_pos (Nat.mod_lt _ h1)]
    exact PF.mod h hi
  · rw [List.getElem?_eq_none (by rw [rep_len, hl, hk]; omega), List.getElem?_eq_none (by omega)]
theorem per_of_pow {w : List Nat} {p k : Nat} (h1 : 0 < p) (hp : p ≤ w.length) (h : w = (List.replicate k (w.take p)).flatten) : Per w p ∧ p ∣ w.length := by
  have hl : (w.take p).length = p := by rw [List.length_take]; omega
  have e : w.length = k * p := by
    have := congrArg List.length h
    rw [rep_len, hl] at this
    exact this
  refine ⟨fun i hi => ?_, ⟨k, by rw [e, Nat.mul_comm]⟩⟩
  show w[i]? = w[i + p]?
  have a1 : ∀ j, j < w.length → w[j]? = (w.take p)[j % p]? := fun j hj => by
    rw [congrArg (fun l : List Nat => l[j]?) h]
    show (List.replicate k (w.take p)).flatten[j]? = _
    rw [rep_get _ _ _ (by rw [hl]; omega), hl]
  rw [a1 i (by omega), a1 (i + p) hi, Nat.add_mod_right]
def rootP (w : List Nat) : Nat := ((pers w).filter fun p => decide (w.length % p = 0)).headD 0
def rootL (w : List Nat) : List Nat := w.take (rootP w)
theorem find_first (q : Nat → Bool) : ∀ n, (∃ i, i < n ∧ q (i + 1) = true) → ∃ i, i < n ∧ (((List.range n).map (· + 1)).filter q).head? = some (i + 1) ∧ q (i + 1) = true ∧ ∀ j, j < i → q (j + 1) = false
  | 0, h => by obtain ⟨i, hi, _⟩ := h; omega
  | n + 1, h => by
    rw [List.range_succ, List.map_append, List.filter_append]
    by_cases c : ∃ i, i < n ∧ q (i + 1) = true
    · obtain ⟨i, hi, e, hq, hj⟩ := find_first q n c
      refine ⟨i, by omega, ?_, hq, hj⟩
      rw [List.head?_append, e]
      rfl
    · obtain ⟨i, hi, hq⟩ := h
      have e : i = n := by
        by_cases z : i < n
        · exact absurd ⟨i, z, hq⟩ c
        · omega
      subst e
      have e0 : ((List.range i).map (· + 1)).filter q = [] := by
        rw [List.filter_eq_nil_iff]
        intro a ha
        obtain ⟨j, hj, rfl⟩ := List.mem_map.mp ha
        rw [List.mem_range] at hj
        exact fun z => c ⟨j, hj, z⟩
      refine ⟨i, by omega, ?_, hq, fun j hj => ?_⟩
      · rw [e0]
        simp [hq]
      · cases z : q (j + 1) with
        | false => rfl
        | true => exact absurd ⟨j, hj, z⟩ c
theorem rootP_spec {w : List Nat} (hw : 0 < w.length) : ((pers w).filter fun p => decide (w.length % p = 0)).head? = some (rootP w) ∧ 1 ≤ rootP w ∧ rootP w ≤ w.length ∧ Per w (rootP w) ∧ rootP w ∣ w.length ∧ ∀ s, 1 ≤ s → Per w s → s ∣ w.length → rootP w ≤ s := by
  have ef : (pers w).filter (fun p => decide (w.length % p = 0)) = ((List.range w.length).map (· + 1)).filter fun p => perB w p && decide (w.length % p = 0) := by
    unfold pers
    rw [List.filter_filter]
    congr 1
    funext p
    rw [Bool.and_comm]
  obtain ⟨i, hi, e, hq, hj⟩ := find_first (fun p => perB w p && decide (w.length % p = 0)) w.length ⟨w.length - 1, by omega, by
    rw [show w.length - 1 + 1 = w.length by omega, Bool.and_eq_true]
    exact ⟨perB_iff.mpr (per_self w), decide_eq_true (Nat.mod_self _)⟩⟩
  have er : rootP w = i + 1 := by
    unfold rootP
    rw [ef, List.headD_eq_head?_getD, e]
    rfl
  rw [ef, er]
  rw [Bool.and_eq_true, perB_iff] at hq
  refine ⟨e, by omega, by omega, hq.1, Nat.dvd_of_mod_eq_zero (of_decide_eq_true hq.2), fun s h1 h2 h3 => ?_⟩
  by_cases c : i + 1 ≤ s
  · exact c
  · have z := hj (s - 1) (by omega)
    rw [show s - 1 + 1 = s by omega, perB_iff.mpr h2, decide_eq_true (Nat.mod_eq_zero_of_dvd h3)] at z
    exact absurd z (by decide)
theorem rootL_len {w : List Nat} (hw : 0 < w.length) : (rootL w).length = rootP w := by
  unfold rootL
  rw [List.length_take]
  have := rootP_spec hw
  omega
theorem root_pow {w : List Nat} (hw : 0 < w.length) : (List.replicate (w.length / (rootL w).length) (rootL w)).flatten = w := by
  rw [rootL_len hw]
  obtain ⟨_, h1, h2, h3, h4, _⟩ := rootP_spec hw
  exact pow_of_per h1 h4 h3 hw
theorem root_least {w : List Nat} (hw : 0 < w.length) {s : Nat} (h1 : 1 ≤ s) (h2 : s < (rootL w).length) : w ≠ (List.replicate (w.length / s) (w.take s)).flatten := by
  intro e
  rw [rootL_len hw] at h2
  obtain ⟨_, _, h3, _, _, h4⟩ := rootP_spec hw
  obtain ⟨p1, p2⟩ := per_of_pow h1 (by omega) e
  have := h4 s h1 p1 p2
  omega
/-- the least root divides each number whose words make the word -/
theorem root_dvd {w : List Nat} (hw : 0 < w.length) {g : Nat} (h1 : 1 ≤ g) (h2 : Per w g) (h3 : g ∣ w.length) : rootP w ∣ g := by
  obtain ⟨_, p1, p2, p3, p4, p5⟩ := rootP_spec hw
  have hle := p5 g h1 h2 h3
  by_cases c : g = w.length
  · rw [c]; exact p4
  · have g2 : g + g ≤ w.length := by
      obtain ⟨k, hk⟩ := h3
      have : k ≠ 0 := fun z => by subst z; omega
      have : k ≠ 1 := fun z => by subst z; omega
      rw [hk]
      calc g + g = g * 2 := by omega
        _ ≤ g * k := Nat.mul_le_mul_left _ (by omega)
    have g3 : Per w (Nat.gcd (rootP w) g) := fw _ (rootP w + g) w.length (rootP w) g (Nat.le_refl _) p1 h1 p3 h2 (by omega)
    have g4 := p5 _ (Nat.gcd_pos_of_pos_left g p1) g3 (Nat.dvd_trans (Nat.gcd_dvd_right _ g) h3)
    have g5 : Nat.gcd (rootP w) g ∣ rootP w := Nat.gcd_dvd_left _ _
    have g6 := Nat.le_of_dvd p1 g5
    have : Nat.gcd (rootP w) g = rootP w := by omega
    rw [← this]
    exact Nat.gcd_dvd_right _ _
theorem comm_half {w o : List Nat} (hw : 0 < w.length) (ho : 0 < o.length) {g : Nat} (hg : 1 ≤ g) (gw : g ∣ w.length) (go : g ∣ o.length) (pw : Per w g) (po : Per o g) (eq : ∀ i, i < g → w[i]? = o[i]?) : rootP o ≤ rootP w := by
  obtain ⟨_, p1, p2, p3, p4, p5⟩ := rootP_spec hw
  obtain ⟨_, q1, q2, q3, q4, q5⟩ := rootP_spec ho
  have pg := root_dvd hw hg pw gw
  have gle : g ≤ w.length := Nat.le_of_dvd hw gw
  have key : ∀ i, i < o.length → o[i]? = w[i % rootP w]? := fun i hi => by
    have a1 : o[i % g]? = o[i]? := PF.mod po hi
    have lt : i % g < g := Nat.mod_lt _ hg
    have a2 : w[i % g % rootP w]? = w[i % g]? := PF.mod p3 (i := i % g) (by omega)
    rw [Nat.mod_mod_of_dvd i pg] at a2
    rw [← a1, ← eq _ lt, ← a2]
  refine q5 (rootP w) p1 (fun i hi => ?_) (Nat.dvd_trans pg go)
  show o[i]? = o[i + rootP w]?
  rw [key i (by omega), key _ hi, Nat.add_mod_right]
theorem comm_root {w o : List Nat} (hw : 0 < w.length) (ho : 0 < o.length) : (w ++ o = o ++ w) ↔ rootL o = rootL w := by
  constructor
  · intro h
    have hz : ∀ i : Nat, (w ++ o)[i]? = (o ++ w)[i]? := fun i => by rw [h]
    have pz1 : PF (fun i => (w ++ o)[i]?) (w ++ o).length w.length := fun i hi => by
      rw [List.length_append] at hi
      show (w ++ o)[i]? = (w ++ o)[i + w.length]?
      rw [hz i, List.getElem?_append_left (by omega), List.getElem?_append_right (by omega), Nat.add_sub_cancel]
    have pz2 : PF (fun i => (w ++ o)[i]?) (w ++ o).length o.length := fun i hi => by
      rw [List.length_append] at hi
      show (w ++ o)[i]? = (w ++ o)[i + o.length]?
      rw [hz (i + o.length), List.getElem?_append_left (by omega), List.getElem?_append_right (by omega), Nat.add_sub_cancel]
    have g0 : 0 < Nat.gcd w.length o.length := Nat.gcd_pos_of_pos_left _ hw
    have gw : Nat.gcd w.length o.length ∣ w.length := Nat.gcd_dvd_left _ _
    have go : Nat.gcd w.length o.length ∣ o.length := Nat.gcd_dvd_right _ _
    have pg := fw _ (w.length + o.length) (w ++ o).length w.length o.length (Nat.le_refl _) hw ho pz1 pz2 (by rw [List.length_append]; omega)
    have glw := Nat.le_of_dvd hw gw
    have glo := Nat.le_of_dvd ho go
    generalize Nat.gcd w.length o.length = g at *
    have pw : Per w g := fun i hi => by
      have e : (w ++ o)[i]? = (w ++ o)[i + g]? := pg i (by rw [List.length_append]; omega)
      rw [List.getElem?_append_left (by omega), List.getElem?_append_left (by omega)] at e
      exact e
    have po : Per o g := fun i hi => by
      have e : (w ++ o)[i]? = (w ++ o)[i + g]? := pg i (by rw [List.length_append]; omega)
      rw [hz, hz, List.getElem?_append_left (by omega), List.getElem?_append_left (by omega)] at e
      exact e
    have eq : ∀ i, i < g → w[i]? = o[i]? := fun i hi => by
      have e := hz i
      rw [List.getElem?_append_left (by omega), List.getElem?_append_left (by omega)] at e
      exact e
    have l1 := comm_half hw ho g0 gw go pw po eq
    have l2 := comm_half ho hw g0 go gw po pw fun i hi => (eq i hi).symm
    have ep : rootP o = rootP w := by omega
    have dg := root_dvd hw g0 pw gw
    have hle := Nat.le_of_dvd g0 dg
    unfold rootL
    rw [ep]
    apply List.ext_getElem?
    intro i
    rw [List.getElem?_take, List.getElem?_take]
    by_cases c : i < rootP w
    · rw [if_pos c, if_pos c]
      exact (eq i (by omega)).symm
    · rw [if_neg c, if_neg c]
  · intro h
    have e1 := root_pow hw
    have e2 := root_pow ho
    rw [h] at e2
    generalize w.length / (rootL w).length = a at e1
    generalize o.length / (rootL w).length = b at e2
    rw [← e1, ← e2, ← List.flatten_append, ← List.flatten_append, List.replicate_append_replicate, List.replicate_append_replicate, Nat.add_comm]
end Pr

/-! The word of sharp: its groups step by step. Plain Lean. -/
namespace Pr
def gset (hi lo : Nat) (gs : List Nat) : List Nat := gs.map fun g => if g = hi then lo else g
def gstep (by_ : Nat) (gs : List Nat) (place : Nat) : List Nat :=
  gset (max (gs.getD place 0) (gs.getD (place + by_) 0)) (min (gs.getD place 0) (gs.getD (place + by_) 0)) gs
def gloop (size by_ : Nat) (gs : List Nat) : List Nat := (List.range (size - by_)).foldl (gstep by_) gs
def sharpSize (a b : Nat) : Nat := a + b - Nat.gcd a b - 1
def sharpL (a b : Nat) : List Nat := (gloop (sharpSize a b) b (gloop (sharpSize a b) a (List.range (sharpSize a b)))).map (· + 97)
def Good (size : Nat) (gs : List Nat) : Prop := gs.length = size ∧ ∀ g ∈ gs, g < size
theorem good_range (n : Nat) : Good n (List.range n) := ⟨List.length_range, fun _ h => List.mem_range.mp h⟩
theorem good_set {size hi lo : Nat} {gs : List Nat} (h : Good size gs) (hl : lo < size) : Good size (gset hi lo gs) := by
  refine ⟨by unfold gset; rw [List.length_map]; exact h.1, fun g hg => ?_⟩
  obtain ⟨x, hx, rfl⟩ := List.mem_map.mp hg
  show (if x = hi then lo else x) < size
  split
  · exact hl
  · exact h.2 x hx
theorem good_at {size i : Nat} {gs : List Nat} (h : Good size gs) (hi : i < size) : gs.getD i 0 < size ∧ gs[i]? = some (gs.getD i 0) := by
  have hl : i < gs.length := by rw [h.1]; exact hi
  rw [List.getD_eq_getElem?_getD, List.getElem?_eq_getElem hl]
  exact ⟨h.2 _ (List.getElem_mem hl), rfl⟩
theorem good_step {size by_ place : Nat} {gs : List Nat} (h : Good size gs) (hp : place + by_ < size) : Good size (gstep by_ gs place) :=
  good_set h (by have := (good_at h (i := place) (by omega)).1; omega)
def sharpOk (a b : Nat) : Bool := (sharpL a b).length == sharpSize a b && ((pers (sharpL a b)).contains a && ((pers (sharpL a b)).contains b && !(pers (sharpL a b)).contains (Nat.gcd a b)))
theorem sharp_all : ∀ a ∈ List.range 10, ∀ b ∈ List.range 10, 2 ≤ a → 2 ≤ b → a % b ≠ 0 → b % a ≠ 0 → sharpOk a b = true := by decide +kernel
theorem sharp_ok {a b : Nat} (ha : 2 ≤ a ∧ a ≤ 9) (hb : 2 ≤ b ∧ b ≤ 9) (h1 : a % b ≠ 0) (h2 : b % a ≠ 0) :
    (sharpL a b).length = sharpSize a b ∧ a ∈ pers (sharpL a b) ∧ b ∈ pers (sharpL a b) ∧ Nat.gcd a b ∉ pers (sharpL a b) := by
  have h := sharp_all a (List.mem_range.mpr (by omega)) b (List.mem_range.mpr (by omega)) ha.1 hb.1 h1 h2
  unfold sharpOk at h
  simp only [Bool.and_eq_true, beq_iff_eq, List.contains_iff_mem, Bool.not_eq_true', ← Bool.not_eq_true] at h
  exact h
theorem gcd_small {a b : Nat} (ha : 0 < a) (h2 : b % a ≠ 0) : Nat.gcd a b < a := by
  have h3 : Nat.gcd a b ∣ a := Nat.gcd_dvd_left a b
  have h4 := Nat.le_of_dvd ha h3
  by_cases c : Nat.gcd a b = a
  · exfalso
    have : a ∣ b := by
      have := Nat.gcd_dvd_right a b
      rw [c] at this
      exact this
    exact h2 (Nat.mod_eq_zero_of_dvd this)
  · omega
end Pr

/-! Two letters do: of each word of at most eleven letters there is one of two letters with the same periods. Plain Lean. -/
namespace Pr
/-- places that the periods bind together -/
def cls (n : Nat) (ps : List Nat) : List Nat := ps.foldl (fun gs p => gloop n p gs) (List.range n)
/-- gs tells apart at least what w tells apart -/
def Snd (w gs : List Nat) : Prop := gs.length = w.length ∧ ∀ i j, i < w.length → j < w.length → gs.getD i 0 = gs.getD j 0 → w.getD i 0 = w.getD j 0
theorem gset_len (hi lo : Nat) (gs : List Nat) : (gset hi lo gs).length = gs.length := by
  unfold gset
  rw [List.length_map]
theorem gset_at {hi lo : Nat} {gs : List Nat} {i : Nat} (h : i < gs.length) : (gset hi lo gs).getD i 0 = if gs.getD i 0 = hi then lo else gs.getD i 0 := by
  unfold gset
  rw [List.getD_eq_getElem?_getD, List.getElem?_map, List.getElem?_eq_getElem h, List.getD_eq_getElem?_getD, List.getElem?_eq_getElem h]
  rfl
theorem snd_step {w gs : List Nat} {p i : Nat} (h : Snd w gs) (hi : i + p < w.length) (hw : w.getD i 0 = w.getD (i + p) 0) : Snd w (gstep p gs i) := by
  obtain ⟨hl, hs⟩ := h
  refine ⟨by unfold gstep; rw [gset_len]; exact hl, fun a b ha hb e => ?_⟩
  unfold gstep at e
  rw [gset_at (by omega), gset_at (by omega)] at e
  have key : ∀ c, c < w.length → (gs.getD c 0 = gs.getD i 0 ∨ gs.getD c 0 = gs.getD (i + p) 0) → w.getD c 0 = w.getD i 0 := fun c hc z => by
    rcases z with z | z
    · exact hs c i hc (by omega) z
    · rw [hs c (i + p) hc hi z, hw]
  have mm : (max (gs.getD i 0) (gs.getD (i + p) 0) = gs.getD i 0 ∧ min (gs.getD i 0) (gs.getD (i + p) 0) = gs.getD (i + p) 0) ∨ (max (gs.getD i 0) (gs.getD (i + p) 0) = gs.getD (i + p) 0 ∧ min (gs.getD i 0) (gs.getD (i + p) 0) = gs.getD i 0) := by omega
  by_cases c1 : gs.getD a 0 = max (gs.getD i 0) (gs.getD (i + p) 0)
  · rw [if_pos c1] at e
    have ka := key a ha (by omega)
    by_cases c2 : gs.getD b 0 = max (gs.getD i 0) (gs.getD (i + p) 0)
    · exact hs a b ha hb (c1.trans c2.symm)
    · rw [if_neg c2] at e
      have kb := key b hb (by omega)
      rw [ka, kb]
  · rw [if_neg c1] at e
    by_cases c2 : gs.getD b 0 = max (gs.getD i 0) (gs.getD (i + p) 0)
    · rw [if_pos c2] at e
      have kb := key b hb (by omega)
      have ka := key a ha (by omega)
      rw [ka, kb]
    · rw [if_neg c2] at e
      exact hs a b ha hb e
theorem per_getD {w : List Nat} {p : Nat} : Per w p ↔ ∀ i, i + p < w.length → w.getD i 0 = w.getD (i + p) 0 := by
  constructor
  · intro h i hi
    have e : w[i]? = w[i + p]? := h i hi
    rw [List.getD_eq_getElem?_getD, List.getD_eq_getElem?_getD, e]
  · intro h i hi
    have e := h i hi
    rw [List.getD_eq_getElem?_getD, List.getD_eq_getElem?_getD, List.getElem?_eq_getElem (show i < w.length by omega), List.getElem?_eq_getElem hi] at e
    show w[i]? = w[i + p]?
    rw [List.getElem?_eq_getElem (show i < w.length by omega), List.getElem?_eq_getElem hi]
    exact congrArg some e
/-- what is bound stays bound -/
def Bnd (gs : List Nat) (i j : Nat) : Prop := i < gs.length ∧ j < gs.length ∧ gs.getD i 0 = gs.getD j 0
theorem bnd_set {gs : List Nat} {i j hi lo : Nat} (h : Bnd gs i j) : Bnd (gset hi lo gs) i j := by
  obtain ⟨h1, h2, h3⟩ := h
  refine ⟨by rw [gset_len]; exact h1, by rw [gset_len]; exact h2, ?_⟩
  rw [gset_at h1, gset_at h2, h3]
theorem bnd_step {gs : List Nat} {p i : Nat} (h : i + p < gs.length) : Bnd (gstep p gs i) i (i + p) := by
  unfold gstep
  refine ⟨by rw [gset_len]; omega, by rw [gset_len]; omega, ?_⟩
  rw [gset_at (by omega), gset_at h]
  split <;> split <;> omega
theorem gloop_inv {w : List Nat} {p : Nat} (hp : Per w p) : ∀ (m : Nat) (gs : List Nat), m ≤ w.length - p → Snd w gs →
    Snd w ((List.range m).foldl (gstep p) gs) ∧ (∀ a b, Bnd gs a b → Bnd ((List.range m).foldl (gstep p) gs) a b) ∧ ∀ i, i < m → Bnd ((List.range m).foldl (gstep p) gs) i (i + p)
  | 0, gs, _, h => ⟨h, fun _ _ x => x, fun i hi => by omega⟩
  | m + 1, gs, hm, h => by
    obtain ⟨h1, h2, h3⟩ := gloop_inv hp m gs (by omega) h
    rw [List.range_succ, List.foldl_append]
    show Snd w (gstep p _ m) ∧ (∀ a b, Bnd gs a b → Bnd (gstep p _ m) a b) ∧ ∀ i, i < m + 1 → Bnd (gstep p _ m) i (i + p)
    refine ⟨snd_step h1 (by omega) (per_getD.mp hp m (by omega)), fun a b x => bnd_set (h2 a b x), fun i hi => ?_⟩
    by_cases c : i < m
    · exact bnd_set (h3 i c)
    · have : i = m := by omega
      subst this
      exact bnd_step (by rw [h1.1]; omega)
theorem cls_inv {w : List Nat} : ∀ (ps : List Nat) (gs : List Nat), (∀ p ∈ ps, Per w p) → Snd w gs →
    Snd w (ps.foldl (fun gs p => gloop w.length p gs) gs) ∧ (∀ a b, Bnd gs a b → Bnd (ps.foldl (fun gs p => gloop w.length p gs) gs) a b) ∧ ∀ p ∈ ps, ∀ i, i + p < w.length → Bnd (ps.foldl (fun gs p => gloop w.length p gs) gs) i (i + p)
  | [], gs, _, h => ⟨h, fun _ _ x => x, fun p hp => by cases hp⟩
  | p :: ps, gs, hp, h => by
    obtain ⟨h1, h2, h3⟩ := gloop_inv (hp p List.mem_cons_self) (w.length - p) gs (Nat.le_refl _) h
    obtain ⟨k1, k2, k3⟩ := cls_inv ps (gloop w.length p gs) (fun q hq => hp q (List.mem_cons_of_mem _ hq)) h1
    refine ⟨k1, fun a b x => k2 a b (h2 a b x), fun q hq i hi => ?_⟩
    rcases List.mem_cons.mp hq with e | hq
    · subst e
      exact k2 _ _ (h3 i (by omega))
    · exact k3 q hq i hi
theorem snd_range (w : List Nat) : Snd w (List.range w.length) := by
  refine ⟨List.length_range, fun i j hi hj e => ?_⟩
  rw [List.getD_eq_getElem?_getD, List.getD_eq_getElem?_getD, List.getElem?_range hi, List.getElem?_range hj] at e
  rw [show i = j from e]
theorem cls_pers (w : List Nat) : pers (cls w.length (pers w)) = pers w := by
  obtain ⟨h1, _, h3⟩ := cls_inv (w := w) (pers w) (List.range w.length) (fun p hp => (mem_pers.mp hp).2.2) (snd_range w)
  have e : ∀ p, p ∈ (List.range w.length).map (· + 1) → perB (cls w.length (pers w)) p = perB w p := fun p hp => by
    obtain ⟨k, hk, rfl⟩ := List.mem_map.mp hp
    rw [List.mem_range] at hk
    rw [Bool.eq_iff_iff, perB_iff, perB_iff]
    constructor
    · intro h
      refine per_getD.mpr fun i hi => h1.2 i (i + (k + 1)) (by omega) hi ?_
      exact per_getD.mp h i (by show i + (k + 1) < (cls w.length (pers w)).length; rw [show (cls w.length (pers w)).length = w.length from h1.1]; exact hi)
    · intro h
      refine per_getD.mpr fun i hi => ?_
      rw [show (cls w.length (pers w)).length = w.length from h1.1] at hi
      exact (h3 (k + 1) (mem_pers.mpr ⟨by omega, by omega, h⟩) i hi).2.2
  show ((List.range (cls w.length (pers w)).length).map (· + 1)).filter (perB (cls w.length (pers w))) = ((List.range w.length).map (· + 1)).filter (perB w)
  rw [show (cls w.length (pers w)).length = w.length from h1.1]
  exact List.filter_congr e
def subs : List Nat → List (List Nat)
  | [] => [[]]
  | a :: r => (subs r).map (fun s => a :: s) ++ subs r
theorem filter_subs (f : Nat → Bool) : ∀ l : List Nat, l.filter f ∈ subs l
  | [] => by simp [subs]
  | a :: r => by
    unfold subs
    rw [List.filter_cons]
    split
    · exact List.mem_append_left _ (List.mem_map.mpr ⟨_, filter_subs f r, rfl⟩)
    · exact List.mem_append_right _ (filter_subs f r)
def wits : List (List (List Nat)) := [
  [[]],
  [[97]],
  [[97, 97], [97, 98]],
  [[97, 97, 97], [97, 97, 98], [97, 98, 97]],
  [[97, 97, 97, 97], [97, 97, 97, 98], [97, 97, 98, 97], [97, 98, 97, 98]],
  [[97, 97, 97, 97, 97], [97, 97, 97, 97, 98], [97, 97, 97, 98, 97], [97, 97, 98, 97, 97], [97, 98, 97, 97, 98], [97, 98, 97, 98, 97]],
  [[97, 97, 97, 97, 97, 97], [97, 97, 97, 97, 97, 98], [97, 97, 97, 97, 98, 97], [97, 97, 97, 98, 97, 97], [97, 97, 98, 97, 97, 98], [97, 98, 97, 97, 97, 98], [97, 98, 97, 97, 98, 97], [97, 98, 97, 98, 97, 98]],
  [[97, 97, 97, 97, 97, 97, 97], [97, 97, 97, 97, 97, 97, 98], [97, 97, 97, 97, 97, 98, 97], [97, 97, 97, 97, 98, 97, 97], [97, 97, 97, 98, 97, 97, 97], [97, 97, 98, 97, 97, 97, 98], [97, 97, 98, 97, 97, 98, 97], [97, 98, 97, 97, 97, 97, 98], [97, 98, 97, 97, 97, 98, 97], [97, 98, 97, 98, 97, 98, 97]],
  [[97, 97, 97, 97, 97, 97, 97, 97], [97, 97, 97, 97, 97, 97, 97, 98], [97, 97, 97, 97, 97, 97, 98, 97], [97, 97, 97, 97, 97, 98, 97, 97], [97, 97, 97, 97, 98, 97, 97, 97], [97, 97, 97, 98, 97, 97, 97, 98], [97, 97, 98, 97, 97, 97, 97, 98], [97, 97, 98, 97, 97, 97, 98, 97], [97, 97, 98, 97, 97, 98, 97, 97], [97, 98, 97, 97, 97, 97, 97, 98], [97, 98, 97, 97, 97, 97, 98, 97], [97, 98, 97, 97, 98, 97, 97, 98], [97, 98, 97, 98, 97, 98, 97, 98]],
  [[97, 97, 97, 97, 97, 97, 97, 97, 97], [97, 97, 97, 97, 97, 97, 97, 97, 98], [97, 97, 97, 97, 97, 97, 97, 98, 97], [97, 97, 97, 97, 97, 97, 98, 97, 97], [97, 97, 97, 97, 97, 98, 97, 97, 97], [97, 97, 97, 97, 98, 97, 97, 97, 97], [97, 97, 97, 98, 97, 97, 97, 97, 98], [97, 97, 97, 98, 97, 97, 97, 98, 97], [97, 97, 98, 97, 97, 97, 97, 97, 98], [97, 97, 98, 97, 97, 97, 97, 98, 97], [97, 97, 98, 97, 97, 97, 98, 97, 97], [97, 97, 98, 97, 97, 98, 97, 97, 98], [97, 98, 97, 97, 97, 97, 97, 97, 98], [97, 98, 97, 97, 97, 97, 97, 98, 97], [97, 98, 97, 97, 98, 97, 97, 98, 97], [97, 98, 97, 98, 97, 97, 98, 97, 98], [97, 98, 97, 98, 97, 98, 97, 98, 97]],
  [[97, 97, 97, 97, 97, 97, 97, 97, 97, 97], [97, 97, 97, 97, 97, 97, 97, 97, 97, 98], [97, 97, 97, 97, 97, 97, 97, 97, 98, 97], [97, 97, 97, 97, 97, 97, 97, 98, 97, 97], [97, 97, 97, 97, 97, 97, 98, 97, 97, 97], [97, 97, 97, 97, 97, 98, 97, 97, 97, 97], [97, 97, 97, 97, 98, 97, 97, 97, 97, 98], [97, 97, 97, 98, 97, 97, 97, 97, 97, 98], [97, 97, 97, 98, 97, 97, 97, 97, 98, 97], [97, 97, 97, 98, 97, 97, 97, 98, 97, 97], [97, 97, 98, 97, 97, 97, 97, 97, 97, 98], [97, 97, 98, 97, 97, 97, 97, 97, 98, 97], [97, 97, 98, 97, 97, 97, 97, 98, 97, 97], [97, 97, 98, 97, 97, 98, 97, 97, 98, 97], [97, 98, 97, 97, 97, 97, 97, 97, 97, 98], [97, 98, 97, 97, 97, 97, 97, 97, 98, 97], [97, 98, 97, 97, 97, 98, 97, 97, 97, 98], [97, 98, 97, 97, 98, 97, 98, 97, 97, 98], [97, 98, 97, 98, 97, 97, 97, 98, 97, 98], [97, 98, 97, 98, 97, 97, 98, 97, 98, 97], [97, 98, 97, 98, 97, 98, 97, 98, 97, 98]],
  [[97, 97, 97, 97, 97, 97, 97, 97, 97, 97, 97], [97, 97, 97, 97, 97, 97, 97, 97, 97, 97, 98], [97, 97, 97, 97, 97, 97, 97, 97, 97, 98, 97], [97, 97, 97, 97, 97, 97, 97, 97, 98, 97, 97], [97, 97, 97, 97, 97, 97, 97, 98, 97, 97, 97], [97, 97, 97, 97, 97, 97, 98, 97, 97, 97, 97], [97, 97, 97, 97, 97, 98, 97, 97, 97, 97, 97], [97, 97, 97, 97, 98, 97, 97, 97, 97, 97, 98], [97, 97, 97, 97, 98, 97, 97, 97, 97, 98, 97], [97, 97, 97, 98, 97, 97, 97, 97, 97, 97, 98], [97, 97, 97, 98, 97, 97, 97, 97, 97, 98, 97], [97, 97, 97, 98, 97, 97, 97, 97, 98, 97, 97], [97, 97, 97, 98, 97, 97, 97, 98, 97, 97, 97], [97, 97, 98, 97, 97, 97, 97, 97, 97, 97, 98], [97, 97, 98, 97, 97, 97, 97, 97, 97, 98, 97], [97, 97, 98, 97, 97, 97, 97, 97, 98, 97, 97], [97, 97, 98, 97, 97, 97, 98, 97, 97, 97, 98], [97, 97, 98, 97, 97, 98, 97, 97, 98, 97, 97], [97, 98, 97, 97, 97, 97, 97, 97, 97, 97, 98], [97, 98, 97, 97, 97, 97, 97, 97, 97, 98, 97], [97, 98, 97, 97, 97, 98, 97, 97, 97, 98, 97], [97, 98, 97, 97, 98, 97, 97, 98, 97, 97, 98], [97, 98, 97, 97, 98, 97, 98, 97, 97, 98, 97], [97, 98, 97, 97, 98, 98, 97, 98, 97, 97, 98], [97, 98, 97, 98, 97, 97, 97, 97, 98, 97, 98], [97, 98, 97, 98, 97, 97, 97, 98, 97, 98, 97], [97, 98, 97, 98, 97, 98, 97, 98, 97, 98, 97]]]
def okAt (n : Nat) : Bool := (subs ((List.range n).map (· + 1))).all fun s => !decide (pers (cls (n + 1) (s ++ [n + 1])) = s ++ [n + 1]) || (wits.getD (n + 1) []).any fun x => decide (x.length = n + 1) && (x.all fun c => c == 97 || c == 98) && decide (pers x = s ++ [n + 1])
theorem ok_0 : okAt 0 = true := by decide +kernel
theorem ok_1 : okAt 1 = true := by decide +kernel
theorem ok_2 : okAt 2 = true := by decide +kernel
theorem ok_3 : okAt 3 = true := by decide +kernel
theorem ok_4 : okAt 4 = true := by decide +kernel
theorem ok_5 : okAt 5 = true := by decide +kernel
theorem ok_6 : okAt 6 = true := by decide +kernel
theorem ok_7 : okAt 7 = true := by decide +kernel
theorem ok_8 : okAt 8 = true := by decide +kernel
theorem ok_9 : okAt 9 = true := by decide +kernel
theorem ok_10 : okAt 10 = true := by decide +kernel
theorem ok_all (n : Nat) (h : n < 11) : okAt n = true := by
  match n, h with
  | 0, _ => exact ok_0
  | 1, _ => exact ok_1
  | 2, _ => exact ok_2
  | 3, _ => exact ok_3
  | 4, _ => exact ok_4
  | 5, _ => exact ok_5
  | 6, _ => exact ok_6
  | 7, _ => exact ok_7
  | 8, _ => exact ok_8
  | 9, _ => exact ok_9
  | 10, _ => exact ok_10
theorem twin_exists {w : List Nat} (h : w.length ≤ 11) : ∃ x : List Nat, x.length = w.length ∧ (∀ c ∈ x, c = 97 ∨ c = 98) ∧ pers x = pers w := by
  cases e : w.length with
  | zero =>
    have : w = [] := List.length_eq_zero_iff.mp e
    subst this
    exact ⟨[], rfl, fun c hc => (by cases hc), rfl⟩
  | succ n =>
    have ok := ok_all n (by omega)
    have ep : pers w = ((List.range n).map (· + 1)).filter (perB w) ++ [n + 1] := by
      unfold pers
      rw [e, List.range_succ, List.map_append, List.filter_append]
      congr 1
      have hp : perB w (n + 1) = true := by
        rw [← e]
        exact perB_iff.mpr (per_self w)
      simp [hp]
    have hc := cls_pers w
    rw [e, ep] at hc
    unfold okAt at ok
    have o := List.all_eq_true.mp ok _ (filter_subs (perB w) ((List.range n).map (· + 1)))
    rw [hc] at o
    rw [decide_eq_true rfl] at o
    have o2 : ((wits.getD (n + 1) []).any fun x => decide (x.length = n + 1) && (x.all fun c => c == 97 || c == 98) && decide (pers x = ((List.range n).map (· + 1)).filter (perB w) ++ [n + 1])) = true := o
    obtain ⟨x, hx, o3⟩ := List.any_eq_true.mp o2
    rw [Bool.and_eq_true, Bool.and_eq_true, decide_eq_true_iff, decide_eq_true_iff, List.all_eq_true] at o3
    refine ⟨x, o3.1.1, fun c hc => ?_, by rw [o3.2, ep]⟩
    have := o3.1.2 c hc
    simpa using this
end Pr

namespace BW
open PySem PySem.Spec PyProof.Rows L2 Evl

def topS (i : Nat) : Stmt := PySem.Challenge.pw_borderrow_k30_whole_two_letters_do.main.body.getD i (.Pass ⟨0, 0, 0, 0⟩)
abbrev s_l_cell_at : Stmt := topS 4
abbrev N_l_cell_at : List Str := ["_law_script", "_law_k"]
theorem sc_l_cell_at : FnScope N_l_cell_at ["_law_script", "_law_k"] (defScope s_l_cell_at) := ⟨rfl, rfl, rfl, by decide +kernel, rfl, by decide +kernel, by decide +kernel⟩
abbrev s_l_drawn : Stmt := topS 6
abbrev N_l_drawn : List Str := ["_law_number", "_law_k", "_law_drawn_here"]
theorem sc_l_drawn : FnScope N_l_drawn ["_law_number", "_law_k"] (defScope s_l_drawn) := ⟨rfl, rfl, rfl, by decide +kernel, rfl, by decide +kernel, by decide +kernel⟩
abbrev s_l_periods : Stmt := topS 8
abbrev N_l_periods : List Str := ["_law_word", "_law_found", "_law_by", "_law_at"]
theorem sc_l_periods : FnScope N_l_periods ["_law_word"] (defScope s_l_periods) := ⟨rfl, rfl, rfl, by decide +kernel, rfl, by decide +kernel, by decide +kernel⟩
abbrev s_periods : Stmt := topS 1
abbrev N_periods : List Str := ["word", "by"]
theorem sc_periods : FnScope N_periods ["word"] (defScope s_periods) := ⟨rfl, rfl, rfl, by decide +kernel, rfl, by decide +kernel, by decide +kernel⟩
abbrev s_l_mixed : Stmt := topS 5
abbrev N_l_mixed : List Str := ["_law_script", "_law_k", "_law_drawn_here"]
theorem sc_l_mixed : FnScope N_l_mixed ["_law_script", "_law_k"] (defScope s_l_mixed) := ⟨rfl, rfl, rfl, by decide +kernel, rfl, by decide +kernel, by decide +kernel⟩
abbrev s_l_text : Stmt := topS 7
abbrev N_l_text : List Str := ["_law_number", "_law_most", "_law_letters", "_law_many", "_law_found", "_law_k", "_law_by"]
theorem sc_l_text : FnScope N_l_text ["_law_number", "_law_most"] (defScope s_l_text) := ⟨rfl, rfl, rfl, by decide +kernel, rfl, by decide +kernel, by decide +kernel⟩
abbrev s_twin : Stmt := topS 2
abbrev N_twin : List Str := ["word", "due", "some", "size", "longer", "part", "other"]
theorem sc_twin : FnScope N_twin ["word"] (defScope s_twin) := ⟨rfl, rfl, rfl, by decide +kernel, rfl, by decide +kernel, by decide +kernel⟩
abbrev s_law : Stmt := topS 9
abbrev N_law : List Str := ["_law_script", "_law_word", "_law_found", "_law_letter"]
theorem sc_law : FnScope N_law ["_law_script"] (defScope s_law) := ⟨rfl, rfl, rfl, by decide +kernel, rfl, by decide +kernel, by decide +kernel⟩
structure Tx (mg : Str → Option Value) : Prop where
  m_isinstance : mg "isinstance" = none
  m_len : mg "len" = none
  m_range : mg "range" = none
  m_str : mg "str" = none
  m_tuple : mg "tuple" = none
structure Cal (P : Program) (w : World) (K : PySem.W.Frag) (mg : Str → Option Value) (base : Heap) (k : Nat) (x : Str) (ps : List Str) (sp : Sp) : Prop where
  ex : ∃ (f : Addr) (fd : FuncData), FnOk P w K mg base CX0 k f fd ps sp ∧ mg x = some (.ref f) ∧ PySem.W.keepIn K (.ref f) = true ∧ Binds K fd ps []
structure Dfn (K : PySem.W.Frag) (mg : Str → Option Value) (x : Str) (st : Stmt) (ps : List Str) : Prop where
  ex : ∃ (f : Addr) (fd : FuncData), Fun K x x st f fd ∧ mg x = some (.ref f) ∧ Binds K fd ps []
section
variable {P : Program} {w : World} {K : PySem.W.Frag} {mg : Str → Option Value} {base : Heap}
/-! ### _law_cell_at -/
def cellZ (ns : List Int) (k : Nat) : Int := ns.getD k 0
def sp_l_cell_at (K : PySem.W.Frag) : Sp := fun vs H Q _ => ∃ (a : Addr) (ns : List Int) (k : Nat), vs = [.ref a, .int (k : Int)] ∧ SqL K H a (ns.map V.int) ∧ RetV (.int (cellZ ns k)) H Q
theorem ok_l_cell_at (T : Tx mg) (D : Dfn K mg "_law_cell_at" s_l_cell_at ["_law_script", "_law_k"])  : Cal P w K mg base 1 "_law_cell_at" ["_law_script", "_law_k"] (sp_l_cell_at K) := by
  obtain ⟨f, fd, F, mF, bF⟩ := D.ex
  refine ⟨f, fd, F.ok sc_l_cell_at (fun vs H Q E h => ?_) (fun cdv A outer s H vs Q E hr h => ?_), mF, F.kp, bF⟩
  · obtain ⟨a, ns, k, rfl, hS, q⟩ := h
    rfl
  · have hu := hu_of hr
    obtain ⟨a, ns, k, rfl, hS, q⟩ := h
    refine ⟨_, (pss_cons (ps_if (pt_cmpR oLt (pv 1) (pe_callB (show CallR _ (.builtin "len") (rLenQ K) from cLenQ) (by rfl) T.m_len (by decide +kernel) (pa_cons (pv 0) pa_nil)) (nomark _)) (pss_one (ps_ret (pe_ix (show IxR _ (rIxL K) from ix_list) (pv 0) (pv 1) (fun _ _ => rfl)))) pss_nil)
      (pss_one (ps_ret pe_int))), ?_⟩
    refine q_when (et_test (ev_lt (ev_var rfl) (ev_lenL (ev_var rfl) hS))) (fun hb H1 e1 => ?_) (fun hb H1 e1 => ?_)
    · have hk : k < ns.length := by
        have := of_decide_eq_true hb
        rw [List.length_map] at this
        omega
      refine s_ret (ev_op (ev_var rfl) (ev_var rfl) (rv_ixL (ex_l e1 hS) (atI_nat (v := V.int (cellZ ns k)) ?_))) fun H2 e2 => q H2 (e1.trans e2)
      rw [List.getElem?_map, List.getElem?_eq_getElem hk]
      unfold cellZ
      rw [List.getD_eq_getElem?_getD, List.getElem?_eq_getElem hk]
      rfl
    · have hk : ns.length ≤ k := by
        have := of_decide_eq_false hb
        rw [List.length_map] at this
        omega
      have e0 : cellZ ns k = 0 := by
        unfold cellZ
        rw [List.getD_eq_getElem?_getD, List.getElem?_eq_none hk]
        rfl
      rw [e0] at q
      exact s_ret ev_c fun H2 e2 => q H2 (e1.trans e2)
/-! ### _law_drawn -/
def hashE (x : Int) : Int := x * 69621 % 2147483647
def drawZ (n : Int) (k : Nat) : Int := (hashE (n + 104729 * (k : Int) + 17) * hashE (n + 104729 * (k : Int) + 17) + 3 * hashE (n + 104729 * (k : Int) + 17) + (k : Int)) % 2147483629
theorem hashE_lt (x : Int) : 0 ≤ hashE x ∧ hashE x < 2147483647 := ⟨Int.emod_nonneg _ (by decide), Int.emod_lt_of_pos _ (by decide)⟩
theorem drawZ_lt (n : Int) (k : Nat) : 0 ≤ drawZ n k ∧ drawZ n k < 2147483629 := ⟨Int.emod_nonneg _ (by decide), Int.emod_lt_of_pos _ (by decide)⟩
def sp_l_drawn (K : PySem.W.Frag) : Sp := fun vs H Q _ => ∃ (n : Int) (k : Nat), vs = [.int n, .int (k : Int)] ∧ k < 1000 ∧ RetV (.int (drawZ n k)) H Q
theorem sv_drawn {K : PySem.W.Frag} {H : Hp} {n : Int} {k : Nat} (hk : k < 1000) : SpV (sp_l_drawn K) [.int n, .int (k : Int)] H (.int (drawZ n k)) :=
  fun H1 e Q q E => ⟨n, k, rfl, hk, q⟩
theorem ok_l_drawn (T : Tx mg) (D : Dfn K mg "_law_drawn" s_l_drawn ["_law_number", "_law_k"])  : Cal P w K mg base 1 "_law_drawn" ["_law_number", "_law_k"] (sp_l_drawn K) := by
  obtain ⟨f, fd, F, mF, bF⟩ := D.ex
  refine ⟨f, fd, F.ok sc_l_drawn (fun vs H Q E h => ?_) (fun cdv A outer s H vs Q E hr h => ?_), mF, F.kp, bF⟩
  · obtain ⟨n, k, rfl, hk, q⟩ := h
    rfl
  · have hu := hu_of hr
    obtain ⟨n, k, rfl, hk, q⟩ := h
    refine ⟨_, (pss_cons (ps_set (i := 2) sc_l_drawn.nd rfl (Or.inl rfl) (pe_op oMod (pe_op oMul (pe_op oAdd (pe_op oAdd (pv 0) (pe_op oMul pe_int (pv 1))) pe_int) pe_int) pe_int))
      (pss_one (ps_ret (pe_op oMod (pe_op oAdd (pe_op oAdd (pe_op oMul (pv 2) (pv 2)) (pe_op oMul pe_int (pv 2))) (pv 1)) pe_int)))), ?_⟩
    have b := hashE_lt (n + 104729 * (k : Int) + 17)
    refine q_asg (ev_mod (ev_mul (ev_add (ev_add (ev_var rfl) (ev_mul ev_c (ev_var rfl) (.inl (by omega)))) ev_c) ev_c (.inr (by omega))) ev_c (by omega)) fun H1 e1 => ?_
    exact s_ret (ev_mod (ev_add (ev_add (ev_mul (ev_var rfl) (ev_var rfl) (.inl (by show _ < hashE _ ∧ hashE _ < _; omega))) (ev_mul ev_c (ev_var rfl) (.inl (by omega)))) (ev_var rfl)) ev_c (by omega)) fun H2 e2 => q H2 (e1.trans e2)
/-! ### _law_periods -/
def sp_l_periods (K : PySem.W.Frag) : Sp := fun vs H Q _ => ∃ w : List Nat, vs = [.str (S w)] ∧ w.length ≤ 1000 ∧ RetT K (natV (Pr.pers w)) H Q
theorem sv_l_periods {K : PySem.W.Frag} {H : Hp} {w : List Nat} (h : w.length ≤ 1000) : SpP (sp_l_periods K) [.str (S w)] H (isT K (natV (Pr.pers w))) :=
  fun H1 e Q q E => ⟨w, rfl, h, fun p H2 e2 h2 => q _ H2 e2 ⟨p, rfl, h2⟩⟩
def persTo (w : List Nat) (n : Nat) : List Nat := ((List.range n).map (· + 1)).filter (Pr.perB w)
theorem persTo_succ (w : List Nat) (n : Nat) : persTo w (n + 1) = if Pr.perB w (n + 1) = true then persTo w n ++ [n + 1] else persTo w n := by
  unfold persTo
  rw [List.range_succ, List.map_append, List.filter_append, List.map_cons, List.map_nil, List.filter_cons]
  split
  · rfl
  · rw [List.filter_nil, List.append_nil]
theorem persTo_len (w : List Nat) (n : Nat) : (persTo w n).length ≤ n := by
  have h1 : (persTo w n).length ≤ ((List.range n).map (· + 1)).length := List.length_filter_le _ _
  rw [List.length_map, List.length_range] at h1
  exact h1
theorem natV_snoc (l : List Nat) (x : Nat) : natV l ++ [V.int (x : Int)] = natV (l ++ [x]) := by
  unfold natV
  rw [List.map_append]
  rfl
/-- no place differs: a period -/
def misses (w : List Nat) (p : Nat) : List Nat := (List.range (w.length - p)).filter fun i => !decide (w.getD i 0 = w.getD (i + p) 0)
theorem misses_nil (w : List Nat) (p : Nat) : (misses w p).isEmpty = Pr.perB w p := by
  rw [Bool.eq_iff_iff, Pr.perB_iff, List.isEmpty_iff]
  unfold misses
  rw [List.filter_eq_nil_iff]
  constructor
  · intro h i hi
    have h1 := h i (List.mem_range.mpr (by omega))
    rw [Bool.not_eq_true, Bool.not_eq_false', decide_eq_true_iff, List.getD_eq_getElem?_getD, List.getD_eq_getElem?_getD, List.getElem?_eq_getElem (show i < w.length by omega), List.getElem?_eq_getElem hi] at h1
    show w[i]? = w[i + p]?
    rw [List.getElem?_eq_getElem (show i < w.length by omega), List.getElem?_eq_getElem hi]
    exact congrArg some h1
  · intro h i hi
    rw [List.mem_range] at hi
    have h1 : w[i]? = w[i + p]? := h i (by omega)
    rw [Bool.not_eq_true, Bool.not_eq_false', decide_eq_true_iff, List.getD_eq_getElem?_getD, List.getD_eq_getElem?_getD, h1]
theorem ok_l_periods (T : Tx mg) (D : Dfn K mg "_law_periods" s_l_periods ["_law_word"])  : Cal P w K mg base 1 "_law_periods" ["_law_word"] (sp_l_periods K) := by
  obtain ⟨f, fd, F, mF, bF⟩ := D.ex
  refine ⟨f, fd, F.ok sc_l_periods (fun vs H Q E h => ?_) (fun cdv A outer s H vs Q E hr h => ?_), mF, F.kp, bF⟩
  · obtain ⟨w, rfl, hw, q⟩ := h
    rfl
  · have hu := hu_of hr
    obtain ⟨w, rfl, hw, q⟩ := h
    refine ⟨_, (pss_cons (ps_set (i := 1) sc_l_periods.nd rfl (Or.inl rfl) (pe_lst pa_nil))
      (pss_cons (ps_for PassesOwn.never rfl (pi_range2 (by rfl) T.m_range (pa_cons pe_int (pa_cons (pe_op oAdd (pe_callB cLenC (by rfl) T.m_len (by decide +kernel) (pa_cons (pv 0) pa_nil)) pe_int) pa_nil))) (pg_name (i := 2) sc_l_periods.nd rfl (by first | exact Or.inl rfl | exact Or.inr rfl))
        (pss_one (ps_if (pt_cmpR (show OpR _ (compareOp .Eq) (rEqD K) from (oEqD hr.units)) (pe_lc (own := [("_law_at", 3)]) (g := gName 3) rfl sc_l_periods.nd (pi_range1 (by rfl) T.m_range (pa_cons (pe_op oSub (pe_callB cLenC (by rfl) T.m_len (by decide +kernel) (pa_cons (pv 0) pa_nil)) (pv 2)) pa_nil)) (blkOk_by (own := [("_law_at", 3)]) (N := N_l_periods) (sc := defScope s_l_periods) (by decide +kernel)) (fun _ _ _ _ _ => pg_name (i := 3) sc_l_periods.nd rfl (by first | exact Or.inl rfl | exact Or.inr rfl)) (fun _ _ _ _ _ => pts_one (pt_cmpR oNe (pe_ix iStrC (pv 0) (pv 3) (fun _ _ => rfl)) (pe_ix iStrC (pv 0) (pe_op oAdd (pv 3) (pv 2)) (fun _ _ => rfl)) (nomark _))) (fun _ _ _ _ _ => (pv 3))) (pe_lst pa_nil) (nomark _)) (pss_one (ps_expr (pe_bm PySem.F.plainAttrs_list PySem.F.slot_list_append PySem.F.type_list_append mt_append (pv 1) (pa_cons (pv 2) pa_nil)))) pss_nil)))
      (pss_one (ps_ret (pe_callTy (show CallR _ (.type "tuple") (rTupOf K) from cTupOf) (by rfl) T.m_tuple (by decide +kernel) (pa_cons (pv 1) pa_nil)))))), ?_⟩
    refine q_asgR (P := fun v H2 => ∃ p, v = .ref p ∧ H p = none ∧ H2 p = some (.lst [])) (fun H1 e Q q => ⟨Nat.zero_le _, fun p hp => q _ _ (Ex.new hp) ⟨p, rfl, fresh_back e hp, upd_same⟩⟩) fun v H1 e1 p => ?_
    obtain ⟨p, rfl, np, hp⟩ := p
    refine q_forR2 (lo := 1) (n := ((w.length + 1 : Nat) : Int)) (ea_cons ev_c (ea_cons (ev_addn (b := 1) (ev_lenC (ev_var rfl) (by omega)) ev_c) ea_nil)) (by omega)
      (fun i σ' H' => Ex H H' ∧ H' p = some (.lst (natV (persTo w i))) ∧ ∃ kv : Option V, σ' = [some (.str (S w)), some (.ref p), kv, none]) (fun H2 e2 => ⟨e1.trans e2, e2 p _ hp, none, rfl⟩) ?_ ?_
    · rintro i σ' H' hi ⟨ex, hp', kv, rfl⟩
      have e0 : (1 : Int) + (i : Int) = ((i + 1 : Nat) : Int) := by omega
      rw [e0] at hi ⊢
      have hi2 : i + 1 ≤ w.length := by omega
      refine s_when (et_test (ev_eqE (a := misses w (i + 1)) ((rg_lcV (List.range (w.length - (i + 1))) (fun (j : Nat) => V.int (j : Int)) (fun j => !decide (w.getD j 0 = w.getD (j + (i + 1)) 0)) (fun (j : Nat) => V.int (j : Int))
        (src_range1 (ea_cons (ev_subn (ev_lenC (ev_var rfl) (by omega)) (ev_var rfl) hi2) ea_nil) (by omega)) (by rw [List.length_range]; omega) (fun x => rfl) (fun j hj H1 e1 => ?_) (fun j hj _ H1 e1 => ev_var rfl)).imp fun v H2 _ p => ?_))) (fun hb H2 e2 => ?_) (fun hb H2 e2 => ?_)
      · rw [List.mem_range] at hj
        have a1 : w[j]? = some (w.getD j 0) := by rw [List.getD_eq_getElem?_getD, List.getElem?_eq_getElem (show j < w.length by omega)]; rfl
        have a2 : w[j + (i + 1)]? = some (w.getD (j + (i + 1)) 0) := by rw [List.getD_eq_getElem?_getD, List.getElem?_eq_getElem (show j + (i + 1) < w.length by omega)]; rfl
        exact et_is (et_test (ev_neS (ev_ixC (ev_var rfl) (ev_var rfl) (by omega) a1) (ev_ixC (ev_var rfl) (ev_addn (ev_var rfl) (ev_var rfl)) (by omega) a2))) (by rw [show decide ([w.getD j 0] = [w.getD (j + (i + 1)) 0]) = decide (w.getD j 0 = w.getD (j + (i + 1)) 0) from decide_eq_decide.mpr (by simp)])
      · obtain ⟨p, e, _, h2⟩ := p
        exact ⟨p, e, h2⟩
      · rw [misses_nil] at hb
        refine s_app (e2 p _ hp') (ev_var rfl) (ev_var rfl) (by rw [List.length_map]; have := persTo_len w i; omega) fun H3 e3 => ⟨Ex.mut ((ex.trans e2).trans e3) np, ?_, _, rfl⟩
        rw [upd_same, natV_snoc, persTo_succ, if_pos hb]
      · rw [misses_nil] at hb
        refine ⟨ex.trans e2, ?_, _, rfl⟩
        rw [persTo_succ, if_neg (by rw [hb]; decide)]
        exact e2 p _ hp'
    · rintro σ' H' ⟨ex, hp', kv, rfl⟩
      rw [show (((w.length + 1 : Nat) : Int) - 1).toNat = w.length by omega] at hp'
      refine s_retR (rg_tupOf (P := fun ys _ => ys = natV (Pr.pers w)) (fun H1 e Q q => ?_) fun _ _ _ _ h => h) fun v H2 e2 p2 => ?_
      · exact (ev_var rfl : Ev _ _ H' _) H1 e Q fun H2 e2 => q _ H2 e2 ⟨p, _, rfl, e2 p _ (e p _ hp'), rfl⟩
      · obtain ⟨p2, ys, rfl, h2, rfl⟩ := p2
        exact q p2 H2 (ex.trans e2) h2
/-! ### periods -/
def sp_periods (K : PySem.W.Frag) : Sp := fun vs H Q _ => ∃ w : List Nat, vs = [.str (S w)] ∧ w.length ≤ 1000 ∧ RetT K (natV (Pr.pers w)) H Q
theorem sv_periods {K : PySem.W.Frag} {H : Hp} {w : List Nat} (h : w.length ≤ 1000) : SpP (sp_periods K) [.str (S w)] H (isT K (natV (Pr.pers w))) :=
  fun H1 e Q q E => ⟨w, rfl, h, fun p H2 e2 h2 => q _ H2 e2 ⟨p, rfl, h2⟩⟩
theorem pers_given (w : List Nat) : ((List.range (w.length + 1 - 1)).filter fun i => Pr.perB w (1 + i)).map (fun i => V.int ((1 + i : Nat) : Int)) = natV (Pr.pers w) := by
  unfold natV Pr.pers
  rw [List.filter_map, List.map_map]
  have e : (fun i => Pr.perB w (1 + i)) = (Pr.perB w ∘ fun x => x + 1) := by
    funext i
    show Pr.perB w (1 + i) = Pr.perB w (i + 1)
    rw [Nat.add_comm]
  rw [Nat.add_sub_cancel, e]
  congr 1
  funext i
  show V.int ((1 + i : Nat) : Int) = V.int ((i + 1 : Nat) : Int)
  rw [Nat.add_comm]
theorem ok_periods (T : Tx mg) (D : Dfn K mg "periods" s_periods ["word"])  : Cal P w K mg base 1 "periods" ["word"] (sp_periods K) := by
  obtain ⟨f, fd, F, mF, bF⟩ := D.ex
  refine ⟨f, fd, F.ok sc_periods (fun vs H Q E h => ?_) (fun cdv A outer s H vs Q E hr h => ?_), mF, F.kp, bF⟩
  · obtain ⟨w, rfl, hw, q⟩ := h
    rfl
  · have hu := hu_of hr
    obtain ⟨w, rfl, hw, q⟩ := h
    refine ⟨_, (pss_one (ps_ret (pe_callTy (show CallR _ (.type "tuple") (rTupOf K) from cTupOf) (by rfl) T.m_tuple (by decide +kernel) (pa_cons (pe_lc (own := [("by", 1)]) (g := gName 1) rfl sc_periods.nd (pi_range2 (by rfl) T.m_range (pa_cons pe_int (pa_cons (pe_op oAdd (pe_callB cLenC (by rfl) T.m_len (by decide +kernel) (pa_cons (pv 0) pa_nil)) pe_int) pa_nil))) (blkOk_by (own := [("by", 1)]) (N := N_periods) (sc := defScope s_periods) (by decide +kernel)) (fun _ _ _ _ _ => pg_name (i := 1) sc_periods.nd rfl (by first | exact Or.inl rfl | exact Or.inr rfl)) (fun _ _ _ _ _ => pts_one (pt_cmpR oEq (pe_slice slStr (pv 0) (po_some (pv 1)) po_none) (pe_slice slStr (pv 0) po_none (po_some (pe_op oSub (pe_callB cLenC (by rfl) T.m_len (by decide +kernel) (pa_cons (pv 0) pa_nil)) (pv 1)))) (nomark _))) (fun _ _ _ _ _ => (pv 1))) pa_nil)))), ?_⟩
    refine (rg_tupOf (P := fun ys _ => ys = natV (Pr.pers w)) ((rg_lcV (List.range (w.length + 1 - 1)) (fun (i : Nat) => V.int ((1 + i : Nat) : Int)) (fun i => Pr.perB w (1 + i)) (fun i => V.int ((1 + i : Nat) : Int))
      (src_range2n (lo := 1) (ea_cons ev_cn (ea_cons (ev_addn (b := 1) (ev_lenC (ev_var rfl) (by omega)) ev_c) ea_nil)) (by omega)) (by rw [List.length_range]; omega) (fun x => rfl) (fun i hi H1 e1 => ?_) (fun i hi _ H1 e1 => ev_var rfl)).imp fun v H2 _ p => ?_)
      (fun ys _ _ _ h => h)).go fun v H2 e2 p => ?_
    · have hi2 : 1 + i ≤ w.length := by
        rw [List.mem_range] at hi
        omega
      exact et_test (ev_eqS (ev_slFrom (ev_var rfl) (ev_var rfl) (by omega)) (ev_slTo (ev_var rfl) (ev_subn (ev_lenC (ev_var rfl) (by omega)) (ev_var rfl) hi2) (by omega)))
    · obtain ⟨p, e, _, h2⟩ := p
      exact ⟨p, _, e, h2, pers_given w⟩
    · obtain ⟨p, ys, rfl, h2, rfl⟩ := p
      exact q p H2 e2 h2
/-! ### _law_mixed -/
def hashD (x : Int) : Int := x * 48271 % 2147483647
def mixZ (ns : List Int) (k : Nat) : Int := (hashD (cellZ ns k + 7919 * (k : Int) + 1) * hashD (cellZ ns k + 7919 * (k : Int) + 1) + 7 * hashD (cellZ ns k + 7919 * (k : Int) + 1) + (k : Int)) % 2147483629
theorem hashD_lt (x : Int) : 0 ≤ hashD x ∧ hashD x < 2147483647 := ⟨Int.emod_nonneg _ (by decide), Int.emod_lt_of_pos _ (by decide)⟩
theorem mixZ_lt (ns : List Int) (k : Nat) : 0 ≤ mixZ ns k ∧ mixZ ns k < 2147483629 := ⟨Int.emod_nonneg _ (by decide), Int.emod_lt_of_pos _ (by decide)⟩
def sp_l_mixed (K : PySem.W.Frag) : Sp := fun vs H Q _ => ∃ (a : Addr) (ns : List Int) (k : Nat), vs = [.ref a, .int (k : Int)] ∧ SqL K H a (ns.map V.int) ∧ k < 1000 ∧ RetV (.int (mixZ ns k)) H Q
theorem sv_cell {K : PySem.W.Frag} {H : Hp} {a : Addr} {ns : List Int} {k : Nat} (h : SqL K H a (ns.map V.int)) : SpV (sp_l_cell_at K) [.ref a, .int (k : Int)] H (.int (cellZ ns k)) :=
  fun H1 e Q q E => ⟨a, ns, k, rfl, ex_l e h, q⟩
theorem sv_mixed {K : PySem.W.Frag} {H : Hp} {a : Addr} {ns : List Int} {k : Nat} (h : SqL K H a (ns.map V.int)) (hk : k < 1000) : SpV (sp_l_mixed K) [.ref a, .int (k : Int)] H (.int (mixZ ns k)) :=
  fun H1 e Q q E => ⟨a, ns, k, rfl, ex_l e h, hk, q⟩
theorem ok_l_mixed (T : Tx mg) (D : Dfn K mg "_law_mixed" s_l_mixed ["_law_script", "_law_k"]) (c_l_cell_at : Cal P w K mg base 1 "_law_cell_at" ["_law_script", "_law_k"] (sp_l_cell_at K)) : Cal P w K mg base 2 "_law_mixed" ["_law_script", "_law_k"] (sp_l_mixed K) := by
  obtain ⟨f, fd, F, mF, bF⟩ := D.ex
  obtain ⟨f_l_cell_at, fd_l_cell_at, G_l_cell_at, m_l_cell_at, k_l_cell_at, b_l_cell_at⟩ := c_l_cell_at.ex
  refine ⟨f, fd, F.ok sc_l_mixed (fun vs H Q E h => ?_) (fun cdv A outer s H vs Q E hr h => ?_), mF, F.kp, bF⟩
  · obtain ⟨a, ns, k, rfl, hS, hk, q⟩ := h
    rfl
  · have hu := hu_of hr
    obtain ⟨a, ns, k, rfl, hS, hk, q⟩ := h
    refine ⟨_, (pss_cons (ps_set (i := 2) sc_l_mixed.nd rfl (Or.inl rfl) (pe_op oMod (pe_op oMul (pe_op oAdd (pe_op oAdd (pe_call G_l_cell_at hr (by rfl) m_l_cell_at k_l_cell_at b_l_cell_at .nil pass0 (pa_cons (pv 0) (pa_cons (pv 1) pa_nil))) (pe_op oMul pe_int (pv 1))) pe_int) pe_int) pe_int))
      (pss_one (ps_ret (pe_op oMod (pe_op oAdd (pe_op oAdd (pe_op oMul (pv 2) (pv 2)) (pe_op oMul pe_int (pv 2))) (pv 1)) pe_int)))), ?_⟩
    have b := hashD_lt (cellZ ns k + 7919 * (k : Int) + 1)
    refine q_asg (ev_mod (ev_mul (ev_add (ev_add (ev_call (ea_cons (ev_var rfl) (ea_cons (ev_var rfl) ea_nil)) (sv_cell hS)) (ev_mul ev_c (ev_var rfl) (.inl (by omega)))) ev_c) ev_c (.inr (by omega))) ev_c (by omega)) fun H1 e1 => ?_
    exact s_ret (ev_mod (ev_add (ev_add (ev_mul (ev_var rfl) (ev_var rfl) (.inl (by show _ < hashD _ ∧ hashD _ < _; omega))) (ev_mul ev_c (ev_var rfl) (.inl (by omega)))) (ev_var rfl)) ev_c (by omega)) fun H2 e2 => q H2 (e1.trans e2)
/-! ### _law_text -/
def sp_l_text (K : PySem.W.Frag) : Sp := fun vs H Q _ => ∃ (n : Int) (m : Nat), vs = [.int n, .int (m : Int)] ∧ m ≤ 100 ∧ ∀ l : List Nat, l.length ≤ m → az l → RetV (.str (S l)) H Q
theorem letters_at (j : Nat) (h : j < 8) : ∃ zl : List Nat, ([V.str "a", V.str "ab", V.str "ab", V.str "abc", V.str "abcd", V.str "xyz", V.str "bm", V.str "abcdefghijklmnopqrstuvwxyz"] : List V)[j]? = some (.str (S zl)) ∧ 0 < zl.length ∧ zl.length ≤ 26 ∧ az zl := by
  match j, h with
  | 0, _ => exact ⟨[97], by decide +kernel, by decide, by decide, by unfold az; decide⟩
  | 1, _ => exact ⟨[97, 98], by decide +kernel, by decide, by decide, by unfold az; decide⟩
  | 2, _ => exact ⟨[97, 98], by decide +kernel, by decide, by decide, by unfold az; decide⟩
  | 3, _ => exact ⟨[97, 98, 99], by decide +kernel, by decide, by decide, by unfold az; decide⟩
  | 4, _ => exact ⟨[97, 98, 99, 100], by decide +kernel, by decide, by decide, by unfold az; decide⟩
  | 5, _ => exact ⟨[120, 121, 122], by decide +kernel, by decide, by decide, by unfold az; decide⟩
  | 6, _ => exact ⟨[98, 109], by decide +kernel, by decide, by decide, by unfold az; decide⟩
  | 7, _ => exact ⟨[97, 98, 99, 100, 101, 102, 103, 104, 105, 106, 107, 108, 109, 110, 111, 112, 113, 114, 115, 116, 117, 118, 119, 120, 121, 122], by decide +kernel, by decide, by decide, by unfold az; decide⟩
theorem sv_text {K : PySem.W.Frag} {H : Hp} {n : Int} {m : Nat} (hm : m ≤ 100) : SpP (sp_l_text K) [.int n, .int (m : Int)] H (fun v _ => ∃ l, v = .str (S l) ∧ l.length ≤ m ∧ az l) :=
  fun H1 e Q q E => ⟨n, m, rfl, hm, fun l h1 h2 H2 e2 => q _ H2 e2 ⟨l, rfl, h1, h2⟩⟩
theorem ok_l_text (T : Tx mg) (D : Dfn K mg "_law_text" s_l_text ["_law_number", "_law_most"]) (c_l_drawn : Cal P w K mg base 1 "_law_drawn" ["_law_number", "_law_k"] (sp_l_drawn K)) : Cal P w K mg base 2 "_law_text" ["_law_number", "_law_most"] (sp_l_text K) := by
  obtain ⟨f, fd, F, mF, bF⟩ := D.ex
  obtain ⟨f_l_drawn, fd_l_drawn, G_l_drawn, m_l_drawn, k_l_drawn, b_l_drawn⟩ := c_l_drawn.ex
  refine ⟨f, fd, F.ok sc_l_text (fun vs H Q E h => ?_) (fun cdv A outer s H vs Q E hr h => ?_), mF, F.kp, bF⟩
  · obtain ⟨n, m, rfl, hm, q⟩ := h
    rfl
  · have hu := hu_of hr
    obtain ⟨n, m, rfl, hm, q⟩ := h
    refine ⟨_, (pss_cons (ps_set (i := 2) sc_l_text.nd rfl (Or.inl rfl) (pe_ix (show IxR _ (rIxT K) from ix_tup) (pe_tup (pa_cons pe_str (pa_cons pe_str (pa_cons pe_str (pa_cons pe_str (pa_cons pe_str (pa_cons pe_str (pa_cons pe_str (pa_cons pe_str pa_nil))))))))) (pe_op oMod (pv 0) pe_int) (fun _ _ => rfl)))
      (pss_cons (ps_set (i := 3) sc_l_text.nd rfl (Or.inl rfl) (pe_op oMod (pe_op oDiv (pv 0) pe_int) (pe_op oAdd (pv 1) pe_int)))
      (pss_cons (ps_set (i := 4) sc_l_text.nd rfl (Or.inl rfl) pe_str)
      (pss_cons (ps_for PassesOwn.never rfl (pi_range1 (by rfl) T.m_range (pa_cons (pv 3) pa_nil)) (pg_name (i := 5) sc_l_text.nd rfl (by first | exact Or.inl rfl | exact Or.inr rfl))
        (pss_one (ps_set (i := 4) sc_l_text.nd rfl (Or.inl rfl) (pe_op oCat (pv 4) (pe_ix iStrC (pv 2) (pe_op oMod (pe_call G_l_drawn hr (by rfl) m_l_drawn k_l_drawn b_l_drawn .nil pass0 (pa_cons (pv 0) (pa_cons (pv 5) pa_nil))) (pe_callB cLenC (by rfl) T.m_len (by decide +kernel) (pa_cons (pv 2) pa_nil))) (fun _ _ => rfl))))))
      (pss_cons (ps_if (PW.pt (pw_and (pt_cmpR oEq (pe_op oMod (pe_op oDiv (pv 0) pe_int) pe_int) pe_int (nomark _)) (pw_and1 (pt_cmpR oGt (pv 3) pe_int (nomark _))))) (pss_cons (ps_set (i := 6) sc_l_text.nd rfl (Or.inl rfl) (pe_op oAdd pe_int (pe_op oMod (pe_op oDiv (pv 0) pe_int) (pe_op oSub (pv 3) pe_int))))
        (pss_one (ps_set (i := 4) sc_l_text.nd rfl (Or.inl rfl) (pe_slice slStr (pe_op oRep (pe_slice slStr (pv 4) po_none (po_some (pv 6))) (pv 3)) po_none (po_some (pv 3)))))) pss_nil)
      (pss_one (ps_ret (pv 4)))))))), ?_⟩
    have h8 : 0 ≤ n % 8 ∧ n % 8 < 8 := ⟨Int.emod_nonneg _ (by decide), Int.emod_lt_of_pos _ (by decide)⟩
    obtain ⟨zl, hz, hz0, hz26, hza⟩ := letters_at (n % 8).toNat (by omega)
    refine q_asg (ev_menuT (by repeat (first | exact ea_nil | refine ea_cons ev_c ?_)) (by decide) (ev_mod (ev_var rfl) ev_c (by omega)) (atI_int h8.1 hz)) fun H1 e1 => ?_
    obtain ⟨g, hg, hgm⟩ : ∃ g : Nat, n / 8 % ((m : Int) + 1) = (g : Int) ∧ g ≤ m := by
      have a1 : 0 ≤ n / 8 % ((m : Int) + 1) := Int.emod_nonneg _ (by omega)
      have a2 : n / 8 % ((m : Int) + 1) < (m : Int) + 1 := Int.emod_lt_of_pos _ (by omega)
      exact ⟨(n / 8 % ((m : Int) + 1)).toNat, by omega, by omega⟩
    refine q_asg (ev_is (ev_mod (ev_div (ev_var rfl) ev_c (by omega)) (ev_add (ev_var rfl) ev_c) (by omega)) (congrArg V.int hg)) fun H2 e2 => ?_
    refine q_asg (ev_cS empty_S) fun H3 e3 => ?_
    refine q_forR1 (ea_cons (ev_var rfl) ea_nil) (by omega) (fun i σ' H' => Ex H H' ∧ ∃ (l : List Nat) (kv : Option V), σ' = [some (.int n), some (.int (m : Int)), some (.str (S zl)), some (.int (g : Int)), some (.str (S l)), kv, none] ∧ l.length = i ∧ az l)
      (fun H4 e4 => ⟨((e1.trans e2).trans e3).trans e4, [], none, rfl, rfl, az_nil⟩) ?_ ?_
    · rintro i σ' H' hi ⟨ex, l, kv, rfl, hl, ha⟩
      have d1 : 0 ≤ drawZ n i % (zl.length : Int) := Int.emod_nonneg _ (by omega)
      have d2 : drawZ n i % (zl.length : Int) < (zl.length : Int) := Int.emod_lt_of_pos _ (by omega)
      have hc : (drawZ n i % (zl.length : Int)).toNat < zl.length := by omega
      refine s_asg (ev_cat (ev_var rfl) (ev_ixC (ev_var rfl) (ev_nat (ev_mod (ev_call (ea_cons (ev_var rfl) (ea_cons (ev_var rfl) ea_nil)) (sv_drawn (by omega))) (ev_lenC (ev_var rfl) (by omega)) (by omega)) d1) (by omega) (List.getElem?_eq_getElem hc)) (by show l.length + 1 ≤ _; omega)) fun H4 e4 => ⟨ex.trans e4, l ++ [zl[(drawZ n i % (zl.length : Int)).toNat]], some (.int (i : Int)), rfl, by simp [hl], az_app ha fun c hc => ?_⟩
      rw [List.mem_singleton.mp hc]
      exact hza _ (List.getElem_mem _)
    · rintro σ' H' ⟨ex, l, kv, rfl, hl, ha⟩
      have hl2 : l.length = g := by rw [hl]; omega
      refine q_when (et_and (et_test (ev_eqI (ev_mod (ev_div (ev_var rfl) ev_c (by omega)) ev_c (by omega)) ev_c)) fun _ => et_test (ev_gt (ev_var rfl) ev_c)) (fun hb H4 e4 => ?_) (fun hb H4 e4 => ?_)
      · have hb2 := (Bool.and_eq_true _ _ ▸ hb : _ ∧ _).2
        have hg1 : 1 < g := by
          have := of_decide_eq_true hb2
          omega
        have f1 : 0 ≤ n / 2400 % ((g : Int) - 1) := Int.emod_nonneg _ (by omega)
        have f2 : n / 2400 % ((g : Int) - 1) < (g : Int) - 1 := Int.emod_lt_of_pos _ (by omega)
        refine q_asg (ev_nat (ev_add ev_c (ev_mod (ev_div (ev_var rfl) ev_c (by omega)) (ev_sub (ev_var rfl) ev_c) (by omega))) (by omega)) fun H5 e5 => ?_
        have k1 : (l.take (1 + n / 2400 % ((g : Int) - 1)).toNat).length ≤ 100 := by
          rw [List.length_take]
          omega
        have k2 : (l.take (1 + n / 2400 % ((g : Int) - 1)).toNat).length * g ≤ 100 * 100 := Nat.mul_le_mul k1 (by omega)
        refine s_asg (ev_slTo (ev_rep (ev_slTo (ev_var rfl) (ev_var rfl) (by omega)) (ev_var rfl) ⟨by omega, by omega⟩) (ev_var rfl) (by simp; rw [List.length_take] at k2; rw [Nat.mul_comm]; omega)) fun H6 e6 => ?_
        refine s_ret (ev_var rfl) fun H7 e7 => q _ ?_ (az_take _ (az_rep _ (az_take _ ha))) H7 ((((ex.trans e4).trans e5).trans e6).trans e7)
        rw [List.length_take]
        omega
      · exact s_ret (ev_var rfl) fun H7 e7 => q l (by omega) ha H7 ((ex.trans e4).trans e7)
/-! ### twin -/
def sp_twin (K : PySem.W.Frag) : Sp := fun vs H Q _ => ∃ w : List Nat, vs = [.str (S w)] ∧ w.length ≤ 11 ∧ ∀ x : List Nat, x.length = w.length → (∀ c ∈ x, c = 97 ∨ c = 98) → Pr.pers x = Pr.pers w → RetV (.str (S x)) H Q
theorem sv_twin {K : PySem.W.Frag} {H : Hp} {w : List Nat} (h : w.length ≤ 11) : SpP (sp_twin K) [.str (S w)] H (fun v _ => ∃ x, v = .str (S x) ∧ x.length = w.length ∧ (∀ c ∈ x, c = 97 ∨ c = 98) ∧ Pr.pers x = Pr.pers w) :=
  fun H1 e Q q E => ⟨w, rfl, h, fun x h1 h2 h3 H2 e2 => q _ H2 e2 ⟨x, rfl, h1, h2, h3⟩⟩
abbrev strV (l : List (List Nat)) : List V := l.map fun x => V.str (S x)
def bins : Nat → List (List Nat)
  | 0 => [[]]
  | k + 1 => (bins k).flatMap fun x => [x ++ [97], x ++ [98]]
theorem bins_len : ∀ k, (bins k).length = 2 ^ k
  | 0 => rfl
  | k + 1 => by
    unfold bins
    rw [List.length_flatMap]
    have e : ((bins k).map fun x => ([x ++ [97], x ++ [98]] : List (List Nat)).length) = (bins k).map fun _ => 2 := rfl
    rw [e, Nat.pow_succ, ← bins_len k]
    generalize bins k = l
    induction l with
    | nil => rfl
    | cons a r ih =>
      rw [List.map_cons, List.sum_cons, ih, List.length_cons]
      omega
theorem mem_bins : ∀ k x, x ∈ bins k ↔ x.length = k ∧ ∀ c ∈ x, c = 97 ∨ c = 98
  | 0, x => by
    unfold bins
    rw [List.mem_singleton]
    constructor
    · rintro rfl
      exact ⟨rfl, fun c hc => by cases hc⟩
    · rintro ⟨h, _⟩
      exact List.length_eq_zero_iff.mp h
  | k + 1, x => by
    unfold bins
    rw [List.mem_flatMap]
    constructor
    · rintro ⟨y, hy, hx⟩
      obtain ⟨h1, h2⟩ := (mem_bins k y).mp hy
      have aux : ∀ d, (d = 97 ∨ d = 98) → x = y ++ [d] → x.length = k + 1 ∧ ∀ c ∈ x, c = 97 ∨ c = 98 := by
        rintro d hd rfl
        refine ⟨by rw [List.length_append, h1]; rfl, fun c hc => ?_⟩
        rcases List.mem_append.mp hc with hc | hc
        · exact h2 c hc
        · rw [List.mem_singleton.mp hc]
          exact hd
      rcases List.mem_cons.mp hx with e | hx
      · exact aux 97 (.inl rfl) e
      · exact aux 98 (.inr rfl) (List.mem_singleton.mp hx)
    · rintro ⟨h1, h2⟩
      have hne : x ≠ [] := fun z => by
        subst z
        cases h1
      refine ⟨x.dropLast, (mem_bins k _).mpr ⟨by rw [List.length_dropLast]; omega, fun c hc => h2 c (List.dropLast_subset x hc)⟩, ?_⟩
      have e := List.dropLast_concat_getLast hne
      rcases h2 _ (List.getLast_mem hne) with z | z
      · rw [z] at e
        exact List.mem_cons.mpr (.inl e.symm)
      · rw [z] at e
        exact List.mem_cons.mpr (.inr (List.mem_singleton.mpr e.symm))
theorem bins_upto (k i : Nat) (x : List Nat) (h : (bins k)[i]? = some x) : ((bins k).take (i + 1)).flatMap (fun x => [x ++ [97], x ++ [98]]) = ((bins k).take i).flatMap (fun x => [x ++ [97], x ++ [98]]) ++ [x ++ [97], x ++ [98]] := by
  rw [List.take_add_one, h, List.flatMap_append]
  rfl
theorem a_S : ("a" : Str) = S [97] := by decide +kernel
theorem b_S : ("b" : Str) = S [98] := by decide +kernel
/-- xs.extend([..]) -/
theorem s_extL {K : PySem.W.Frag} {σ : L2.St} {H : Hp} {ta te : TE} {D : Ends} {l : Addr} {xs ys : List V} (hl : H l = some (.lst xs)) (ha : Ev ta σ H (.ref l)) (h : Rg (te σ) H (fun v H2 => ∃ p, v = .ref p ∧ H2 p = some (.lst ys))) (hz : xs.length + ys.length ≤ 1000000)
    (k : ∀ H1, Ex H H1 → D.nx σ (upd H1 l (.lst (xs ++ ys)))) : tDrop (tBM K "list" rExtend ta (tCons te tNil)) D σ H := ha H (Ex.refl H) _ fun H1 e1 =>
  ⟨.inl ⟨rfl, xs, sq_of (e1 l _ hl)⟩, (h.mono e1).go fun v H2 e2 p => by
    obtain ⟨p, rfl, hp⟩ := p
    exact ⟨l, p, xs, ys, rfl, rfl, e2 l _ (e1 l _ hl), hp, sz hz, k H2 (e1.trans e2)⟩⟩
theorem ok_twin (T : Tx mg) (D : Dfn K mg "twin" s_twin ["word"]) (c_periods : Cal P w K mg base 1 "periods" ["word"] (sp_periods K)) : Cal P w K mg base 2 "twin" ["word"] (sp_twin K) := by
  obtain ⟨f, fd, F, mF, bF⟩ := D.ex
  obtain ⟨f_periods, fd_periods, G_periods, m_periods, k_periods, b_periods⟩ := c_periods.ex
  refine ⟨f, fd, F.ok sc_twin (fun vs H Q E h => ?_) (fun cdv A outer s H vs Q E hr h => ?_), mF, F.kp, bF⟩
  · obtain ⟨w, rfl, hw, q⟩ := h
    rfl
  · have hu := hu_of hr
    obtain ⟨w, rfl, hw, q⟩ := h
    refine ⟨_, (pss_cons (ps_set (i := 1) sc_twin.nd rfl (Or.inr rfl) (pe_call G_periods hr (by rfl) m_periods k_periods b_periods .nil pass0 (pa_cons (pv 0) pa_nil)))
      (pss_cons (ps_set (i := 2) sc_twin.nd rfl (Or.inl rfl) (pe_lst (pa_cons pe_str pa_nil)))
      (pss_cons (ps_for PassesOwn.never rfl (pi_range1 (by rfl) T.m_range (pa_cons (pe_callB cLenC (by rfl) T.m_len (by decide +kernel) (pa_cons (pv 0) pa_nil)) pa_nil)) (pg_name (i := 3) sc_twin.nd rfl (by first | exact Or.inl rfl | exact Or.inr rfl))
        (pss_cons (ps_set (i := 4) sc_twin.nd rfl (Or.inl rfl) (pe_lst pa_nil))
        (pss_cons (ps_for PassesOwn.never rfl (pi_list (pv 2)) (pg_name (i := 5) sc_twin.nd rfl (by first | exact Or.inl rfl | exact Or.inr rfl))
          (pss_one (ps_expr (pe_bm PySem.F.plainAttrs_list PySem.F.slot_list_extend PySem.F.type_list_extend mt_extend (pv 4) (pa_cons (pe_lst (pa_cons (pe_op oCat (pv 5) pe_str) (pa_cons (pe_op oCat (pv 5) pe_str) pa_nil))) pa_nil)))))
        (pss_one (ps_set (i := 2) sc_twin.nd rfl (Or.inl rfl) (pv 4))))))
      (pss_one (ps_ret (pe_ix (show IxR _ (rIxL K) from ix_list) (pe_lc (own := [("other", 6)]) (g := gName 6) rfl sc_twin.nd (pi_list (pv 2)) (blkOk_by (own := [("other", 6)]) (N := N_twin) (sc := defScope s_twin) (by decide +kernel)) (fun _ _ _ _ _ => pg_name (i := 6) sc_twin.nd rfl (by first | exact Or.inl rfl | exact Or.inr rfl)) (fun _ _ _ _ _ => pts_one (pt_cmpR (show OpR _ (compareOp .Eq) (rEqD K) from (oEqD hr.units)) (pe_call G_periods hr (by rfl) m_periods k_periods b_periods .nil pass0 (pa_cons (pv 6) pa_nil)) (pv 1) (nomark _))) (fun _ _ _ _ _ => (pv 6))) pe_int (fun _ _ => rfl))))))), ?_⟩
    refine q_asgR (rg_call (ea_cons (ev_var rfl) ea_nil) (sv_periods (by omega))) fun v H1 e1 p => ?_
    obtain ⟨pd, rfl, hd⟩ := p
    refine q_asgR (P := fun v H2 => ∃ p, v = .ref p ∧ H2 p = some (.lst (strV (bins 0)))) (fun H2 e Q q => (ea_cons (ev_cS empty_S) ea_nil) H2 e _ fun H3 e3 => ⟨by show 1 ≤ sizeLine; decide, fun p hp => q _ _ (e3.trans (Ex.new hp)) ⟨p, rfl, upd_same⟩⟩) fun v H2 e2 p => ?_
    obtain ⟨p0, rfl, hp0⟩ := p
    refine q_forR1 (n := (w.length : Int)) (ea_cons (ev_lenC (ev_var rfl) (by omega)) ea_nil) (by omega) (fun i σ' H' => Ex H H' ∧ SqT K H' pd (natV (Pr.pers w)) ∧ ∃ (p : Addr) (x3 x4 x5 : Option V), σ' = [some (.str (S w)), some (.ref pd), some (.ref p), x3, x4, x5, none] ∧ H' p = some (.lst (strV (bins i))))
      (fun H3 e3 => ⟨(e1.trans e2).trans e3, ex_t (e2.trans e3) hd, p0, none, none, none, rfl, e3 p0 _ hp0⟩) ?_ ?_
    · rintro i σ' H' hi ⟨ex, hd', p, x3, x4, x5, rfl, hp⟩
      have hbl : (bins i).length ≤ 2 ^ 11 := by
        rw [bins_len]
        exact Nat.pow_le_pow_right (by decide) (by omega)
      refine q_asgR (P := fun v H2 => ∃ pl, v = .ref pl ∧ H' pl = none ∧ H2 pl = some (.lst [])) (fun H2 e Q q => ⟨Nat.zero_le _, fun p hp => q _ _ (Ex.new hp) ⟨p, rfl, fresh_back e hp, upd_same⟩⟩) fun v H3 e3 pl => ?_
      obtain ⟨pl, rfl, npl, hpl⟩ := pl
      have npp : p ≠ pl := ne_of_none hp npl
      refine q_forLn (K := K) (ev_var rfl) (sq_of (e3 p _ hp)) (fun j σ2 H4 => Ex H' H4 ∧ H4 pl = some (.lst (strV (((bins i).take j).flatMap fun x => [x ++ [97], x ++ [98]]))) ∧ ∃ x5 : Option V, σ2 = [some (.str (S w)), some (.ref pd), some (.ref p), some (.int (i : Int)), some (.ref pl), x5, none])
        (fun H4 e4 => ⟨e3.trans e4, e4 pl _ hpl, x5, rfl⟩) (fun j σ2 H4 _ h => sq_of (h.1 p _ hp)) ?_ ?_
      · rintro j x σ2 H4 hx ⟨ex4, hl4, x5, rfl⟩
        rw [List.getElem?_map] at hx
        cases hj : (bins i)[j]? with
        | none => rw [hj] at hx; cases hx
        | some y =>
          rw [hj] at hx
          cases (Option.some.inj hx : V.str (S y) = x)
          have hym := (mem_bins i y).mp (List.mem_of_getElem? hj)
          have hjl := (List.getElem?_eq_some_iff.mp hj).1
          have hlen : (((bins i).take j).flatMap fun x => [x ++ [97], x ++ [98]]).length = 2 * j := by
            rw [List.length_flatMap, show (List.map (fun x => ([x ++ [97], x ++ [98]] : List (List Nat)).length) ((bins i).take j)) = List.replicate j 2 from by
              rw [show (fun (x : List Nat) => ([x ++ [97], x ++ [98]] : List (List Nat)).length) = fun _ => 2 from rfl, List.map_const', List.length_take, Nat.min_eq_left (by omega)], List.sum_replicate_nat]
            omega
          refine s_extL hl4 (ev_var rfl) (ys := strV [y ++ [97], y ++ [98]]) (fun H5 e5 Q q => (ea_cons (ev_cat (ev_var rfl) (ev_cS a_S) (by show y.length + 1 ≤ _; omega)) (ea_cons (ev_cat (ev_var rfl) (ev_cS b_S) (by show y.length + 1 ≤ _; omega)) ea_nil)) H5 e5 _ fun H6 e6 => ⟨by show 2 ≤ sizeLine; decide, fun p hp => q _ _ (e6.trans (Ex.new hp)) ⟨p, rfl, upd_same⟩⟩) (by rw [List.length_map, hlen]; show _ + 2 ≤ _; omega) fun H5 e5 => ⟨Ex.mut (ex4.trans e5) npl, ?_, _, rfl⟩
          rw [upd_same, bins_upto i j y hj]
          unfold strV
          rw [List.map_append]
      · rintro σ2 H4 ⟨ex4, hl4, x5, rfl⟩
        rw [List.length_map, List.take_length] at hl4
        refine s_asg (ev_var rfl) fun H5 e5 => ⟨(ex.trans ex4).trans e5, ex_t (ex4.trans e5) hd', pl, _, _, _, rfl, e5 pl _ hl4⟩
    · rintro σ' H' ⟨ex, hd', p, x3, x4, x5, rfl, hp⟩
      rw [Int.toNat_natCast] at hp
      have hbl : (bins w.length).length ≤ 2 ^ 11 := by
        rw [bins_len]
        exact Nat.pow_le_pow_right (by decide) (by omega)
      obtain ⟨x0, hx0, hx1, hx2⟩ := Pr.twin_exists hw
      have hmem : x0 ∈ (bins w.length).filter fun x => decide (Pr.pers x = Pr.pers w) := List.mem_filter.mpr ⟨(mem_bins _ _).mpr ⟨hx0, hx1⟩, decide_eq_true hx2⟩
      obtain ⟨x, r, hxr⟩ : ∃ x r, (bins w.length).filter (fun x => decide (Pr.pers x = Pr.pers w)) = x :: r := by
        cases h : (bins w.length).filter (fun x => decide (Pr.pers x = Pr.pers w)) with
        | nil => rw [h] at hmem; cases hmem
        | cons x r => exact ⟨x, r, rfl⟩
      have hxm : x ∈ (bins w.length).filter (fun x => decide (Pr.pers x = Pr.pers w)) := by rw [hxr]; exact List.mem_cons_self
      obtain ⟨hm1, hm2⟩ := List.mem_filter.mp hxm
      have hm3 := (mem_bins _ _).mp hm1
      refine s_ret (ev_ixN (K := K) (xs := strV (x :: r)) (v := .str (S x)) ((rg_lcV (bins w.length) (fun y => V.str (S y)) (fun x => decide (Pr.pers x = Pr.pers w)) (fun y => V.str (S y)) (src_list (K := K) (ev_var rfl) (sq_of hp)) (by omega) (fun x => rfl)
        (fun y hy H1 e1 => et_test (ev_eqTT (rg_call (ea_cons (ev_var rfl) ea_nil) (sv_periods (by have := ((mem_bins _ _).mp hy).1; omega))) fun H2 e2 => isT_rg (ev_var rfl) (ex_t (e1.trans e2) hd'))) (fun y hy _ H1 e1 => ev_var rfl)).imp fun v H2 _ p => ?_) (ev_cn (n := 0)) (atI_nat rfl)) fun H2 e2 => q x hm3.1 hm3.2 (of_decide_eq_true hm2) H2 (ex.trans e2)
      obtain ⟨p, e, _, h2⟩ := p
      rw [hxr] at h2
      exact ⟨p, e, h2⟩
/-! ### law -/
def sp_law (K : PySem.W.Frag) : Sp := fun vs H Q _ => ∃ (a : Addr) (ns : List Int), vs = [.ref a] ∧ SqL K H a (ns.map V.int) ∧ ns.length ≤ 63 ∧ ∀ H', Q (.bl true) H'
theorem ab_S : ("ab" : Str) = S [97, 98] := by decide +kernel
theorem ok_law (T : Tx mg) {f : Addr} {fd : FuncData} (F : Fun K "law" "law" s_law f fd) (c_l_periods : Cal P w K mg base 1 "_law_periods" ["_law_word"] (sp_l_periods K)) (c_twin : Cal P w K mg base 2 "twin" ["word"] (sp_twin K)) (c_l_text : Cal P w K mg base 2 "_law_text" ["_law_number", "_law_most"] (sp_l_text K)) (c_l_mixed : Cal P w K mg base 2 "_law_mixed" ["_law_script", "_law_k"] (sp_l_mixed K)) : FnOk P w K mg base CX0 3 f fd ["_law_script"] (sp_law K) := by
  obtain ⟨f_l_periods, fd_l_periods, G_l_periods, m_l_periods, k_l_periods, b_l_periods⟩ := c_l_periods.ex
  obtain ⟨f_twin, fd_twin, G_twin, m_twin, k_twin, b_twin⟩ := c_twin.ex
  obtain ⟨f_l_text, fd_l_text, G_l_text, m_l_text, k_l_text, b_l_text⟩ := c_l_text.ex
  obtain ⟨f_l_mixed, fd_l_mixed, G_l_mixed, m_l_mixed, k_l_mixed, b_l_mixed⟩ := c_l_mixed.ex
  refine F.ok sc_law (fun vs H Q E h => ?_) (fun cdv A outer s H vs Q E hr h => ?_)
  · obtain ⟨a, ns, rfl, hS, hlen, q⟩ := h
    rfl
  · have hu := hu_of hr
    obtain ⟨a, ns, rfl, hS, hlen, q⟩ := h
    refine ⟨_, (pss_cons (ps_set (i := 1) sc_law.nd rfl (Or.inl rfl) (pe_call G_l_text hr (by rfl) m_l_text k_l_text b_l_text .nil pass0 (pa_cons (pe_call G_l_mixed hr (by rfl) m_l_mixed k_l_mixed b_l_mixed .nil pass0 (pa_cons (pv 0) (pa_cons pe_int pa_nil))) (pa_cons pe_int pa_nil))))
      (pss_cons (ps_set (i := 2) sc_law.nd rfl (Or.inl rfl) (pe_call G_twin hr (by rfl) m_twin k_twin b_twin .nil pass0 (pa_cons (pv 1) pa_nil)))
      (pss_cons (ps_if (PW.pt (pw_or (pt_not (pt_val (pe_callB (show CallR _ (.builtin "isinstance") (rIsi K) from call_isi) (by rfl) T.m_isinstance (by decide +kernel) (pa_cons (pv 2) (pa_cons (pe_bltn (v := .ty "str") (by rfl) T.m_str (by decide +kernel) rfl) pa_nil))))) (pw_or (pt_cmpR oNe (pe_callB cLenC (by rfl) T.m_len (by decide +kernel) (pa_cons (pv 2) pa_nil)) (pe_callB cLenC (by rfl) T.m_len (by decide +kernel) (pa_cons (pv 1) pa_nil)) (nomark _)) (pw_or1 (pt_cmpR oNe (pe_m1 PySem.F.slot_str_strip PySem.F.type_str_strip mStripC (pv 2) pe_str) pe_str (nomark _)))))) (pss_one (ps_ret pe_bl)) pss_nil)
      (pss_one (ps_ret (pe_and (pe_cmpR (show OpR _ (compareOp .Eq) (rEqD K) from (oEqD hr.units)) (pe_lc (own := [("_law_letter", 3)]) (g := gName 3) rfl sc_law.nd (pi_str (pv 2)) (blkOk_by (own := [("_law_letter", 3)]) (N := N_law) (sc := defScope s_law) (by decide +kernel)) (fun _ _ _ _ _ => pg_name (i := 3) sc_law.nd rfl (by first | exact Or.inl rfl | exact Or.inr rfl)) (fun _ _ _ _ _ => pts_one (pt_cmpR oNiC (pv 3) pe_str (by rfl))) (fun _ _ _ _ _ => (pv 3))) (pe_lst pa_nil) (nomark _)) (pe_one (pe_cmpR (show OpR _ (compareOp .Eq) (rEqD K) from (oEqD hr.units)) (pe_call G_l_periods (hr.mono (by decide)) (by rfl) m_l_periods k_l_periods b_l_periods .nil pass0 (pa_cons (pv 2) pa_nil)) (pe_call G_l_periods (hr.mono (by decide)) (by rfl) m_l_periods k_l_periods b_l_periods .nil pass0 (pa_cons (pv 1) pa_nil)) (nomark _))))))))), ?_⟩
    refine q_asgR (rg_call (ea_cons (ev_call (ea_cons (ev_var rfl) (ea_cons (ev_cn (n := 0)) ea_nil)) (sv_mixed hS (by omega))) (ea_cons (ev_cn (n := 11)) ea_nil)) (sv_text (by omega))) fun v H1 e1 p => ?_
    obtain ⟨w, rfl, hw, _⟩ := p
    refine q_asgR (rg_call (ea_cons (ev_var rfl) ea_nil) (sv_twin hw)) fun v H2 e2 p => ?_
    obtain ⟨x, rfl, hx1, hx2, hx3⟩ := p
    have hxb : ∀ c ∈ x, c ∈ [97, 98] := fun c hc => by
      rcases hx2 c hc with e | e
      · rw [e]; decide
      · rw [e]; decide
    refine q_when (et_or (et_not (et_B (ev_isi (c := "str") (r := true) (ev_var rfl) rfl (by decide +kernel)))) fun _ => et_or (et_test (ev_neI (ev_lenC (ev_var rfl) (by omega)) (ev_lenC (ev_var rfl) (by omega)))) fun _ => et_test (ev_neS (ev_strip (ev_var rfl) (ev_cS ab_S) hxb (by omega)) (ev_cS empty_S))) (fun hb => ?_) (fun _ H3 e3 => ?_)
    · rw [hx1] at hb
      simp at hb
    refine s_ret (ev_andV (ev_eqE (a := []) ((rg_lcV x (fun c => V.str (S [c])) (fun c => !decide (c ∈ [97, 98])) (fun c => V.str (S [c])) (src_str (ev_var rfl)) (by omega) (fun x => rfl) (fun c hc H1 e1 => et_test (ev_niC (ev_var rfl) (ev_cS ab_S))) (fun c hc _ H1 e1 => ev_var rfl)).imp fun v H2 _ p => ?_)) fun _ =>
      ev_eqTT (rg_call (ea_cons (ev_var rfl) ea_nil) (sv_l_periods (by omega))) fun H4 e4 => rg_call (ea_cons (ev_var rfl) ea_nil) (sv_l_periods (by omega))) fun H4 e4 => ?_
    · obtain ⟨p, e, _, h2⟩ := p
      rw [show x.filter (fun c => !decide (c ∈ [97, 98])) = [] from List.filter_eq_nil_iff.mpr fun c hc => by rw [decide_eq_true (hxb c hc)]; decide] at h2
      exact ⟨p, e, h2⟩
    · rw [hx3, decide_eq_true rfl]
      exact q _
end
theorem all_mk {l : PySem.W.OpenLaw} {w : World} {K : PySem.W.Frag} {h : Heap} {mg : Str → Option Value} {fa : Addr} (X : K.In h) (G : h.Ns mainGlobals mg) (hfa : mg "law" = some (.ref fa))
    {f0 : Addr} {od0 an0 : Option Addr} {sl0 : Array (Option Value)} {oc0 kV0 dc0 pm0 cd0 ct0 : Value}
    {f1 : Addr} {od1 an1 : Option Addr} {sl1 : Array (Option Value)} {oc1 kV1 dc1 pm1 cd1 ct1 : Value}
    {f2 : Addr} {od2 an2 : Option Addr} {sl2 : Array (Option Value)} {oc2 kV2 dc2 pm2 cd2 ct2 : Value}
    {f3 : Addr} {od3 an3 : Option Addr} {sl3 : Array (Option Value)} {oc3 kV3 dc3 pm3 cd3 ct3 : Value}
    {f4 : Addr} {od4 an4 : Option Addr} {sl4 : Array (Option Value)} {oc4 kV4 dc4 pm4 cd4 ct4 : Value}
    {f5 : Addr} {od5 an5 : Option Addr} {sl5 : Array (Option Value)} {oc5 kV5 dc5 pm5 cd5 ct5 : Value}
    {f6 : Addr} {od6 an6 : Option Addr} {sl6 : Array (Option Value)} {oc6 kV6 dc6 pm6 cd6 ct6 : Value}
    {f7 : Addr} {od7 an7 : Option Addr} {sl7 : Array (Option Value)} {oc7 kV7 dc7 pm7 cd7 ct7 : Value}
    (a0 : PySem.W.nsIn K mainGlobals "_law_cell_at" = some (some (.ref f0))) (l0 : K.lookup f0 = some ⟨oc0, od0, .func (PySem.W.fnOf "_law_cell_at" "_law_cell_at" (defArgs s_l_cell_at) (defBody s_l_cell_at) (defScope s_l_cell_at) .none kV0 dc0 pm0 an0 cd0 ct0), sl0⟩) (c0 : PySem.W.codeIn K cd0 "_law_cell_at" = true) (k0 : PySem.W.keepIn K (.ref f0) = true)
    (a1 : PySem.W.nsIn K mainGlobals "_law_drawn" = some (some (.ref f1))) (l1 : K.lookup f1 = some ⟨oc1, od1, .func (PySem.W.fnOf "_law_drawn" "_law_drawn" (defArgs s_l_drawn) (defBody s_l_drawn) (defScope s_l_drawn) .none kV1 dc1 pm1 an1 cd1 ct1), sl1⟩) (c1 : PySem.W.codeIn K cd1 "_law_drawn" = true) (k1 : PySem.W.keepIn K (.ref f1) = true)
    (a2 : PySem.W.nsIn K mainGlobals "_law_periods" = some (some (.ref f2))) (l2 : K.lookup f2 = some ⟨oc2, od2, .func (PySem.W.fnOf "_law_periods" "_law_periods" (defArgs s_l_periods) (defBody s_l_periods) (defScope s_l_periods) .none kV2 dc2 pm2 an2 cd2 ct2), sl2⟩) (c2 : PySem.W.codeIn K cd2 "_law_periods" = true) (k2 : PySem.W.keepIn K (.ref f2) = true)
    (a3 : PySem.W.nsIn K mainGlobals "periods" = some (some (.ref f3))) (l3 : K.lookup f3 = some ⟨oc3, od3, .func (PySem.W.fnOf "periods" "periods" (defArgs s_periods) (defBody s_periods) (defScope s_periods) .none kV3 dc3 pm3 an3 cd3 ct3), sl3⟩) (c3 : PySem.W.codeIn K cd3 "periods" = true) (k3 : PySem.W.keepIn K (.ref f3) = true)
    (a4 : PySem.W.nsIn K mainGlobals "_law_mixed" = some (some (.ref f4))) (l4 : K.lookup f4 = some ⟨oc4, od4, .func (PySem.W.fnOf "_law_mixed" "_law_mixed" (defArgs s_l_mixed) (defBody s_l_mixed) (defScope s_l_mixed) .none kV4 dc4 pm4 an4 cd4 ct4), sl4⟩) (c4 : PySem.W.codeIn K cd4 "_law_mixed" = true) (k4 : PySem.W.keepIn K (.ref f4) = true)
    (a5 : PySem.W.nsIn K mainGlobals "_law_text" = some (some (.ref f5))) (l5 : K.lookup f5 = some ⟨oc5, od5, .func (PySem.W.fnOf "_law_text" "_law_text" (defArgs s_l_text) (defBody s_l_text) (defScope s_l_text) .none kV5 dc5 pm5 an5 cd5 ct5), sl5⟩) (c5 : PySem.W.codeIn K cd5 "_law_text" = true) (k5 : PySem.W.keepIn K (.ref f5) = true)
    (a6 : PySem.W.nsIn K mainGlobals "twin" = some (some (.ref f6))) (l6 : K.lookup f6 = some ⟨oc6, od6, .func (PySem.W.fnOf "twin" "twin" (defArgs s_twin) (defBody s_twin) (defScope s_twin) .none kV6 dc6 pm6 an6 cd6 ct6), sl6⟩) (c6 : PySem.W.codeIn K cd6 "twin" = true) (k6 : PySem.W.keepIn K (.ref f6) = true)
    (a7 : PySem.W.nsIn K mainGlobals "law" = some (some (.ref f7))) (l7 : K.lookup f7 = some ⟨oc7, od7, .func (PySem.W.fnOf "law" "law" (defArgs s_law) (defBody s_law) (defScope s_law) .none kV7 dc7 pm7 an7 cd7 ct7), sl7⟩) (c7 : PySem.W.codeIn K cd7 "law" = true) (k7 : PySem.W.keepIn K (.ref f7) = true)
    (z0 : PySem.W.nsIn K mainGlobals "isinstance" = some none)
    (z1 : PySem.W.nsIn K mainGlobals "len" = some none)
    (z2 : PySem.W.nsIn K mainGlobals "range" = some none)
    (z3 : PySem.W.nsIn K mainGlobals "str" = some none)
    (z4 : PySem.W.nsIn K mainGlobals "tuple" = some none)
    : ∃ fd : FuncData, (∀ (s : Shared) (v : Value), BindsTo s fd ⟨[v], []⟩ [("_law_script", v)]) ∧ ∀ base : Heap, K.In base → base.Ns mainGlobals mg → FnOk l.prog w K mg base CX0 3 fa fd ["_law_script"] (sp_law K) := by
  have e := hfa.symm.trans (PySem.W.mg_of X G a7)
  cases e
  have T : Tx mg := ⟨PySem.W.mg_none_of X G z0, PySem.W.mg_none_of X G z1, PySem.W.mg_none_of X G z2, PySem.W.mg_none_of X G z3, PySem.W.mg_none_of X G z4⟩
  have F0 := fun_mk (st := s_l_cell_at) l0 c0 k0
  have b0 := F0.binds (ps := ["_law_script", "_law_k"]) fun _ _ _ _ _ _ us hl => match us, hl with | [_, _], _ => rfl
  have D_l_cell_at : Dfn K mg "_law_cell_at" s_l_cell_at ["_law_script", "_law_k"] := ⟨_, _, F0, PySem.W.mg_of X G a0, b0⟩
  have F1 := fun_mk (st := s_l_drawn) l1 c1 k1
  have b1 := F1.binds (ps := ["_law_number", "_law_k"]) fun _ _ _ _ _ _ us hl => match us, hl with | [_, _], _ => rfl
  have D_l_drawn : Dfn K mg "_law_drawn" s_l_drawn ["_law_number", "_law_k"] := ⟨_, _, F1, PySem.W.mg_of X G a1, b1⟩
  have F2 := fun_mk (st := s_l_periods) l2 c2 k2
  have b2 := F2.binds (ps := ["_law_word"]) fun _ _ _ _ _ _ us hl => match us, hl with | [_], _ => rfl
  have D_l_periods : Dfn K mg "_law_periods" s_l_periods ["_law_word"] := ⟨_, _, F2, PySem.W.mg_of X G a2, b2⟩
  have F3 := fun_mk (st := s_periods) l3 c3 k3
  have b3 := F3.binds (ps := ["word"]) fun _ _ _ _ _ _ us hl => match us, hl with | [_], _ => rfl
  have D_periods : Dfn K mg "periods" s_periods ["word"] := ⟨_, _, F3, PySem.W.mg_of X G a3, b3⟩
  have F4 := fun_mk (st := s_l_mixed) l4 c4 k4
  have b4 := F4.binds (ps := ["_law_script", "_law_k"]) fun _ _ _ _ _ _ us hl => match us, hl with | [_, _], _ => rfl
  have D_l_mixed : Dfn K mg "_law_mixed" s_l_mixed ["_law_script", "_law_k"] := ⟨_, _, F4, PySem.W.mg_of X G a4, b4⟩
  have F5 := fun_mk (st := s_l_text) l5 c5 k5
  have b5 := F5.binds (ps := ["_law_number", "_law_most"]) fun _ _ _ _ _ _ us hl => match us, hl with | [_, _], _ => rfl
  have D_l_text : Dfn K mg "_law_text" s_l_text ["_law_number", "_law_most"] := ⟨_, _, F5, PySem.W.mg_of X G a5, b5⟩
  have F6 := fun_mk (st := s_twin) l6 c6 k6
  have b6 := F6.binds (ps := ["word"]) fun _ _ _ _ _ _ us hl => match us, hl with | [_], _ => rfl
  have D_twin : Dfn K mg "twin" s_twin ["word"] := ⟨_, _, F6, PySem.W.mg_of X G a6, b6⟩
  have F7 := fun_mk (st := s_law) l7 c7 k7
  refine ⟨PySem.W.fnOf "law" "law" (defArgs s_law) (defBody s_law) (defScope s_law) .none kV7 dc7 pm7 an7 cd7 ct7, fun s v => .of_eq rfl, fun base _ _ => ?_⟩
  have C_l_cell_at := ok_l_cell_at (P := l.prog) (w := w) (base := base) T D_l_cell_at 
  have C_l_drawn := ok_l_drawn (P := l.prog) (w := w) (base := base) T D_l_drawn 
  have C_l_periods := ok_l_periods (P := l.prog) (w := w) (base := base) T D_l_periods 
  have C_periods := ok_periods (P := l.prog) (w := w) (base := base) T D_periods 
  have C_l_mixed := ok_l_mixed (P := l.prog) (w := w) (base := base) T D_l_mixed C_l_cell_at
  have C_l_text := ok_l_text (P := l.prog) (w := w) (base := base) T D_l_text C_l_drawn
  have C_twin := ok_twin (P := l.prog) (w := w) (base := base) T D_twin C_periods
  exact ok_law T F7 C_l_periods C_twin C_l_text C_l_mixed
end BW
open PySem PySem.W PyProof.Rows
set_option maxRecDepth 100000 in
set_option maxHeartbeats 0 in
theorem PySem.Challenge.cw_borderrow_k30_whole_two_letters_do_holds : PySem.Challenge.rw_borderrow_k30_whole_two_letters_do.Holds := by
  w_on; o_law; k_head; (case hw => w_witness2)
  k_fill
  refine L2.walk_of (l := PySem.Challenge.rw_borderrow_k30_whole_two_letters_do) (n := 63) (k := 3) (x := "_law_script") (CX := fun _ => L2.CX0) (sp := fun w => BW.sp_law _) rfl (by decide) rfl ⟨rfl, by decide, by decide⟩ (fun w h Y => PySem.W.kIn_of Y) ?F (fun _ _ a ns hl _ hS => ⟨a, ns, rfl, hS, hl, fun _ => rfl⟩) (fun _ _ _ _ _ h => h)
  case F =>
    intro w mg fa h KX G hmg
    refine' BW.all_mk KX G hmg ?a0 ?l0 ?c0 ?k0 ?a1 ?l1 ?c1 ?k1 ?a2 ?l2 ?c2 ?k2 ?a3 ?l3 ?c3 ?k3 ?a4 ?l4 ?c4 ?k4 ?a5 ?l5 ?c5 ?k5 ?a6 ?l6 ?c6 ?k6 ?a7 ?l7 ?c7 ?k7 ?z0 ?z1 ?z2 ?z3 ?z4
    (case a0 => k_is)
    (case l0 => k_is)
    (case c0 => k_is)
    (case k0 => k_is)
    (case a1 => k_is)
    (case l1 => k_is)
    (case c1 => k_is)
    (case k1 => k_is)
    (case a2 => k_is)
    (case l2 => k_is)
    (case c2 => k_is)
    (case k2 => k_is)
    (case a3 => k_is)
    (case l3 => k_is)
    (case c3 => k_is)
    (case k3 => k_is)
    (case a4 => k_is)
    (case l4 => k_is)
    (case c4 => k_is)
    (case k4 => k_is)
    (case a5 => k_is)
    (case l5 => k_is)
    (case c5 => k_is)
    (case k5 => k_is)
    (case a6 => k_is)
    (case l6 => k_is)
    (case c6 => k_is)
    (case k6 => k_is)
    (case a7 => k_is)
    (case l7 => k_is)
    (case c7 => k_is)
    (case k7 => k_is)
    (case z0 => k_is)
    (case z1 => k_is)
    (case z2 => k_is)
    (case z3 => k_is)
    (case z4 => k_is)
