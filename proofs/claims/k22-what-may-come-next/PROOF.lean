import PyProof.Rows.All
import Wide.All
import OpenK.AllK
import Wide.FinOn
import PyProof.StrOps2
import PyProof.ListStr
import HandS.ForMost
import HandS.Evl
import HandS.IsInst
import HandS.StrMore
import HandS.TupAny
import HandS.Conv
import HandS.Steps
import HandS.Walk
import KE.GoesNew
import PyProof.Rows.SetFrom
import PyProof.StrWalks
import HandS.TupSets
import HandS.Iter
import HandS.More
import PySem.Challenge.RW_borderrow_k22_whole_what_may_come_next
set_option Elab.async false
set_option linter.all false
set_option maxRecDepth 100000
set_option maxHeartbeats 4000000

/-! Words over the hand layer: texts as lists of codes, what an expression gives (Rg), comprehensions over any source. -/
namespace BW
open PySem PySem.Spec PyProof.Rows L2 Evl

/-! ### texts as lists of codes -/
def S (l : List Nat) : Str := ⟨l.toArray⟩
theorem S_len (l : List Nat) : (S l).length = l.length := by simp [S, Str.length]
theorem S_cps (l : List Nat) : (S l).cps.toList = l := by simp [S]
theorem S_app (a b : List Nat) : S a ++ S b = S (a ++ b) :=
  congrArg Str.mk (show a.toArray ++ b.toArray = (a ++ b).toArray by simp)
theorem S_inj {a b : List Nat} (h : S a = S b) : a = b := by
  have h2 := congrArg (fun z : Str => z.cps.toList) h
  simpa [S] using h2
theorem S_eq (z : Str) : S z.cps.toList = z := by cases z; simp [S]
theorem dec_S (a b : List Nat) : decide (V.str (S a) = V.str (S b)) = decide (a = b) := by
  by_cases h : a = b
  · subst h; simp
  · rw [decide_eq_false h]
    exact decide_eq_false fun e => h (S_inj (V.str.inj e))
theorem sz {n : Nat} (h : n ≤ 1000000) : n ≤ sizeLine := Nat.le_trans h (by decide)
theorem szl {n : Nat} (h : n < 1000000) : n < sizeLine := Nat.lt_of_lt_of_le h (by decide)

/-! ### what gives a value, in any heap that extends H -/
def Rg (k : Hp → VK → Prop) (H : Hp) (P : V → Hp → Prop) : Prop := ∀ H1, Ex H H1 → ∀ Q : VK, (∀ v H2, Ex H1 H2 → P v H2 → Q v H2) → k H1 Q
section
variable {k : Hp → VK → Prop} {H H' : Hp} {P P' : V → Hp → Prop} {σ : L2.St} {te ta : TE} {v : V}
theorem Rg.go (h : Rg k H P) {Q : VK} (q : ∀ v H2, Ex H H2 → P v H2 → Q v H2) : k H Q := h H (Ex.refl H) Q q
theorem Rg.mono (e : Ex H H') (h : Rg k H P) : Rg k H' P := fun H1 a Q q => h H1 (e.trans a) Q q
theorem Rg.imp (h : Rg k H P) (i : ∀ v H2, Ex H H2 → P v H2 → P' v H2) : Rg k H P' := fun H1 a Q q => h H1 a Q fun v H2 e p => q v H2 e (i v H2 (a.trans e) p)
theorem Rg.of_ev (h : Ev te σ H v) : Rg (te σ) H (fun x _ => x = v) := fun H1 a Q q => h H1 a Q fun H2 e => q v H2 e rfl
theorem Rg.ev (h : Rg (te σ) H (fun x _ => x = v)) : Ev te σ H v := fun H1 a Q q => h H1 a Q fun x H2 e p => by
  cases p
  exact q H2 e
theorem Rg.bind {g : V → Hp → VK → Prop} (ha : Rg (ta σ) H P) (f : ∀ x H1, Ex H H1 → P x H1 → Rg (g x) H1 P') : Rg (fun H Q => ta σ H fun x H1 => g x H1 Q) H P' := fun H1 a Q q =>
  ha H1 a _ fun x H2 e p => f x H2 (a.trans e) p H2 (Ex.refl H2) Q fun v H3 e3 p3 => q v H3 (e.trans e3) p3
theorem Rg.bindE {g : V → Hp → VK → Prop} (ha : Ev ta σ H v) (f : ∀ H1, Ex H H1 → Rg (g v) H1 P') : Rg (fun H Q => ta σ H fun x H1 => g x H1 Q) H P' := fun H1 a Q q =>
  ha H1 a _ fun H2 e => f H2 (a.trans e) H2 (Ex.refl H2) Q fun v H3 e3 p3 => q v H3 (e.trans e3) p3
theorem Rg.val {z : V} (h : ∀ H1, Ex H H1 → ∀ Q : VK, Q z H1 → k H1 Q) : Rg k H (fun x _ => x = z) := fun H1 a Q q => h H1 a Q (q z H1 (Ex.refl H1) rfl)
end

/-! ### operators, by names -/
theorem imp {X : Cx} {f : Value → Value → Sem Value} {r r' : R2} (h : OpR X f r) (i : ∀ x y H Q, r' x y H Q → r x y H Q) : OpR X f r' :=
  fun pins s σ H x y v u Q I rx ry q => h pins s σ H x y v u Q I rx ry (i x y H Q q)
theorem impC {X : Cx} {f : Value} {r r' : List V → Hp → VK → Prop} (h : CallR X f r) (i : ∀ xs H Q, r' xs H Q → r xs H Q) : CallR X f r' :=
  fun pins s σ H xs us Q I rx q => h pins s σ H xs us Q I rx (i xs H Q q)
theorem impM {X : Cx} {id : String} {r r' : V → List V → Hp → VK → Prop} (h : MtR X id r) (i : ∀ x xs H Q, r' x xs H Q → r x xs H Q) : MtR X id r' :=
  fun pins s σ H x xs v us Q I rx rxs q => h pins s σ H x xs v us Q I rx rxs (i x xs H Q q)
def rAdd : R2 := rI0 fun i j => .int (i + j)
def rSub : R2 := rI0 fun i j => .int (i - j)
def rMul : R2 := rI CMul fun i j => .int (i * j)
def rDiv : R2 := rI CDiv fun i j => .int (i / j)
def rMod : R2 := rI (fun _ j => 0 < j) fun i j => .int (i % j)
def rLt : R2 := rI0 fun i j => .bl (decide (i < j))
def rLe : R2 := rI0 fun i j => .bl (decide (i ≤ j))
def rGt : R2 := rI0 fun i j => .bl (decide (j < i))
def rGe : R2 := rI0 fun i j => .bl (decide (j ≤ i))
def rCat : R2 := fun x y H Q => ∃ a b, x = .str (S a) ∧ y = .str (S b) ∧ a.length + b.length ≤ 1000000 ∧ Q (.str (S (a ++ b))) H
def rRep : R2 := fun x y H Q => ∃ (a : List Nat) (n : Nat), x = .str (S a) ∧ y = .int (n : Int) ∧ a.length * n ≤ 1000000 ∧ n ≤ 1000000 ∧ Q (.str (S (List.replicate n a).flatten)) H
section
variable {X : Cx}
theorem oAdd : OpR X (binaryOp .Add) rAdd := op_add
theorem oSub : OpR X (binaryOp .Sub) rSub := op_sub
theorem oMul : OpR X (binaryOp .Mult) rMul := op_mul
theorem oDiv : OpR X (binaryOp .FloorDiv) rDiv := op_fdiv
theorem oMod : OpR X (binaryOp .Mod) rMod := op_mod
theorem oLt : OpR X (compareOp .Lt) rLt := op_lt
theorem oLe : OpR X (compareOp .LtE) rLe := op_le
theorem oGt : OpR X (compareOp .Gt) rGt := op_gt
theorem oGe : OpR X (compareOp .GtE) rGe := op_ge
theorem oEq : OpR X (compareOp .Eq) rEq := op_eq
theorem oNe : OpR X (compareOp .NotEq) rNe := op_ne
theorem oCat : OpR X (binaryOp .Add) rCat := imp op_add_str fun x y H Q ⟨a, b, e1, e2, h, q⟩ => ⟨S a, S b, e1, e2, by rw [S_len, S_len]; exact sz h, by rw [S_app]; exact q⟩
theorem rep_cps (a : List Nat) : ∀ (n : Nat) (acc : Array Nat), (List.replicate n a.toArray).foldl (· ++ ·) acc = acc ++ (List.replicate n a).flatten.toArray
  | 0, acc => by simp
  | n + 1, acc => by
    rw [List.replicate_succ, List.foldl_cons, rep_cps a n, List.replicate_succ, List.flatten_cons]
    simp
theorem oRep : OpR X (binaryOp .Mult) rRep := by
  intro pins s σ H x y v u Q I rx ry h
  obtain ⟨a, n, rfl, rfl, h1, h2, q⟩ := h
  obtain ⟨t, rfl⟩ := rx
  obtain ⟨t', rfl⟩ := ry
  refine P.mul_str (by rw [decide_eq_false (by omega), decide_eq_false (by omega)]; rfl) (fun h0 _ => ?_) (fun h0 _ => ?_) ?_
  · rw [S_len]
    have h3 : (1000000 : Int) ≤ (2 ^ 63 - 1) / (n : Int) := (Int.le_ediv_iff_mul_le (by omega)).mpr (by omega)
    by_cases hl : a.length ≤ 1000000
    · omega
    · exfalso
      have h4 : a.length * 1 ≤ a.length * n := Nat.mul_le_mul_left _ (by omega)
      omega
  · rw [S_len, Int.toNat_natCast]
    unfold Builtin.Str.tooLong
    exact decide_eq_false (by have := sz h1; omega)
  · have e0 : (List.replicate 0 a).flatten = ([] : List Nat) := rfl
    split
    · have : n = 0 := by omega
      subst this
      exact ⟨by decide, ⟨.str (S (List.replicate 0 a).flatten), H, I.tok _, ⟨s.toks, rfl⟩, q⟩⟩
    · split
      · refine ⟨.str (S (List.replicate n a).flatten), H, I, ⟨t, ?_⟩, q⟩
        rename_i h5
        rw [S_len] at h5
        rcases (Bool.or_eq_true _ _).mp h5 with h6 | h6
        · have : n = 1 := by
            have := eq_of_beq h6
            omega
          subst this
          simp
        · have : a = [] := by
            have := eq_of_beq h6
            exact List.length_eq_zero_iff.mp this
          subst this
          simp
      · rw [Int.toNat_natCast, show (S a).cps = a.toArray from rfl, rep_cps a n #[]]
        refine ⟨?_, ⟨.str (S (List.replicate n a).flatten), H, I.tok _, ⟨s.toks, ?_⟩, q⟩⟩
        · have : (List.replicate n a).flatten.length = n * a.length := by simp
          have h8 := sz h1
          rw [Nat.mul_comm] at h8
          simp [Str.length]
          exact h8
        · simp [S]

theorem impI {r r' : R2} (h : IxR X r) (i : ∀ x y H Q, r' x y H Q → r x y H Q) : IxR X r' :=
  fun value slice pins s σ H x y v u Q I rx ry q => h value slice pins s σ H x y v u Q I rx ry (i x y H Q q)
theorem impS {r r' : V → Option Int → Option Int → Hp → VK → Prop} (h : SlR X r) (i : ∀ x lo hi H Q, r' x lo hi H Q → r x lo hi H Q) : SlR X r' :=
  fun pins s σ H x v vl vu lo hi sl Q I rx hs p1 p2 q => h pins s σ H x v vl vu lo hi sl Q I rx hs p1 p2 (i x lo hi H Q q)
def rIxC : R2 := fun x y H Q => ∃ (l : List Nat) (i : Nat) (c : Nat), x = .str (S l) ∧ y = .int (i : Int) ∧ l.length ≤ 1000000 ∧ l[i]? = some c ∧ Q (.str (S [c])) H
theorem iStrC : IxR X rIxC := impI ix_str fun x y H Q ⟨l, i, c, e1, e2, h, hc, q⟩ => ⟨S l, (i : Int), c, e1, e2, by rw [S_len]; exact sz h, by rw [S_cps]; exact atI_nat hc, q⟩
def cutL (l : List Nat) (lo hi : Option Int) : List Nat := (l.drop (HT.sIx l.length 0 lo)).take (HT.sIx l.length l.length hi - HT.sIx l.length 0 lo)
def rSlC : V → Option Int → Option Int → Hp → VK → Prop := fun x lo hi H Q => ∃ l, x = .str (S l) ∧ l.length ≤ 1000000 ∧ Q (.str (S (cutL l lo hi))) H
theorem slStr : SlR X rSlC := impS sl_str fun x lo hi H Q ⟨l, e1, h, q⟩ => ⟨S l, e1, by rw [S_len]; exact sz h, by
  have e : cutS (S l) lo hi = S (cutL l lo hi) := by unfold cutS cutL; rw [S_cps, S_len]; rfl
  rw [e]; exact q⟩
theorem cut_to (l : List Nat) (k : Nat) : cutL l none (some (k : Int)) = l.take k := by
  unfold cutL
  rw [HT.sIx_none, HT.sIx_nat, List.drop_zero, Nat.sub_zero]
  by_cases h : k ≤ l.length
  · rw [Nat.min_eq_left h]
  · rw [Nat.min_eq_right (by omega), List.take_of_length_le (Nat.le_refl _), List.take_of_length_le (by omega)]
theorem cut_from (l : List Nat) (k : Nat) : cutL l (some (k : Int)) none = l.drop k := by
  unfold cutL
  rw [HT.sIx_none, HT.sIx_nat]
  by_cases h : k ≤ l.length
  · rw [Nat.min_eq_left h, List.take_of_length_le (by rw [List.length_drop]; omega)]
  · rw [Nat.min_eq_right (by omega), List.drop_of_length_le (Nat.le_refl _), List.drop_of_length_le (by omega)]; simp
def rLenC : List V → Hp → VK → Prop := fun xs H Q => ∃ l, xs = [.str (S l)] ∧ l.length ≤ 1000000 ∧ Q (.int (l.length : Int)) H
theorem cLenC : CallR X (.builtin "len") rLenC := impC call_len_str fun xs H Q ⟨l, e, h, q⟩ => ⟨S l, e, by rw [S_len]; exact sz h, by rw [S_len]; exact q⟩
def rLenQ (K : PySem.W.Frag) : List V → Hp → VK → Prop := fun xs H Q => ∃ p ys, xs = [.ref p] ∧ (SqL K H p ys ∨ SqT K H p ys) ∧ Q (.int ys.length) H
theorem cLenQ : CallR X (.builtin "len") (rLenQ X.K) := call_len_seq
def rTupOf (K : PySem.W.Frag) : List V → Hp → VK → Prop := fun xs H Q => ∃ p ys, xs = [.ref p] ∧ SqL K H p ys ∧ ∀ l, H l = none → Q (.ref l) (upd H l (.tup ys))
theorem cTupOf : CallR X (.type "tuple") (rTupOf X.K) := impC call_tuple_of fun xs H Q ⟨p, ys, e, h, q⟩ => ⟨p, ys, e, .inl ⟨h, q⟩⟩
def rMaxL (K : PySem.W.Frag) : List V → Hp → VK → Prop := fun vs H Q => ∃ (a : Addr) (ns : List Int), vs = [V.ref a] ∧ SqL K H a (ns.map V.int) ∧ 0 < ns.length ∧ ∀ m, m ∈ ns → (∀ y, y ∈ ns → y ≤ m) → Q (.int m) H
theorem cMaxL (hc : X.calm = true) : CallR X (.builtin "max") (rMaxL X.K) := cr_max hc
def rMax2 : List V → Hp → VK → Prop := fun xs H Q => ∃ i j, xs = [.int i, .int j] ∧ Q (.int (max i j)) H
theorem cMax2 (hc : X.calm = true) : CallR X (.builtin "max") rMax2 := impC (call_max2 hc) fun xs H Q ⟨i, j, e, q⟩ => ⟨i, j, e, by
  have e2 : (if j > i then j else i) = max i j := by omega
  rw [e2]; exact q⟩
def rMin2 : List V → Hp → VK → Prop := fun xs H Q => ∃ i j, xs = [.int i, .int j] ∧ Q (.int (min i j)) H
theorem cMin2 (hc : X.calm = true) : CallR X (.builtin "min") rMin2 := impC (call_min2 hc) fun xs H Q ⟨i, j, e, q⟩ => ⟨i, j, e, by
  have e2 : (if j < i then j else i) = min i j := by omega
  rw [e2]; exact q⟩
end

/-! ### what evaluates to what: scalars -/
section
variable {K : PySem.W.Frag} {σ : L2.St} {H H' : Hp} {ta tb te tx : TE} {t u : TT} {x y z v : V} {i j : Int} {a b l : List Nat}
theorem ev_add (ha : Ev ta σ H (.int i)) (hb : Ev tb σ H (.int j)) : Ev (tOp rAdd ta tb) σ H (.int (i + j)) := ev_op ha hb rv_I0
theorem ev_sub (ha : Ev ta σ H (.int i)) (hb : Ev tb σ H (.int j)) : Ev (tOp rSub ta tb) σ H (.int (i - j)) := ev_op ha hb rv_I0
theorem ev_mul (ha : Ev ta σ H (.int i)) (hb : Ev tb σ H (.int j)) (h : CMul i j) : Ev (tOp rMul ta tb) σ H (.int (i * j)) := ev_op ha hb (rv_I h)
theorem ev_div (ha : Ev ta σ H (.int i)) (hb : Ev tb σ H (.int j)) (h : 0 < j ∧ j < 1073741824) : Ev (tOp rDiv ta tb) σ H (.int (i / j)) := ev_op ha hb (rv_I h)
theorem ev_mod (ha : Ev ta σ H (.int i)) (hb : Ev tb σ H (.int j)) (h : 0 < j) : Ev (tOp rMod ta tb) σ H (.int (i % j)) := ev_op ha hb (rv_I h)
theorem ev_lt (ha : Ev ta σ H (.int i)) (hb : Ev tb σ H (.int j)) : Ev (tOp rLt ta tb) σ H (.bl (decide (i < j))) := ev_op ha hb rv_I0
theorem ev_le (ha : Ev ta σ H (.int i)) (hb : Ev tb σ H (.int j)) : Ev (tOp rLe ta tb) σ H (.bl (decide (i ≤ j))) := ev_op ha hb rv_I0
theorem ev_gt (ha : Ev ta σ H (.int i)) (hb : Ev tb σ H (.int j)) : Ev (tOp rGt ta tb) σ H (.bl (decide (j < i))) := ev_op ha hb rv_I0
theorem ev_ge (ha : Ev ta σ H (.int i)) (hb : Ev tb σ H (.int j)) : Ev (tOp rGe ta tb) σ H (.bl (decide (j ≤ i))) := ev_op ha hb rv_I0
theorem dec_I (i j : Int) : decide (V.int i = V.int j) = decide (i = j) := by
  by_cases h : i = j
  · subst h; simp
  · rw [decide_eq_false h]
    exact decide_eq_false fun e => h (V.int.inj e)
theorem dec_B (i j : Bool) : decide (V.bl i = V.bl j) = (i == j) := by cases i <;> cases j <;> rfl
theorem ev_eqI (ha : Ev ta σ H (.int i)) (hb : Ev tb σ H (.int j)) : Ev (tOp rEq ta tb) σ H (.bl (decide (i = j))) := ev_is (ev_op ha hb (rv_eq rfl)) (by rw [dec_I])
theorem ev_neI (ha : Ev ta σ H (.int i)) (hb : Ev tb σ H (.int j)) : Ev (tOp rNe ta tb) σ H (.bl (!decide (i = j))) := ev_is (ev_op ha hb (rv_ne rfl)) (by rw [dec_I])
theorem ev_eqS (ha : Ev ta σ H (.str (S a))) (hb : Ev tb σ H (.str (S b))) : Ev (tOp rEq ta tb) σ H (.bl (decide (a = b))) := ev_is (ev_op ha hb (rv_eq rfl)) (by rw [dec_S])
theorem ev_neS (ha : Ev ta σ H (.str (S a))) (hb : Ev tb σ H (.str (S b))) : Ev (tOp rNe ta tb) σ H (.bl (!decide (a = b))) := ev_is (ev_op ha hb (rv_ne rfl)) (by rw [dec_S])
theorem ev_eqB {p q : Bool} (ha : Ev ta σ H (.bl p)) (hb : Ev tb σ H (.bl q)) : Ev (tOp rEq ta tb) σ H (.bl (p == q)) := ev_is (ev_op ha hb (rv_eq rfl)) (by rw [dec_B])
theorem ev_cat (ha : Ev ta σ H (.str (S a))) (hb : Ev tb σ H (.str (S b))) (h : a.length + b.length ≤ 1000000) : Ev (tOp rCat ta tb) σ H (.str (S (a ++ b))) :=
  ev_op ha hb (rv_val fun H1 _ Q q => ⟨a, b, rfl, rfl, h, q⟩)
theorem ev_rep {n : Nat} (ha : Ev ta σ H (.str (S a))) (hb : Ev tb σ H (.int (n : Int))) (h : a.length * n ≤ 1000000 ∧ n ≤ 1000000) : Ev (tOp rRep ta tb) σ H (.str (S (List.replicate n a).flatten)) :=
  ev_op ha hb (rv_val fun H1 _ Q q => ⟨a, n, rfl, rfl, h.1, h.2, q⟩)
theorem ev_cS {z : Str} (e : z = S l) : Ev (tC (.str z)) σ H (.str (S l)) := e ▸ ev_c
theorem ev_lenC (ha : Ev ta σ H (.str (S l))) (h : l.length ≤ 1000000) : Ev (tCB rLenC (tCons ta tNil)) σ H (.int (l.length : Int)) := fun H1 e Q q =>
  ha H1 e _ fun H2 e2 => ⟨l, rfl, h, q H2 e2⟩
theorem ev_lenL {p : Addr} {xs : List V} (ha : Ev ta σ H (.ref p)) (h : SqL K H p xs) : Ev (tCB (rLenQ K) (tCons ta tNil)) σ H (.int (xs.length : Int)) := fun H1 e Q q =>
  ha H1 e _ fun H2 e2 => ⟨p, xs, rfl, .inl (ex_l (e.trans e2) h), q H2 e2⟩
theorem ev_lenT {p : Addr} {xs : List V} (ha : Ev ta σ H (.ref p)) (h : SqT K H p xs) : Ev (tCB (rLenQ K) (tCons ta tNil)) σ H (.int (xs.length : Int)) := fun H1 e Q q =>
  ha H1 e _ fun H2 e2 => ⟨p, xs, rfl, .inr (ex_t (e.trans e2) h), q H2 e2⟩
theorem ev_ixC {n c : Nat} (ha : Ev ta σ H (.str (S l))) (hb : Ev tb σ H (.int (n : Int))) (h : l.length ≤ 1000000) (hc : l[n]? = some c) : Ev (tOp rIxC ta tb) σ H (.str (S [c])) :=
  ev_op ha hb (rv_val fun H1 _ Q q => ⟨l, n, c, rfl, rfl, h, hc, q⟩)
theorem ev_sl {tl th : TO} {lo hi : Option Int} (ha : Ev te σ H (.str (S l))) (h1 : EvO tl σ H lo) (h2 : EvO th σ H hi) (h : l.length ≤ 1000000) : Ev (tSl rSlC te tl th) σ H (.str (S (cutL l lo hi))) := fun H1 e Q q =>
  ha H1 e _ fun H2 e2 => h1 H2 (e.trans e2) _ fun H3 e3 => h2 H3 ((e.trans e2).trans e3) _ fun H4 e4 => ⟨l, rfl, h, q H4 ((e2.trans e3).trans e4)⟩
theorem ev_slTo {n : Nat} (ha : Ev te σ H (.str (S l))) (hb : Ev tb σ H (.int (n : Int))) (h : l.length ≤ 1000000) : Ev (tSl rSlC te tNoPart (tPart tb)) σ H (.str (S (l.take n))) :=
  ev_is (ev_sl ha eo_none (eo_some hb) h) (by rw [cut_to])
theorem ev_slFrom {n : Nat} (ha : Ev te σ H (.str (S l))) (hb : Ev tb σ H (.int (n : Int))) (h : l.length ≤ 1000000) : Ev (tSl rSlC te (tPart tb) tNoPart) σ H (.str (S (l.drop n))) :=
  ev_is (ev_sl ha (eo_some hb) eo_none h) (by rw [cut_from])
theorem ev_max2 (ha : Ev ta σ H (.int i)) (hb : Ev tb σ H (.int j)) : Ev (tCB BW.rMax2 (tCons ta (tCons tb tNil))) σ H (.int (max i j)) := fun H1 e Q q =>
  ha H1 e _ fun H2 e2 => hb H2 (e.trans e2) _ fun H3 e3 => ⟨i, j, rfl, q H3 (e2.trans e3)⟩
theorem ev_min2 (ha : Ev ta σ H (.int i)) (hb : Ev tb σ H (.int j)) : Ev (tCB BW.rMin2 (tCons ta (tCons tb tNil))) σ H (.int (min i j)) := fun H1 e Q q =>
  ha H1 e _ fun H2 e2 => hb H2 (e.trans e2) _ fun H3 e3 => ⟨i, j, rfl, q H3 (e2.trans e3)⟩
/-- a call whose promise gives P -/
def SpP (sp : Sp) (vs : List V) (H : Hp) (P : V → Hp → Prop) : Prop := ∀ H1, Ex H H1 → ∀ Q : VK, (∀ v H2, Ex H1 H2 → P v H2 → Q v H2) → ∀ E : XK, sp vs H1 Q E
theorem rg_call {sp : Sp} {dvs vs : List V} {E : XK} {tA : TA} {P : V → Hp → Prop} (h : EvA tA σ H vs) (hs : SpP sp (vs ++ dvs) H P) : Rg (tCall sp dvs E tA σ) H P := fun H1 e Q q =>
  h H1 e _ fun H2 e2 => hs H2 (e.trans e2) Q (fun v H3 e3 p => q v H3 (e2.trans e3) p) E
/-- a call of one argument that is made on the way -/
theorem rg_call1 {sp : Sp} {E : XK} {P P' : V → Hp → Prop} (h : Rg (ta σ) H P) (hs : ∀ x H1, Ex H H1 → P x H1 → SpP sp [x] H1 P') : Rg (tCall sp [] E (tCons ta tNil) σ) H P' := fun H1 e Q q =>
  h H1 e _ fun x H2 e2 p => hs x H2 (e.trans e2) p H2 (Ex.refl H2) Q (fun v H3 e3 p => q v H3 (e2.trans e3) p) E
theorem rg_cb1 {r : List V → Hp → VK → Prop} {P P' : V → Hp → Prop} (h : Rg (ta σ) H P) (hs : ∀ x H1, Ex H H1 → P x H1 → Rg (r [x]) H1 P') : Rg (tCB r (tCons ta tNil) σ) H P' := Rg.bind (g := fun x => r [x]) h hs
/-- tuple(a list) -/
theorem rg_tupOf {P : List V → Hp → Prop} (h : Rg (ta σ) H (fun v H2 => ∃ p ys, v = .ref p ∧ H2 p = some (.lst ys) ∧ P ys H2)) (hP : ∀ ys H1 H2, Ex H1 H2 → P ys H1 → P ys H2) :
    Rg (tCB (rTupOf K) (tCons ta tNil) σ) H (fun v H2 => ∃ p ys, v = .ref p ∧ SqT K H2 p ys ∧ P ys H2) := rg_cb1 h fun x H1 e p H2 e2 Q q => by
  obtain ⟨p, ys, rfl, h1, h2⟩ := p
  exact ⟨p, ys, rfl, sq_of (e2 p _ h1), fun l hl => q _ _ (Ex.new hl) ⟨l, ys, rfl, st_of upd_same, hP ys H1 _ (e2.trans (Ex.new hl)) h2⟩⟩
/-- max(a list) -/
theorem ev_maxL {ns : List Int} {m : Int} (h : Rg (ta σ) H (fun v H2 => ∃ p, v = .ref p ∧ H2 p = some (.lst (ns.map V.int)))) (hm : m ∈ ns) (hle : ∀ y ∈ ns, y ≤ m) : Ev (tCB (rMaxL K) (tCons ta tNil)) σ H (.int m) :=
  Rg.ev (rg_cb1 h fun x H1 e p H2 e2 Q q => by
    obtain ⟨p, rfl, h1⟩ := p
    refine ⟨p, ns, rfl, sq_of (e2 p _ h1), List.length_pos_iff.mpr (List.ne_nil_of_mem hm), fun m' hm' hle' => q _ H2 (Ex.refl H2) ?_⟩
    have h3 := hle m' hm'
    have h4 := hle' m hm
    rw [show m' = m by omega])
end

/-! ### comprehensions -/
/-- all but lists stand as they stood -/
def Kp (H H' : Hp) : Prop := ∀ a o, H a = some o → (∀ xs, o ≠ .lst xs) → H' a = some o
theorem Ex.kp {H H' : Hp} (e : Ex H H') : Kp H H' := fun a o h _ => e a o h
theorem Kp.trans {H H1 H2 : Hp} (a : Kp H H1) (b : Kp H1 H2) : Kp H H2 := fun x o h n => b x o (a x o h n) n
theorem Kp.upd {H : Hp} {p : Addr} {xs : List V} {o : HO} (h : H p = some (.lst xs)) : Kp H (upd H p o) := fun a u e n => by
  by_cases hp : a = p
  · subst hp
    rw [h] at e
    cases e
    exact absurd rfl (n xs)
  · rw [upd_ne hp]
    exact e
theorem Kp.t {K : PySem.W.Frag} {H H' : Hp} {a : Addr} {xs : List V} (k : Kp H H') (h : SqT K H a xs) : SqT K H' a xs := by
  rcases h with (h | ⟨o, h⟩) | h
  · exact .inl (.inl (k a _ h (fun _ e => nomatch e)))
  · exact .inl (.inr ⟨o, k a _ h (fun _ e => nomatch e)⟩)
  · exact .inr h
def Src (wi : TI) (σ : L2.St) (H : Hp) (xs : List V) : Prop :=
  ∀ H1, Ex H H1 → ∀ R : It → Hp → Prop, (∀ J H2, Ex H1 H2 → L2.Walk J xs.length (fun H3 => Ex H2 H3) (YAt xs) → R J H2) → wi σ H1 R
section
variable {K : PySem.W.Frag} {σ : L2.St} {H H' : Hp} {tl te : TE} {tt : TT}
theorem src_list {a : Addr} {xs : List V} (h : Ev tl σ H (.ref a)) (hq : SqL K H a xs) : Src (iList K tl) σ H xs := fun H1 e R r =>
  h H1 e _ fun H2 e2 => ⟨a, rfl, ⟨xs, ex_l (e.trans e2) hq⟩, r _ H2 e2 (walk_list.mono (fun H3 e3 => ex_l ((e.trans e2).trans e3) hq) fun _ _ _ _ _ _ y => y)⟩
theorem src_listN {xs : List V} (h : Rg (tl σ) H (fun v H2 => ∃ p, v = .ref p ∧ H2 p = some (.lst xs))) : Src (iList K tl) σ H xs := fun H1 e R r =>
  h H1 e _ fun v H2 e2 p => by
    obtain ⟨p, rfl, hp⟩ := p
    exact ⟨p, rfl, ⟨xs, sq_of hp⟩, r _ H2 e2 (walk_list.mono (fun H3 e3 => sq_of (e3 p _ hp)) fun _ _ _ _ _ _ y => y)⟩
theorem src_tup {a : Addr} {xs : List V} (h : Ev tl σ H (.ref a)) (hq : SqT K H a xs) : Src (iTup K tl) σ H xs := fun H1 e R r =>
  h H1 e _ fun H2 e2 => ⟨a, rfl, ⟨xs, ex_t (e.trans e2) hq⟩, r _ H2 e2 (walk_tup.mono (fun H3 e3 => ex_t ((e.trans e2).trans e3) hq) fun _ _ _ _ _ _ y => y)⟩
theorem src_tupN {xs : List V} (h : Rg (tl σ) H (fun v H2 => ∃ p, v = .ref p ∧ SqT K H2 p xs)) : Src (iTup K tl) σ H xs := fun H1 e R r =>
  h H1 e _ fun v H2 e2 p => by
    obtain ⟨p, rfl, hp⟩ := p
    exact ⟨p, rfl, ⟨xs, hp⟩, r _ H2 e2 (walk_tup.mono (fun H3 e3 => ex_t e3 hp) fun _ _ _ _ _ _ y => y)⟩
theorem walkI {J : It} {n : Nat} {G G' : Hp → Prop} {f : Nat → V} {xs : List V} (w : L2.Walk J n G (YFn f)) (hn : xs.length = n) (hx : ∀ i, i < n → xs[i]? = some (f i)) (hg : ∀ H, G' H → G H) : L2.Walk J xs.length G' (YAt xs) := by
  subst hn
  exact w.mono hg fun i H x H' hi _ y => ⟨y.1, by rw [y.2]; exact hx i hi⟩
theorem src_range1 {ta : TA} {n : Nat} (h : EvA ta σ H [.int (n : Int)]) (hn : n ≤ 1000000) : Src (iRng1 ta) σ H ((List.range n).map fun (i : Nat) => V.int (i : Int)) := fun H1 e R r =>
  h H1 e _ fun H2 e2 => ⟨(n : Int), rfl, by omega, by omega, r _ H2 e2 (walkI walk_range (by simp) (fun i hi => by
    have : i < n := by omega
    simp [this]) fun _ _ => True.intro)⟩
theorem src_range2 {ta : TA} {lo : Int} {n : Nat} {hi : Int} (h : EvA ta σ H [.int lo, .int hi]) (hn : (hi - lo).toNat = n) (hb : -1000000 ≤ lo ∧ lo ≤ 1000000 ∧ -1000000 ≤ hi ∧ hi ≤ 1000000) : Src (iRng2 ta) σ H ((List.range n).map fun (i : Nat) => V.int (lo + (i : Int))) := fun H1 e R r =>
  h H1 e _ fun H2 e2 => ⟨lo, hi, rfl, ⟨by omega, by omega, by omega, by omega⟩, r _ H2 e2 (walkI walk_range (by simp; omega) (fun i h => by
    have : i < n := by omega
    simp [this]) fun _ _ => True.intro)⟩
theorem src_str {l : List Nat} (h : Ev te σ H (.str (S l))) : Src (iStr te) σ H (l.map fun c => V.str (S [c])) := fun H1 e R r =>
  h H1 e _ fun H2 e2 => ⟨S l, rfl, r _ H2 e2 (by
    have e0 : (l.map fun c => V.str (S [c])).length = (S l).cps.size := by simp [S]
    rw [e0]
    refine walk_str.mono (fun _ _ => True.intro) fun i H x H' hi _ y => ⟨y.1, ?_⟩
    obtain ⟨c, hc, e3⟩ := y.2
    have hc2 : l[i]? = some c := by simpa [S] using hc
    rw [e3, List.getElem?_map, hc2]
    rfl)⟩

theorem paired_mono {α β : Type} {F G : α → β → Prop} : ∀ {l₁ : List α} {l₂ : List β}, Paired F l₁ l₂ → (∀ a b, F a b → G a b) → Paired G l₁ l₂
  | _, _, .nil, _ => .nil
  | _, _, .cons r t, f => .cons (f _ _ r) (paired_mono t f)
theorem paired_snoc {α β : Type} {F : α → β → Prop} : ∀ {l₁ : List α} {l₂ : List β} {a : α} {b : β}, Paired F l₁ l₂ → F a b → Paired F (l₁ ++ [a]) (l₂ ++ [b])
  | _, _, _, _, .nil, h => .cons h .nil
  | _, _, _, _, .cons r t, h => .cons r (paired_snoc t h)
theorem paired_map {α β : Type} {g : α → β} : ∀ {l₁ : List α} {l₂ : List β}, Paired (fun a b => b = g a) l₁ l₂ → l₂ = l₁.map g
  | _, _, .nil => rfl
  | _, _, .cons r t => by rw [List.map_cons, r, paired_map t]
theorem paired_len {α β : Type} {F : α → β → Prop} : ∀ {l₁ : List α} {l₂ : List β}, Paired F l₁ l₂ → l₁.length = l₂.length
  | _, _, .nil => rfl
  | _, _, .cons _ t => by rw [List.length_cons, List.length_cons, paired_len t]
/-- [e for x in xs if t], the items of any make -/
theorem rg_lc {α : Type} {wi : TI} {vs : List Nat} {j : Nat} (l : List α) (inj : α → V) (f : α → Bool) (R : α → V → Hp → Prop) (hs : Src wi σ H (l.map inj)) (hz : l.length ≤ 100000)
    (hR : ∀ a v H H', Kp H H' → R a v H → R a v H') (hw : ∀ x, wipe ((wipe σ vs).set j (some x)) vs = wipe σ vs)
    (ht : ∀ a ∈ l, ∀ H1, Ex H H1 → EvT tt ((wipe σ vs).set j (some (inj a))) H1 (f a)) (he : ∀ a ∈ l, f a = true → ∀ H1, Ex H H1 → Rg (te ((wipe σ vs).set j (some (inj a)))) H1 (R a)) :
    Rg (tLc wi (gName j) tt te vs σ) H (fun v H2 => ∃ p ys, v = .ref p ∧ H p = none ∧ H2 p = some (.lst ys) ∧ Paired (fun a y => R a y H2) (l.filter f) ys) := fun H0 e Q q =>
  hs H0 e _ fun J H1 e1 wk => fun D hD => by
    refine lc_it wk (fun i H' => Ex H1 H' ∧ i ≤ l.length ∧ ∃ ys, H' D = some (.lst ys) ∧ Paired (fun a y => R a y H') ((l.take i).filter f) ys)
      ⟨Ex.new hD, Nat.zero_le _, [], upd_same, by rw [List.take_zero]; exact .nil⟩ (fun i H' _ p => p.1) ?_ ?_
    · intro i x H' H'' hi p y
      obtain ⟨p1, pi, ys, p2, p3⟩ := p
      obtain ⟨rfl, hx⟩ := y
      rw [List.length_map] at hi
      have hx2 : inj l[i] = x := by
        rw [List.getElem?_map, List.getElem?_eq_getElem hi] at hx
        exact Option.some.inj hx
      subst hx2
      have hm : l[i] ∈ l := List.getElem_mem hi
      have ex := (e.trans e1).trans p1
      refine ⟨hw _, ht l[i] hm H'' ex H'' (Ex.refl H'') _ fun H3 e3 => ?_⟩
      have tk : l.take (i + 1) = l.take i ++ [l[i]] := by rw [List.take_add_one, List.getElem?_eq_getElem hi]; rfl
      cases hf : f l[i] with
      | true =>
        rw [if_pos rfl]
        refine (he l[i] hm hf H3 (ex.trans e3)).go fun y H4 e4 r => ⟨ys, e4 D _ (e3 D _ p2), szl ?_, Ex.mut ((p1.trans e3).trans e4) hD, hi, ys ++ [y], upd_same, ?_⟩
        · have h1 := paired_len p3
          have h2 := List.length_filter_le f (l.take i)
          rw [List.length_take] at h2
          omega
        · have kp : Kp H4 (upd H4 D (.lst (ys ++ [y]))) := Kp.upd (e4 D _ (e3 D _ p2))
          rw [tk, List.filter_append, List.filter_cons, if_pos hf]
          exact paired_snoc (paired_mono p3 fun a b r => hR a b _ _ ((Ex.kp (e3.trans e4)).trans kp) r) (hR _ _ _ _ kp r)
      | false =>
        rw [if_neg Bool.false_ne_true]
        refine ⟨p1.trans e3, hi, ys, e3 D _ p2, ?_⟩
        rw [tk, List.filter_append, List.filter_cons, if_neg (by rw [hf]; decide)]
        show Paired _ (_ ++ []) _
        rw [List.append_nil]
        exact paired_mono p3 fun a b r => hR a b _ _ (Ex.kp e3) r
    · intro H' p
      obtain ⟨p1, _, ys, p2, p3⟩ := p
      rw [List.length_map, List.take_length] at p3
      exact q _ H' (e1.trans p1) ⟨D, ys, rfl, fresh_back (e.trans e1) hD, p2, p3⟩
/-- .. the items scalars -/
theorem rg_lcV {α : Type} {wi : TI} {vs : List Nat} {j : Nat} (l : List α) (inj : α → V) (f : α → Bool) (g : α → V) (hs : Src wi σ H (l.map inj)) (hz : l.length ≤ 100000)
    (hw : ∀ x, wipe ((wipe σ vs).set j (some x)) vs = wipe σ vs)
    (ht : ∀ a ∈ l, ∀ H1, Ex H H1 → EvT tt ((wipe σ vs).set j (some (inj a))) H1 (f a)) (he : ∀ a ∈ l, f a = true → ∀ H1, Ex H H1 → Ev te ((wipe σ vs).set j (some (inj a))) H1 (g a)) :
    Rg (tLc wi (gName j) tt te vs σ) H (fun v H2 => ∃ p, v = .ref p ∧ H p = none ∧ H2 p = some (.lst ((l.filter f).map g))) :=
  (rg_lc l inj f (fun a v _ => v = g a) hs hz (fun _ _ _ _ _ h => h) hw ht fun a ha hf H1 e => Rg.of_ev (he a ha hf H1 e)).imp fun v H2 _ p => by
    obtain ⟨p, ys, e, h1, h2, h3⟩ := p
    rw [paired_map h3] at h2
    exact ⟨p, e, h1, h2⟩
theorem et_yes : EvT tYes σ H true := fun H1 _ _ q => q H1 (Ex.refl H1)
theorem filter_yes {α : Type} (l : List α) : l.filter (fun _ => true) = l := by simp
end

section
variable {K : PySem.W.Frag} {σ : L2.St} {H H' : Hp} {ta tb te tx : TE} {x y z v : V} {i j : Int}
theorem ev_nat {x : Int} (h : Ev te σ H (.int x)) (h0 : 0 ≤ x) : Ev te σ H (.int (x.toNat : Int)) := by
  rw [Int.toNat_of_nonneg h0]
  exact h
theorem atI_int {α : Type} {xs : List α} {i : Int} {v : α} (h0 : 0 ≤ i) (h : xs[i.toNat]? = some v) : atI xs i = some v := by
  have e := atI_nat h
  rw [Int.toNat_of_nonneg h0] at e
  exact e
/-- (a, b, ..)[i], [a, b, ..][i] -/
theorem ev_menuT {tA : TA} {vs : List V} (h : EvA tA σ H vs) (hl : vs.length ≤ 1000) (hb : Ev tb σ H (.int i)) (hx : atI vs i = some v) : Ev (tOp (rIxT K) (tTup tA) tb) σ H v := fun H1 e Q q =>
  h H1 e _ fun H2 e2 => ⟨sz (by omega), fun p hp => hb _ (e.trans (e2.trans (Ex.new hp))) _ fun H3 e3 => ⟨p, vs, i, v, rfl, rfl, ex_t e3 (st_of upd_same), hx, q H3 (e2.trans ((Ex.new hp).trans e3))⟩⟩
theorem ev_menuL {tA : TA} {vs : List V} (h : EvA tA σ H vs) (hl : vs.length ≤ 1000) (hb : Ev tb σ H (.int i)) (hx : atI vs i = some v) : Ev (tOp (rIxL K) (tLst tA) tb) σ H v := fun H1 e Q q =>
  h H1 e _ fun H2 e2 => ⟨sz (by omega), fun p hp => hb _ (e.trans (e2.trans (Ex.new hp))) _ fun H3 e3 => ⟨p, vs, i, v, rfl, rfl, ex_l e3 (sq_of upd_same), hx, q H3 (e2.trans ((Ex.new hp).trans e3))⟩⟩
/-- a made list's item -/
theorem ev_ixN {xs : List V} (h : Rg (ta σ) H (fun v H2 => ∃ p, v = .ref p ∧ H2 p = some (.lst xs))) (hb : Ev tb σ H (.int i)) (hx : atI xs i = some v) : Ev (tOp (rIxL K) ta tb) σ H v := fun H1 e Q q =>
  h H1 e _ fun x H2 e2 p => by
    obtain ⟨p, rfl, hp⟩ := p
    exact hb H2 (e.trans e2) _ fun H3 e3 => ⟨p, xs, i, v, rfl, rfl, sq_of (e3 p _ hp), hx, q H3 (e2.trans e3)⟩
/-- isinstance(x, T), x a scalar -/
def tyN : V → Option String
  | .non => some "NoneType"
  | .bl _ => some "bool"
  | .int _ => some "int"
  | .str _ => some "str"
  | _ => none
theorem tyN_x {K : PySem.W.Frag} {H : Hp} {x : V} {t : String} (h : tyN x = some t) : TyX K H x (.type t) := by
  cases x <;> first | cases h | skip
  · exact .base .non
  · exact .base (.bl _)
  · exact .base (.int _)
  · exact .base (.str _)
theorem ev_isi {t c : String} {r : Bool} (h : Ev ta σ H x) (ht : tyN x = some t) (hk : kitB t c = some r) : Ev (tCB (rIsi K) (tCons ta (tCons (tC (.ty c)) tNil))) σ H (.bl r) := fun H1 e Q q =>
  h H1 e _ fun H2 e2 => ⟨x, .ty c, .type t, .type c, r, rfl, .ty c, tyN_x ht, kit_ty hk, q H2 e2⟩
end
/-- small letters -/
def az (l : List Nat) : Prop := ∀ c ∈ l, 97 ≤ c ∧ c ≤ 122
theorem az_nil : az [] := fun _ h => nomatch h
theorem az_app {a b : List Nat} (h1 : az a) (h2 : az b) : az (a ++ b) := fun c hc => (List.mem_append.mp hc).elim (h1 c) (h2 c)
theorem az_take {a : List Nat} (n : Nat) (h : az a) : az (a.take n) := fun c hc => h c (List.mem_of_mem_take hc)
theorem az_drop {a : List Nat} (n : Nat) (h : az a) : az (a.drop n) := fun c hc => h c (List.mem_of_mem_drop hc)
theorem az_rep {a : List Nat} (n : Nat) (h : az a) : az (List.replicate n a).flatten := fun c hc => by
  obtain ⟨l, hl, hc⟩ := List.mem_flatten.mp hc
  rw [List.eq_of_mem_replicate hl] at hc
  exact h c hc

/-! ### numbers that are Nat -/
abbrev natV (l : List Nat) : List V := l.map fun (i : Nat) => V.int (i : Int)
def isT (K : PySem.W.Frag) (xs : List V) : V → Hp → Prop := fun v H => ∃ p, v = .ref p ∧ SqT K H p xs
def RetT (K : PySem.W.Frag) (xs : List V) (H : Hp) (Q : VK) : Prop := ∀ p H2, Ex H H2 → SqT K H2 p xs → Q (.ref p) H2
section
variable {K : PySem.W.Frag} {σ : L2.St} {H H' : Hp} {ta tb te tx : TE} {x y z v : V} {i j : Int} {a b : Nat}
theorem ev_addn (ha : Ev ta σ H (.int (a : Int))) (hb : Ev tb σ H (.int (b : Int))) : Ev (tOp rAdd ta tb) σ H (.int ((a + b : Nat) : Int)) := ev_is (ev_add ha hb) (by rw [Int.natCast_add])
theorem ev_subn (ha : Ev ta σ H (.int (a : Int))) (hb : Ev tb σ H (.int (b : Int))) (h : b ≤ a) : Ev (tOp rSub ta tb) σ H (.int ((a - b : Nat) : Int)) := ev_is (ev_sub ha hb) (by rw [Int.natCast_sub h])
theorem ev_modn (ha : Ev ta σ H (.int (a : Int))) (hb : Ev tb σ H (.int (b : Int))) (h : 0 < b) : Ev (tOp rMod ta tb) σ H (.int ((a % b : Nat) : Int)) := ev_is (ev_mod ha hb (by omega)) (by rw [Int.natCast_emod])
theorem ev_divn (ha : Ev ta σ H (.int (a : Int))) (hb : Ev tb σ H (.int (b : Int))) (h : 0 < b) (h2 : b < 1073741824) : Ev (tOp rDiv ta tb) σ H (.int ((a / b : Nat) : Int)) := ev_is (ev_div ha hb (by omega)) (by rw [Int.natCast_ediv])
theorem ev_eqn (ha : Ev ta σ H (.int (a : Int))) (hb : Ev tb σ H (.int (b : Int))) : Ev (tOp rEq ta tb) σ H (.bl (decide (a = b))) := ev_is (ev_eqI ha hb) (by rw [show decide ((a : Int) = (b : Int)) = decide (a = b) from decide_eq_decide.mpr (by omega)])
theorem ev_cn {n : Nat} : Ev (tC (.int (n : Int))) σ H (.int (n : Int)) := ev_c
theorem src_range2n {ta : TA} {lo hi : Nat} (h : EvA ta σ H [.int (lo : Int), .int (hi : Int)]) (hb : lo ≤ 1000000 ∧ hi ≤ 1000000) : Src (iRng2 ta) σ H ((List.range (hi - lo)).map fun (i : Nat) => V.int ((lo + i : Nat) : Int)) := by
  have e := src_range2 (n := hi - lo) h (by omega) (by omega)
  have e2 : (fun (i : Nat) => V.int ((lo : Int) + (i : Int))) = fun (i : Nat) => V.int ((lo + i : Nat) : Int) := by
    funext i
    rw [Int.natCast_add]
  rw [e2] at e
  exact e
theorem isT_rg {xs : List V} {p : Addr} (h : Ev te σ H (.ref p)) (hq : SqT K H p xs) : Rg (te σ) H (isT K xs) := fun H1 e Q q => h H1 e _ fun H2 e2 => q _ H2 e2 ⟨p, rfl, ex_t (e.trans e2) hq⟩
end

section
variable {K : PySem.W.Frag} {σ : L2.St} {H H' : Hp} {ta tb te tx : TE} {D : Ends} {tz : TS} {P : V → Hp → Prop}
theorem q_asgR {i : Nat} (h : Rg (te σ) H P) (k : ∀ v H1, Ex H H1 → P v H1 → tz D (σ.set i (some v)) H1) : tSeq (tAsg te (gName i)) tz D σ H := h.go fun v H2 e p => k v H2 e p
theorem s_asgR {i : Nat} (h : Rg (te σ) H P) (k : ∀ v H1, Ex H H1 → P v H1 → D.nx (σ.set i (some v)) H1) : tAsg te (gName i) D σ H := h.go fun v H2 e p => k v H2 e p
theorem s_retR (h : Rg (te σ) H P) (k : ∀ v H1, Ex H H1 → P v H1 → D.rt v H1) : tRet te D σ H := h.go fun v H2 e p => k v H2 e p
theorem rg_cat {b : List Nat} {R : List Nat → Prop} (ha : Rg (ta σ) H (fun v _ => ∃ l, v = .str (S l) ∧ R l)) (hb : Ev tb σ H (.str (S b))) (hl : ∀ l, R l → l.length + b.length ≤ 1000000) :
    Rg (tOp rCat ta tb σ) H (fun v _ => ∃ l, v = .str (S (l ++ b)) ∧ R l) := fun H1 e Q q => ha H1 e _ fun x H2 e2 p => by
  obtain ⟨l, rfl, r⟩ := p
  exact hb H2 (e.trans e2) _ fun H3 e3 => ⟨l, b, rfl, rfl, hl l r, q _ H3 (e2.trans e3) ⟨l, rfl, r⟩⟩
end

/-! ### data compared -/
mutual
theorem dp_mono {K : PySem.W.Frag} {H H' : Hp} (e : Ex H H') : ∀ {v : V} {d : PyData}, Dp K H v d → Dp K H' v d
  | _, _, .non => .non
  | _, _, .bl b => .bl b
  | _, _, .int i => .int i
  | _, _, .str x => .str x
  | _, _, .lst h a => .lst (ex_l e h) (dpAll_mono e a)
  | _, _, .tup h a => .tup (ex_t e h) (dpAll_mono e a)
theorem dpAll_mono {K : PySem.W.Frag} {H H' : Hp} (e : Ex H H') : ∀ {vs : List V} {ds : List PyData}, DpAll K H vs ds → DpAll K H' vs ds
  | _, _, .nil => .nil
  | _, _, .cons h a => .cons (dp_mono e h) (dpAll_mono e a)
end
def natD (l : List Nat) : List PyData := l.map fun (i : Nat) => PyData.int (i : Int)
theorem dpAll_nat {K : PySem.W.Frag} {H : Hp} : ∀ l : List Nat, DpAll K H (natV l) (natD l)
  | [] => .nil
  | i :: r => .cons (.int (i : Int)) (dpAll_nat r)
theorem lay_nat : ∀ l : List Nat, PyData.canLayAll0 (natD l) = true
  | [] => by simp [natD, PyData.canLayAll0]
  | i :: r => by
    have := lay_nat r
    simp only [natD, List.map_cons, PyData.canLayAll0, PyData.canLay0, Bool.true_and]
    exact this
theorem depth_nat : ∀ l : List Nat, PyData.depthAll (natD l) = 0
  | [] => by simp [natD, PyData.depthAll]
  | i :: r => by
    have := depth_nat r
    simp only [natD, List.map_cons, PyData.depthAll, PyData.depth]
    rw [show PyData.depthAll (List.map (fun (i : Nat) => PyData.int (i : Int)) r) = 0 from this]
    rfl
theorem shaped_natT (l : List Nat) : SeqAt.shaped (.tuple (natD l)) = true := by
  unfold SeqAt.shaped
  rw [PyData.canLay0, lay_nat, PyData.depth, depth_nat]
  rfl
theorem shaped_natL (l : List Nat) : SeqAt.shaped (.list (natD l)) = true := by
  unfold SeqAt.shaped
  rw [PyData.canLay0, lay_nat, PyData.depth, depth_nat]
  rfl
theorem eqv_nat : ∀ a b : List Nat, PyData.eqvAll (natD a) (natD b) = decide (a = b)
  | [], [] => by simp [natD, PyData.eqvAll]
  | [], _ :: _ => by simp [natD, PyData.eqvAll]
  | _ :: _, [] => by simp [natD, PyData.eqvAll]
  | x :: a, y :: b => by
    have ih := eqv_nat a b
    simp only [natD, List.map_cons, PyData.eqvAll, PyData.eqv]
    rw [show PyData.eqvAll (List.map (fun (i : Nat) => PyData.int (i : Int)) a) (List.map (fun (i : Nat) => PyData.int (i : Int)) b) = decide (a = b) from ih]
    by_cases h : x = y
    · subst h
      simp
    · rw [show ((x : Int) == (y : Int)) = false from beq_eq_false_iff_ne.mpr (by omega), Bool.false_and]
      exact (decide_eq_false fun e => h (List.cons.inj e).1).symm
section
variable {X : Cx}
theorem oEqD (hu : X.A.units + 64 < cLine) : OpR X (compareOp .Eq) (rEqD X.K) := op_eqD hu
theorem oNeD (hu : X.A.units + 64 < cLine) : OpR X (compareOp .NotEq) (rNeD X.K) := op_neD hu
theorem oIn : OpR X (compareOp .In) (rIn X.K false) := op_in_seq
theorem oNi : OpR X (compareOp .NotIn) (rIn X.K true) := op_notIn_seq
def rIntB : List V → Hp → VK → Prop := fun xs H Q => ∃ k : Bool, xs = [.bl k] ∧ Q (.int (if k then 1 else 0)) H
theorem cIntB : CallR X (.type "int") rIntB := impC call_int1 fun xs H Q ⟨k, e, q⟩ => .inr ⟨k, e, q⟩
end
section
variable {K : PySem.W.Frag} {σ : L2.St} {H H' : Hp} {ta tb te tx tl : TE} {D : Ends} {tz tu : TS} {P : V → Hp → Prop} {x y z v : V}
def isD (K : PySem.W.Frag) (d : PyData) : V → Hp → Prop := fun v H => Dp K H v d
def isN (xs : List V) : V → Hp → Prop := fun v H => ∃ p, v = .ref p ∧ H p = some (.lst xs)
theorem isD_T {l : List Nat} {k : Hp → VK → Prop} (h : Rg k H (isT K (natV l))) : Rg k H (isD K (.tuple (natD l))) := h.imp fun v H2 _ p => by
  obtain ⟨p, rfl, hp⟩ := p
  exact .tup hp (dpAll_nat l)
theorem isD_N {l : List Nat} {k : Hp → VK → Prop} (h : Rg k H (isN (natV l))) : Rg k H (isD K (.list (natD l))) := h.imp fun v H2 _ p => by
  obtain ⟨p, rfl, hp⟩ := p
  exact .lst (sq_of hp) (dpAll_nat l)
theorem ev_eqD {d e : PyData} (ha : Rg (ta σ) H (isD K d)) (hb : ∀ H1, Ex H H1 → Rg (tb σ) H1 (isD K e)) (sd : SeqAt.shaped d = true) (se : SeqAt.shaped e = true) : Ev (tOp (rEqD K) ta tb) σ H (.bl (PyData.eqv d e)) := fun H1 a Q q =>
  ha H1 a _ fun x H2 e2 px => hb H2 (a.trans e2) H2 (Ex.refl H2) _ fun y H3 e3 py => ⟨d, e, dp_mono e3 px, py, sd, se, q H3 (e2.trans e3)⟩
theorem ev_neD {d e : PyData} (ha : Rg (ta σ) H (isD K d)) (hb : ∀ H1, Ex H H1 → Rg (tb σ) H1 (isD K e)) (sd : SeqAt.shaped d = true) (se : SeqAt.shaped e = true) : Ev (tOp (rNeD K) ta tb) σ H (.bl (!PyData.eqv d e)) := fun H1 a Q q =>
  ha H1 a _ fun x H2 e2 px => hb H2 (a.trans e2) H2 (Ex.refl H2) _ fun y H3 e3 py => ⟨d, e, dp_mono e3 px, py, sd, se, q H3 (e2.trans e3)⟩
theorem ev_eqTT {a b : List Nat} (ha : Rg (ta σ) H (isT K (natV a))) (hb : ∀ H1, Ex H H1 → Rg (tb σ) H1 (isT K (natV b))) : Ev (tOp (rEqD K) ta tb) σ H (.bl (decide (a = b))) :=
  ev_is (ev_eqD (isD_T ha) (fun H1 e => isD_T (hb H1 e)) (shaped_natT a) (shaped_natT b)) (by rw [PyData.eqv, eqv_nat])
theorem ev_neTT {a b : List Nat} (ha : Rg (ta σ) H (isT K (natV a))) (hb : ∀ H1, Ex H H1 → Rg (tb σ) H1 (isT K (natV b))) : Ev (tOp (rNeD K) ta tb) σ H (.bl (!decide (a = b))) :=
  ev_is (ev_neD (isD_T ha) (fun H1 e => isD_T (hb H1 e)) (shaped_natT a) (shaped_natT b)) (by rw [PyData.eqv, eqv_nat])
theorem rg_nil : Rg (tLst tNil σ) H (isN []) := fun H1 a Q q => ⟨Nat.zero_le _, fun p hp => q _ _ (Ex.new hp) ⟨p, rfl, upd_same⟩⟩
theorem nil_dec (a : List Nat) : decide (a = []) = a.isEmpty := by cases a <;> simp
/-- a made list of numbers is, is not empty -/
theorem ev_eqE {a : List Nat} (ha : Rg (ta σ) H (isN (natV a))) : Ev (tOp (rEqD K) ta (tLst tNil)) σ H (.bl a.isEmpty) :=
  ev_is (ev_eqD (isD_N ha) (fun H1 e => isD_N (l := []) rg_nil) (shaped_natL a) (shaped_natL [])) (by rw [PyData.eqv, eqv_nat, nil_dec])
theorem ev_neE {a : List Nat} (ha : Rg (ta σ) H (isN (natV a))) : Ev (tOp (rNeD K) ta (tLst tNil)) σ H (.bl (!a.isEmpty)) :=
  ev_is (ev_neD (isD_N ha) (fun H1 e => isD_N (l := []) rg_nil) (shaped_natL a) (shaped_natL [])) (by rw [PyData.eqv, eqv_nat, nil_dec])
theorem flat_nat : ∀ l : List Nat, (natV l).all flatV = true
  | [] => rfl
  | _ :: r => flat_nat r
theorem inV_nat (x : Nat) : ∀ l : List Nat, inV (.int (x : Int)) (natV l) = decide (x ∈ l)
  | [] => by simp [inV]
  | y :: r => by
    have ih := inV_nat x r
    unfold inV at ih ⊢
    rw [natV, List.map_cons, List.any_cons, ih]
    show ((y : Int) == (x : Int) || decide (x ∈ r)) = _
    by_cases h : x = y
    · subst h; simp
    · rw [show ((y : Int) == (x : Int)) = false from beq_eq_false_iff_ne.mpr (by omega)]
      simp [h]
theorem ev_inT {n : Nat} {l : List Nat} {p : Addr} (ha : Ev ta σ H (.int (n : Int))) (hb : Ev tb σ H (.ref p)) (h : SqT K H p (natV l)) : Ev (tOp (rIn K false) ta tb) σ H (.bl (decide (n ∈ l))) :=
  ev_is (ev_op ha hb (rv_isT h rfl (flat_nat l))) (by rw [inV_nat])
theorem ev_niT {n : Nat} {l : List Nat} {p : Addr} (ha : Ev ta σ H (.int (n : Int))) (hb : Ev tb σ H (.ref p)) (h : SqT K H p (natV l)) : Ev (tOp (rIn K true) ta tb) σ H (.bl (!decide (n ∈ l))) :=
  ev_is (ev_op ha hb (rv_niT h rfl (flat_nat l))) (by rw [inV_nat])
theorem ev_inL {n : Nat} {l : List Nat} {p : Addr} (ha : Ev ta σ H (.int (n : Int))) (hb : Ev tb σ H (.ref p)) (h : SqL K H p (natV l)) : Ev (tOp (rIn K false) ta tb) σ H (.bl (decide (n ∈ l))) :=
  ev_is (ev_op ha hb (rv_isL h rfl (flat_nat l))) (by rw [inV_nat])
theorem ev_intB {k : Bool} (h : Ev ta σ H (.bl k)) : Ev (tCB rIntB (tCons ta tNil)) σ H (.int (if k then 1 else 0)) := fun H1 e Q q => h H1 e _ fun H2 e2 => ⟨k, rfl, q H2 e2⟩
theorem s_par {tA : TA} {i j : Nat} (h : EvA tA σ H [x, y]) (k : ∀ H1, Ex H H1 → D.nx ((σ.set i (some x)).set j (some y)) H1) : tPar i j tA D σ H := h H (Ex.refl H) _ fun H1 e => ⟨x, y, rfl, k H1 e⟩
theorem rg_tup {tA : TA} {vs : List V} (h : EvA tA σ H vs) (hl : vs.length ≤ 1000) : Rg (tTup tA σ) H (isT K vs) := fun H1 e Q q => h H1 e _ fun H2 e2 => ⟨sz (by omega), fun p hp => q _ _ (e2.trans (Ex.new hp)) ⟨p, rfl, st_of upd_same⟩⟩
/-- for x in a tuple that is made on the way -/
theorem s_forTR {xs : List V} {j : Nat} (h : Rg (tl σ) H (isT K xs)) (Pv : Hp → Nat → L2.St → Hp → Prop) (h0 : ∀ H1, Ex H H1 → Pv H1 0 σ H1) (hk : ∀ H1 i σ' H', Pv H1 i σ' H' → Kp H1 H')
    (hs : ∀ H1, Ex H H1 → ∀ i x σ' H', xs[i]? = some x → Pv H1 i σ' H' → tu { D with nx := Pv H1 (i + 1), ct := Pv H1 (i + 1), bk := D.nx } (σ'.set j (some x)) H') (hd : ∀ H1, Ex H H1 → ∀ σ' H', Pv H1 xs.length σ' H' → D.nx σ' H') :
    tFor (iTup K tl) (gName j) tu D σ H := h.go fun v H1 e p => by
  obtain ⟨p, rfl, hp⟩ := p
  exact ⟨p, rfl, ⟨xs, hp⟩, for_tup (K := K) (a := p) (xs := xs) (Pv H1) (h0 H1 e) (fun i σ' H' _ q => (hk H1 i σ' H' q).t hp) (fun i x σ' H' hx q => hs H1 e i x σ' H' hx q) (hd H1 e)⟩
theorem q_forTR {xs : List V} {j : Nat} (h : Rg (tl σ) H (isT K xs)) (Pv : Hp → Nat → L2.St → Hp → Prop) (h0 : ∀ H1, Ex H H1 → Pv H1 0 σ H1) (hk : ∀ H1 i σ' H', Pv H1 i σ' H' → Kp H1 H')
    (hs : ∀ H1, Ex H H1 → ∀ i x σ' H', xs[i]? = some x → Pv H1 i σ' H' → tu { D with nx := Pv H1 (i + 1), ct := Pv H1 (i + 1), bk := tz D } (σ'.set j (some x)) H') (hd : ∀ H1, Ex H H1 → ∀ σ' H', Pv H1 xs.length σ' H' → tz D σ' H') :
    tSeq (tFor (iTup K tl) (gName j) tu) tz D σ H := s_forTR (D := { D with nx := tz D }) h Pv h0 hk hs hd
end

/-! ### join of signs, list(range(n)) -/
theorem glue_ones : ∀ (l : List Nat) (acc : Array Nat), (l.map fun c => S [c]).foldl (fun acc p => acc ++ (S []).cps ++ p.cps) acc = acc ++ l.toArray
  | [], acc => by simp
  | c :: r, acc => by
    rw [List.map_cons, List.foldl_cons, glue_ones r]
    simp [S]
theorem join_S (l : List Nat) : Txt.join (S []) (l.map fun c => S [c]) = S l := by
  cases l with
  | nil => rfl
  | cons c r =>
    unfold Txt.join Builtin.Str.glued
    rw [List.map_cons, List.drop_succ_cons, List.drop_zero, glue_ones]
    simp [S]
def rJoinC (K : PySem.W.Frag) : V → List V → Hp → VK → Prop := fun x xs H Q => ∃ (p : Addr) (l : List Nat), x = .str (S []) ∧ xs = [.ref p] ∧ SqL K H p (l.map fun c => V.str (S [c])) ∧ l.length ≤ 100000 ∧ Q (.str (S l)) H
theorem mJoinC {X : Cx} : MtR X "str.join" (rJoinC X.K) := impM mt_join fun x xs H Q ⟨p, l, e1, e2, h, hz, q⟩ => ⟨S [], p, l.map fun c => S [c], e1, e2, .inl (by rw [List.map_map]; exact h), by
  have e0 : (List.map (fun z : Str => z.length) (l.map fun c => S [c])).sum = l.length := by
    rw [List.map_map]
    clear h q hz
    induction l with
    | nil => rfl
    | cons c r ih =>
      rw [List.map_cons, List.sum_cons, ih, List.length_cons]
      show (S [c]).length + _ = _
      rw [S_len, List.length_singleton, Nat.add_comm]
  rw [e0, S_len, List.length_map]
  show l.length + l.length * 0 ≤ _
  omega, by rw [join_S]; exact q⟩
section
variable {K : PySem.W.Frag} {σ : L2.St} {H H' : Hp} {ta tb te to : TE}
theorem ev_join {l : List Nat} (ho : Ev to σ H (.str (S []))) (h : Rg (te σ) H (isN (l.map fun c => V.str (S [c])))) (hl : l.length ≤ 100000) : Ev (tM1 (rJoinC K) to te) σ H (.str (S l)) := fun H1 e Q q =>
  ho H1 e _ fun H2 e2 => ⟨⟨_, rfl⟩, (h.mono (e.trans e2)).go fun v H3 e3 p => by
    obtain ⟨p, rfl, hp⟩ := p
    exact ⟨p, l, rfl, rfl, sq_of hp, hl, q H3 (e2.trans e3)⟩⟩
theorem rg_listRange {n : Nat} (h : Ev ta σ H (.int (n : Int))) (hn : n ≤ 1000000) : Rg (tLstRg (tRg1 ta) σ) H (fun v H2 => ∃ p, v = .ref p ∧ H p = none ∧ H2 p = some (.lst (natV (List.range n)))) := fun H1 e Q q =>
  h H1 e _ fun H2 e2 => ⟨(n : Int), rfl, RgOk.of_le (by omega) (by omega) (by omega) (by omega), fun p hp => q _ _ (e2.trans (Ex.new hp)) ⟨p, rfl, fresh_back (e.trans e2) hp, by
    rw [upd_same]
    unfold rgV natV
    rw [show ((n : Int) - 0).toNat = n by omega]
    congr 2
    apply List.map_congr_left
    intro i _
    rw [Int.zero_add]⟩⟩
end

theorem nat_at {l : List Nat} {i : Nat} {x : V} (h : (natV l)[i]? = some x) : ∃ y, l[i]? = some y ∧ x = V.int (y : Int) := by
  unfold natV at h
  rw [List.getElem?_map] at h
  cases e : l[i]? with
  | none => rw [e] at h; cases h
  | some y => rw [e] at h; exact ⟨y, rfl, (Option.some.inj h).symm⟩
theorem nat_get {l : List Nat} {i y : Nat} (h : l[i]? = some y) : (natV l)[i]? = some (V.int (y : Int)) := by
  unfold natV
  rw [List.getElem?_map, h]
  rfl
theorem empty_S : ("" : Str) = S [] := by decide +kernel
def alph : List Nat := [97, 98, 99, 100, 101, 102, 103, 104, 105, 106, 107, 108, 109, 110, 111, 112, 113, 114, 115, 116, 117, 118, 119, 120, 121, 122]
theorem alph_S : ("abcdefghijklmnopqrstuvwxyz" : Str) = S alph := by decide +kernel
theorem alph_at {g : Nat} (h : g < 26) : alph[g]? = some (g + 97) := by
  have : ∀ g ∈ List.range 26, alph[g]? = some (g + 97) := by decide
  exact this g (List.mem_range.mpr h)
section
variable {K : PySem.W.Frag} {σ : L2.St} {H H' : Hp} {ta tb te to : TE}
theorem ev_ixLn {p : Addr} {l : List Nat} {n y : Nat} (ha : Ev ta σ H (.ref p)) (hb : Ev tb σ H (.int (n : Int))) (hp : SqL K H p (natV l)) (h : l[n]? = some y) : Ev (tOp (rIxL K) ta tb) σ H (.int (y : Int)) :=
  ev_op ha hb (rv_ixL hp (atI_nat (nat_get h)))
theorem ev_ixTn {p : Addr} {l : List Nat} {n y : Nat} (ha : Ev ta σ H (.ref p)) (hb : Ev tb σ H (.int (n : Int))) (hp : SqT K H p (natV l)) (h : l[n]? = some y) : Ev (tOp (rIxT K) ta tb) σ H (.int (y : Int)) :=
  ev_op ha hb (rv_ixT hp (atI_nat (nat_get h)))
theorem ev_min2n {a b : Nat} (ha : Ev ta σ H (.int (a : Int))) (hb : Ev tb σ H (.int (b : Int))) : Ev (tCB BW.rMin2 (tCons ta (tCons tb tNil))) σ H (.int ((min a b : Nat) : Int)) := ev_is (BW.ev_min2 ha hb) (congrArg V.int (by omega))
theorem ev_max2n {a b : Nat} (ha : Ev ta σ H (.int (a : Int))) (hb : Ev tb σ H (.int (b : Int))) : Ev (tCB BW.rMax2 (tCons ta (tCons tb tNil))) σ H (.int ((max a b : Nat) : Int)) := ev_is (BW.ev_max2 ha hb) (congrArg V.int (by omega))
end

/-! ### signs in texts, strip -/
section
variable {X : Cx}
def rInC : R2 := fun x y H Q => ∃ (c : Nat) (l : List Nat), x = .str (S [c]) ∧ y = .str (S l) ∧ Q (.bl (decide (c ∈ l))) H
def rNiC : R2 := fun x y H Q => ∃ (c : Nat) (l : List Nat), x = .str (S [c]) ∧ y = .str (S l) ∧ Q (.bl (!decide (c ∈ l))) H
theorem oInC : OpR X (compareOp .In) rInC := imp op_in_sign fun x y H Q ⟨c, l, e1, e2, q⟩ => ⟨c, S l, e1, e2, by rw [S_cps]; exact q⟩
theorem oNiC : OpR X (compareOp .NotIn) rNiC := imp op_notIn_sign fun x y H Q ⟨c, l, e1, e2, q⟩ => ⟨c, S l, e1, e2, by rw [S_cps]; exact q⟩
theorem takeWhile_all {p : Nat → Bool} : ∀ l : List Nat, (∀ c ∈ l, p c = true) → l.takeWhile p = l
  | [], _ => rfl
  | a :: r, h => by
    rw [List.takeWhile_cons, if_pos (h a List.mem_cons_self), takeWhile_all r fun c hc => h c (List.mem_cons_of_mem _ hc)]
theorem strip_all {l b : List Nat} (h : ∀ c ∈ l, c ∈ b) : Txt.stripChars (S l) (S b) = S [] := by
  have hg : ∀ c ∈ l, (S b).cps.contains c = true := fun c hc => by
    have := h c hc
    simpa [S] using this
  unfold Txt.stripChars
  rw [PyProof.Rows.stripBy_eq]
  have e1 : stripLo (S b).cps.contains true (S l) = l.length := by
    unfold stripLo
    rw [if_pos rfl, S_cps, takeWhile_all l hg]
  have e2 : stripHi (S b).cps.contains true (S l) l.length = l.length := by
    unfold stripHi
    rw [if_pos rfl, S_cps, S_len, List.drop_length]
    rfl
  rw [e1, e2]
  unfold Builtin.Str.strSub
  simp [S]
def rStripC : V → List V → Hp → VK → Prop := fun x xs H Q => ∃ l b : List Nat, x = .str (S l) ∧ xs = [.str (S b)] ∧ (∀ c ∈ l, c ∈ b) ∧ l.length ≤ 1000000 ∧ Q (.str (S [])) H
theorem mStripC : MtR X "str.strip" rStripC := impM mt_stripChars fun x xs H Q ⟨l, b, e1, e2, h, hz, q⟩ => ⟨S l, S b, e1, e2, by rw [S_len]; exact sz hz, by rw [strip_all h]; exact q⟩
end
section
variable {K : PySem.W.Frag} {σ : L2.St} {H H' : Hp} {ta tb te to : TE} {c : Nat} {l b : List Nat}
theorem ev_inC (ha : Ev ta σ H (.str (S [c]))) (hb : Ev tb σ H (.str (S l))) : Ev (tOp rInC ta tb) σ H (.bl (decide (c ∈ l))) := ev_op ha hb (rv_val fun H1 _ Q q => ⟨c, l, rfl, rfl, q⟩)
theorem ev_niC (ha : Ev ta σ H (.str (S [c]))) (hb : Ev tb σ H (.str (S l))) : Ev (tOp rNiC ta tb) σ H (.bl (!decide (c ∈ l))) := ev_op ha hb (rv_val fun H1 _ Q q => ⟨c, l, rfl, rfl, q⟩)
theorem ev_strip (ha : Ev ta σ H (.str (S l))) (hb : Ev tb σ H (.str (S b))) (h : ∀ c ∈ l, c ∈ b) (hz : l.length ≤ 1000000) : Ev (tM1 rStripC ta tb) σ H (.str (S [])) := fun H1 e Q q =>
  ha H1 e _ fun H2 e2 => ⟨⟨_, rfl⟩, hb H2 (e.trans e2) _ fun H3 e3 => ⟨l, b, rfl, rfl, h, hz, q H3 (e2.trans e3)⟩⟩
end

/-! ### list(text), find of a sign, all, isinstance of things -/
section
variable {X : Cx}
def rListC : List V → Hp → VK → Prop := fun xs H Q => ∃ l : List Nat, xs = [.str (S l)] ∧ l.length ≤ 1000000 ∧ ∀ p, H p = none → Q (.ref p) (upd H p (.lst (l.map fun c => V.str (S [c]))))
theorem cListC (hc : X.calm = true) : CallR X (.type "list") rListC := by
  intro pins s σ H xs us Q I r h
  obtain ⟨l, rfl, hz, q⟩ := h
  obtain ⟨u, rfl, rx⟩ := vals1 r
  obtain ⟨t, rfl⟩ := rx
  have hn : (S l).cps.size = l.length := by simp [S]
  refine call_list_str (I.ok.hd hc) (S l) t (fun h' tk acc c' hk e hi => ?_) (by rw [hn]; exact sz hz)
  have hlen : acc.toList.length = l.length := by rw [Array.length_toList, hi.1, hn]
  refine ⟨.ref s.heap.objs.size, upd H s.heap.objs.size (.lst (l.map fun c => V.str (S [c]))), I.laid hk (Nat.le_refl _) (show ObjOk X.prog X.w _ _ _ (.lst (l.map fun c => V.str (S [c]))) from ⟨by rw [List.length_map]; exact sz hz, acc.toList, c', vals_of_at (by rw [List.length_map, hlen]) fun j x u hx hu => ?_, ?_⟩), rfl, q _ (I.hok.fresh (Nat.le_refl _))⟩
  · obtain ⟨c, t', hc', rfl⟩ := hi.2 j u (by rw [← hu, Array.getElem?_toList])
    rw [List.getElem?_map] at hx
    have hc2 : l[j]? = some c := by simpa [S] using hc'
    rw [hc2] at hx
    cases (Option.some.inj hx : V.str (S [c]) = x)
    exact ⟨t', rfl⟩
  · rw [Array.toArray_toList]
    exact e
def findC (l : List Nat) (c : Nat) : Int := Txt.find (S l) (S [c])
theorem findC_neg (l : List Nat) (c : Nat) : decide (findC l c < 0) = !decide (c ∈ l) := by
  have h := StrLaws.found_one (S l) c
  rw [S_cps] at h
  rw [← h, Bool.not_not]
  unfold findC Txt.find
  show decide ((match Builtin.Str.occurrences (S l) (S [c]) 0 (S l).length 1 with | i :: _ => ((i : Nat) : Int) | [] => -1) < 0) = (Builtin.Str.occurrences (S l) (S [c]) 0 (S l).length 1).isEmpty
  cases Builtin.Str.occurrences (S l) (S [c]) 0 (S l).length 1 with
  | nil => rfl
  | cons i r => exact decide_eq_false (by show ¬ ((i : Nat) : Int) < 0; omega)
def rFindC : V → List V → Hp → VK → Prop := fun x xs H Q => ∃ (l : List Nat) (c : Nat), x = .str (S l) ∧ xs = [.str (S [c])] ∧ Q (.int (findC l c)) H
theorem mFindC : MtR X "str.find" rFindC := impM mt_find fun x xs H Q ⟨l, c, e1, e2, q⟩ => ⟨S l, S [c], e1, e2, q⟩
end
/-- what stands for no text -/
def NotS (H : Hp) (v : V) : Prop := v = .non ∨ (∃ b, v = .bl b) ∨ (∃ i, v = .int i) ∨ (∃ p xs, v = .ref p ∧ H p = some (.tup xs)) ∨ ∃ p xs, v = .ref p ∧ H p = some (.lst xs)
theorem NotS.mono {H H' : Hp} {v : V} (e : Ex H H') (h : NotS H v) : NotS H' v := by
  rcases h with h | h | h | ⟨p, xs, h1, h2⟩ | ⟨p, xs, h1, h2⟩
  · exact .inl h
  · exact .inr (.inl h)
  · exact .inr (.inr (.inl h))
  · exact .inr (.inr (.inr (.inl ⟨p, xs, h1, e p _ h2⟩)))
  · exact .inr (.inr (.inr (.inr ⟨p, xs, h1, e p _ h2⟩)))
theorem NotS.ty {K : PySem.W.Frag} {H : Hp} {v : V} (h : NotS H v) : ∃ t, TyX K H v (.type t) ∧ kitB t "str" = some false := by
  rcases h with rfl | ⟨b, rfl⟩ | ⟨i, rfl⟩ | ⟨p, xs, rfl, h⟩ | ⟨p, xs, rfl, h⟩
  · exact ⟨_, .base .non, by decide +kernel⟩
  · exact ⟨_, .base (.bl _), by decide +kernel⟩
  · exact ⟨_, .base (.int _), by decide +kernel⟩
  · exact ⟨_, .base (.tup h), by decide +kernel⟩
  · exact ⟨_, .base (.lst h), by decide +kernel⟩
theorem strOk_S {l : List Nat} (h : ∀ c ∈ l, c < 1114112) : PyData.strOk (S l) = true := by
  unfold PyData.strOk S
  simpa using h
section
variable {K : PySem.W.Frag} {σ : L2.St} {H H' : Hp} {ta tb te to : TE} {c : Nat} {l b : List Nat} {v : V}
theorem rep_flat_len (n : Nat) (a : List Nat) : (List.replicate n a).flatten.length = n * a.length := by simp
theorem ev_isiX {c : String} {r : Bool} (h : Ev ta σ H v) (ht : ∀ H1, Ex H H1 → ∃ t, TyX K H1 v (.type t) ∧ kitB t c = some r) : Ev (tCB (rIsi K) (tCons ta (tCons (tC (.ty c)) tNil))) σ H (.bl r) := fun H1 e Q q =>
  h H1 e _ fun H2 e2 => by
    obtain ⟨t, h1, h2⟩ := ht H2 (e.trans e2)
    exact ⟨v, .ty c, .type t, .type c, r, rfl, .ty c, h1, kit_ty h2, q H2 e2⟩
theorem ev_find (ha : Ev ta σ H (.str (S l))) (hb : Ev tb σ H (.str (S [c]))) : Ev (tM1 rFindC ta tb) σ H (.int (findC l c)) := fun H1 e Q q =>
  ha H1 e _ fun H2 e2 => ⟨⟨_, rfl⟩, hb H2 (e.trans e2) _ fun H3 e3 => ⟨l, c, rfl, rfl, q H3 (e2.trans e3)⟩⟩
theorem ev_all {bs : List Bool} (h : Rg (ta σ) H (isN (bs.map V.bl))) : Ev (tCB (rAll K) (tCons ta tNil)) σ H (.bl (bs.all id)) :=
  Rg.ev (rg_cb1 h fun x H1 e p H2 e2 Q q => by
    obtain ⟨p, rfl, h1⟩ := p
    exact ⟨p, bs, rfl, sq_of (e2 p _ h1), q _ H2 (Ex.refl H2) rfl⟩)
theorem dpAll_one : ∀ l : List Nat, DpAll K H (l.map fun c => V.str (S [c])) (l.map fun c => PyData.str (S [c]))
  | [] => .nil
  | c :: r => .cons (.str _) (dpAll_one r)
theorem lay_one : ∀ l : List Nat, (∀ c ∈ l, c < 1114112) → PyData.canLayAll0 (l.map fun c => PyData.str (S [c])) = true
  | [], _ => by simp [PyData.canLayAll0]
  | c :: r, h => by
    rw [List.map_cons, PyData.canLayAll0, lay_one r fun d hd => h d (List.mem_cons_of_mem _ hd), PyData.canLay0, strOk_S (by simpa using h c List.mem_cons_self)]
    rfl
theorem depth_one : ∀ l : List Nat, PyData.depthAll (l.map fun c => PyData.str (S [c])) = 0
  | [] => by simp [PyData.depthAll]
  | c :: r => by
    rw [List.map_cons, PyData.depthAll, depth_one r, PyData.depth]
    rfl
/-- a made list of signs is empty -/
theorem ev_eqES (ha : Rg (ta σ) H (isN (l.map fun c => V.str (S [c])))) (hl : ∀ c ∈ l, c < 1114112) : Ev (tOp (rEqD K) ta (tLst tNil)) σ H (.bl l.isEmpty) :=
  ev_is (ev_eqD (ha.imp fun v H2 _ p => (show Dp K H2 v (.list (l.map fun c => PyData.str (S [c]))) by
    obtain ⟨p, rfl, hp⟩ := p
    exact .lst (sq_of hp) (dpAll_one l))) (fun H1 e => isD_N (l := []) rg_nil) (by
      unfold SeqAt.shaped
      rw [PyData.canLay0, lay_one l hl, PyData.depth, depth_one]
      rfl) (shaped_natL [])) (by
      cases l with
      | nil => rfl
      | cons c r => rfl)
end

/-! ### endswith, chains of comparisons, max of numbers -/
def rEnds : V → List V → Hp → VK → Prop := fun x xs H Q => ∃ a b : List Nat, x = .str (S a) ∧ xs = [.str (S b)] ∧ Q (.bl (decide (b.length ≤ a.length) && ((a.drop (a.length - b.length)).take b.length == b))) H
theorem mEnds {X : Cx} : MtR X "str.endswith" rEnds := impM mt_endswith fun x xs H Q ⟨a, b, e1, e2, q⟩ => ⟨S a, S b, e1, e2, by
  have e : Txt.endswith (S a) (S b) = (decide (b.length ≤ a.length) && ((a.drop (a.length - b.length)).take b.length == b)) := by
    unfold Txt.endswith
    rw [StrLaws.subAt_eq, S_len, S_len, S_cps, S_cps, Nat.zero_add]
  rw [e]
  exact q⟩
section
variable {K : PySem.W.Frag} {σ : L2.St} {H H' : Hp} {ta tb tc te : TE} {x y z v : V} {i j k : Int}
theorem ev_ends {a b : List Nat} (ha : Ev ta σ H (.str (S a))) (hb : Ev tb σ H (.str (S b))) : Ev (tM1 rEnds ta tb) σ H (.bl (decide (b.length ≤ a.length) && ((a.drop (a.length - b.length)).take b.length == b))) := fun H1 e Q q =>
  ha H1 e _ fun H2 e2 => ⟨⟨_, rfl⟩, hb H2 (e.trans e2) _ fun H3 e3 => ⟨a, b, rfl, rfl, q H3 (e2.trans e3)⟩⟩
theorem ev_chainLe (ha : Ev ta σ H (.int i)) (hb : Ev tb σ H (.int j)) (hc : Ev tc σ H (.int k)) : Ev (tChain rLe rLe ta tb tc) σ H (.bl (decide (i ≤ j) && decide (j ≤ k))) := fun H1 e Q q =>
  ha H1 e _ fun H2 e2 => hb H2 (e.trans e2) _ fun H3 e3 => ⟨i, j, rfl, rfl, decide (i ≤ j), rfl, by
    cases h : decide (i ≤ j) with
    | true =>
      rw [if_pos rfl]
      exact hc H3 ((e.trans e2).trans e3) _ fun H4 e4 => ⟨j, k, rfl, rfl, by
        have := q H4 ((e2.trans e3).trans e4)
        rw [h, Bool.true_and] at this
        exact this⟩
    | false =>
      rw [if_neg Bool.false_ne_true]
      have := q H3 (e2.trans e3)
      rw [h, Bool.false_and] at this
      exact this⟩
theorem ev_maxLn {l : List Nat} {m : Nat} (h : Rg (ta σ) H (isN (natV l))) (hm : m ∈ l) (hle : ∀ y ∈ l, y ≤ m) : Ev (tCB (rMaxL K) (tCons ta tNil)) σ H (.int (m : Int)) := by
  refine ev_maxL (ns := l.map fun (n : Nat) => (n : Int)) (h.imp fun v H2 _ p => ?_) (List.mem_map.mpr ⟨m, hm, rfl⟩) fun y hy => ?_
  · obtain ⟨p, e, hp⟩ := p
    refine ⟨p, e, ?_⟩
    rw [List.map_map]
    exact hp
  · obtain ⟨n, hn, rfl⟩ := List.mem_map.mp hy
    have := hle n hn
    omega
/-- [x for x in a tuple of numbers if x has what none has] -/
theorem rg_none {wi : TI} {vs : List Nat} {tt : TT} {n : Nat} {l : List Nat} (hs : Src wi σ H (natV l)) (hz : l.length ≤ 100000) (hw : ∀ x, wipe ((wipe σ vs).set n (some x)) vs = wipe σ vs) (ht : ∀ a ∈ l, ∀ H1, Ex H H1 → EvT tt ((wipe σ vs).set n (some (.int ((a : Nat) : Int)))) H1 false) :
    Rg (tLc wi (gName n) tt te vs σ) H (isN (natV [])) := (rg_lcV l (fun (a : Nat) => V.int (a : Int)) (fun _ => false) (fun (a : Nat) => V.int (a : Int)) hs hz hw ht fun _ _ h => nomatch h).imp fun v H2 _ p => by
  obtain ⟨p, e, _, hp⟩ := p
  rw [show l.filter (fun _ => false) = [] by simp] at hp
  exact ⟨p, e, hp⟩
end
end BW

/-! More of the base: lists put together, members of a made list, what is a tuple. -/
namespace BW
open PySem PySem.Spec PyProof.Rows L2 Evl
def RetN (xs : List V) (H : Hp) (Q : VK) : Prop := ∀ p H2, Ex H H2 → H p = none → H2 p = some (.lst xs) → Q (.ref p) H2
theorem oCatL {X : Cx} : OpR X (binaryOp .Add) L2.rCat := op_cat
section
variable {K : PySem.W.Frag} {σ : L2.St} {H H' : Hp} {ta tb te to : TE} {tA : TA}
theorem rg_lst {vs : List V} (h : EvA tA σ H vs) (hl : vs.length ≤ 1000) : Rg (tLst tA σ) H (isN vs) := fun H1 e Q q => h H1 e _ fun H2 e2 => ⟨sz (by omega), fun p hp => q _ _ (e2.trans (Ex.new hp)) ⟨p, rfl, upd_same⟩⟩
theorem rg_catL {xs ys : List V} (ha : Rg (ta σ) H (isN xs)) (hb : ∀ H1, Ex H H1 → Rg (tb σ) H1 (isN ys)) (hl : xs.length + ys.length ≤ 100000) : Rg (tOp L2.rCat ta tb σ) H (isN (xs ++ ys)) := fun H1 e Q q => ha H1 e _ fun x H2 e2 px => hb H2 (e.trans e2) H2 (Ex.refl H2) _ fun y H3 e3 py => by
  obtain ⟨p, rfl, h1⟩ := px
  obtain ⟨r, rfl, h2⟩ := py
  exact ⟨p, r, xs, ys, rfl, rfl, e3 p _ h1, h2, sz (by omega), fun l hl => q _ _ ((e2.trans e3).trans (Ex.new hl)) ⟨l, rfl, upd_same⟩⟩
theorem isN_rg {xs : List V} {p : Addr} (h : Ev te σ H (.ref p)) (hq : H p = some (.lst xs)) : Rg (te σ) H (isN xs) := fun H1 e Q q => h H1 e _ fun H2 e2 => q _ H2 e2 ⟨p, rfl, e2 p _ (e p _ hq)⟩
theorem ev_inN {n : Nat} {l : List Nat} (ha : Ev ta σ H (.int (n : Int))) (hb : ∀ H1, Ex H H1 → Rg (tb σ) H1 (isN (natV l))) : Ev (tOp (rIn K false) ta tb) σ H (.bl (decide (n ∈ l))) := fun H1 e Q q => ha H1 e _ fun H2 e2 => hb H2 (e.trans e2) H2 (Ex.refl H2) _ fun y H3 e3 py => by
  obtain ⟨p, rfl, h1⟩ := py
  have := q H3 (e2.trans e3)
  refine ⟨p, _, rfl, .inl (sq_of h1), rfl, flat_nat l, ?_⟩
  rw [inV_nat]
  exact this
theorem tyx_t {xs : List V} {p : Addr} (h : SqT K H p xs) : TyX K H (.ref p) (.type "tuple") := by
  rcases h with h | ⟨o, its, n, e, c, _⟩
  · rcases h with h | ⟨o, h⟩
    · exact .base (.tup h)
    · exact .fTuple h
  · exact .kTuple e c
/-- what a call gives is a tuple -/
theorem ev_isTup {c : String} {r : Bool} {xs : List V} (h : Rg (ta σ) H (isT K xs)) (hk : kitB "tuple" c = some r) : Ev (tCB (rIsi K) (tCons ta (tCons (tC (.ty c)) tNil))) σ H (.bl r) := fun H1 e Q q => h H1 e _ fun v H2 e2 p => by
  obtain ⟨p, rfl, hp⟩ := p
  exact ⟨.ref p, .ty c, .type "tuple", .type c, r, rfl, .ty c, tyx_t hp, kit_ty hk, q H2 e2⟩
end
theorem natV_snocX (l : List Nat) (x : Nat) : natV l ++ [V.int (x : Int)] = natV (l ++ [x]) := by
  unfold natV
  rw [List.map_append]
  rfl
end BW

/-! Periods of lists: Fine and Wilf, roots, two words that make the same either way. Plain Lean. -/
namespace Pr
/-- period of the first n values of f -/
def PF {α : Type} (f : Nat → α) (n p : Nat) : Prop := ∀ i, i + p < n → f i = f (i + p)
theorem PF.mul {α : Type} {f : Nat → α} {n p : Nat} (h : PF f n p) : ∀ k i, i + k * p < n → f i = f (i + k * p)
  | 0, i, _ => by rw [Nat.zero_mul, Nat.add_zero]
  | k + 1, i, hi => by
    have e : i + (k + 1) * p = (i + k * p) + p := by rw [Nat.succ_mul]; omega
    rw [e] at hi ⊢
    rw [h.mul k i (by omega)]
    exact h _ hi
theorem PF.mod {α : Type} {f : Nat → α} {n p : Nat} (h : PF f n p) {i : Nat} (hi : i < n) : f (i % p) = f i := by
  have e : i % p + (i / p) * p = i := by rw [Nat.mul_comm]; exact Nat.mod_add_div i p
  have := h.mul (i / p) (i % p) (by rw [e]; exact hi)
  rw [e] at this
  exact this
theorem fw {α : Type} (f : Nat → α) : ∀ (m n p q : Nat), p + q ≤ m → 0 < p → 0 < q → PF f n p → PF f n q → p + q ≤ n + Nat.gcd p q → PF f n (Nat.gcd p q) := by
  intro m
  induction m with
  | zero => intro n p q h hp; omega
  | succ m ih =>
    have main : ∀ n p q : Nat, p + q ≤ m + 1 → 0 < p → p < q → PF f n p → PF f n q → p + q ≤ n + Nat.gcd p q → PF f n (Nat.gcd p q) := by
      intro n p q hm hp hpq h1 h2 hn
      have eg : Nat.gcd p (q - p) = Nat.gcd p q := by
        have e := Nat.gcd_add_self_right p (q - p)
        rw [show q - p + p = q by omega] at e
        exact e.symm
      have gp : Nat.gcd p q ∣ p := Nat.gcd_dvd_left p q
      have gle : Nat.gcd p q ≤ p := Nat.le_of_dvd hp gp
      have gq : Nat.gcd p q ≤ q - p := by
        rw [← eg]
        exact Nat.le_of_dvd (by omega) (Nat.gcd_dvd_right p (q - p))
      have g0 : 0 < Nat.gcd p q := Nat.gcd_pos_of_pos_left q hp
      have i1 : PF f (n - p) p := fun i hi => h1 i (by omega)
      have i2 : PF f (n - p) (q - p) := fun i hi => by
        rw [h2 i (by omega)]
        have := h1 (i + (q - p)) (by omega)
        rw [show i + (q - p) + p = i + q by omega] at this
        exact this.symm
      have ig := ih (n - p) p (q - p) (by omega) hp (by omega) i1 i2 (by rw [eg]; omega)
      rw [eg] at ig
      generalize Nat.gcd p q = g at *
      intro i hi
      by_cases c1 : i + g < n - p
      · exact ig i c1
      · by_cases c2 : p ≤ i
        · have a1 := h1 (i - p) (by omega)
          have a2 := h1 (i + g - p) (by omega)
          rw [show i - p + p = i by omega] at a1
          rw [show i + g - p + p = i + g by omega] at a2
          rw [← a1, ← a2, show i + g - p = (i - p) + g by omega]
          exact ig _ (by omega)
        · have a2 := h1 (i + g - p) (by omega)
          rw [show i + g - p + p = i + g by omega] at a2
          rw [← a2]
          obtain ⟨k, rfl⟩ := gp
          have ek : i + g - g * k + (k - 1) * g = i := by
            have : 1 ≤ k := Nat.one_le_iff_ne_zero.mpr (fun z => by subst z; omega)
            obtain ⟨j, rfl⟩ : ∃ j, k = j + 1 := ⟨k - 1, by omega⟩
            rw [Nat.add_sub_cancel, Nat.mul_succ, Nat.mul_comm j g]
            rw [Nat.mul_succ] at c2 a2 hn
            omega
          have := ig.mul (k - 1) (i + g - g * k) (by rw [ek]; omega)
          rw [ek] at this
          exact this.symm
    intro n p q hm hp hq h1 h2 hn
    rcases Nat.lt_trichotomy p q with c | c | c
    · exact main n p q hm hp c h1 h2 hn
    · subst c
      rw [Nat.gcd_self]
      exact h1
    · rw [Nat.gcd_comm] at hn ⊢
      exact main n q p (by omega) hq c h2 h1 (by omega)

/-- p is a period of w -/
def Per (w : List Nat) (p : Nat) : Prop := PF (fun i => w[i]?) w.length p
def perB (w : List Nat) (p : Nat) : Bool := decide (w.drop p = w.take (w.length - p))
theorem perB_iff {w : List Nat} {p : Nat} : perB w p = true ↔ Per w p := by
  unfold perB
  rw [decide_eq_true_iff]
  constructor
  · intro h i hi
    have e := congrArg (fun l : List Nat => l[i]?) h
    simp only [List.getElem?_drop, List.getElem?_take] at e
    rw [if_pos (by omega)] at e
    show w[i]? = w[i + p]?
    rw [← e, Nat.add_comm p i]
  · intro h
    apply List.ext_getElem?
    intro i
    rw [List.getElem?_drop, List.getElem?_take]
    by_cases hi : i < w.length - p
    · rw [if_pos hi]
      have e : w[i]? = w[i + p]? := h i (by omega)
      rw [e, Nat.add_comm]
    · rw [if_neg hi]
      exact List.getElem?_eq_none (by omega)
def pers (w : List Nat) : List Nat := ((List.range w.length).map (· + 1)).filter (perB w)
theorem mem_pers {w : List Nat} {p : Nat} : p ∈ pers w ↔ 1 ≤ p ∧ p ≤ w.length ∧ Per w p := by
  unfold pers
  rw [List.mem_filter, List.mem_map, perB_iff]
  constructor
  · rintro ⟨⟨i, hi, rfl⟩, h⟩
    rw [List.mem_range] at hi
    exact ⟨by omega, by omega, h⟩
  · rintro ⟨h1, h2, h3⟩
    exact ⟨⟨p - 1, List.mem_range.mpr (by omega), by omega⟩, h3⟩
theorem per_self (w : List Nat) : Per w w.length := fun i hi => by omega
theorem fw_word {w : List Nat} {p q : Nat} (hp : p ∈ pers w) (hq : q ∈ pers w) (h : p + q ≤ w.length + Nat.gcd p q) : Nat.gcd p q ∈ pers w := by
  obtain ⟨p1, p2, p3⟩ := mem_pers.mp hp
  obtain ⟨q1, q2, q3⟩ := mem_pers.mp hq
  refine mem_pers.mpr ⟨Nat.gcd_pos_of_pos_left q p1, Nat.le_trans (Nat.le_of_dvd p1 (Nat.gcd_dvd_left p q)) p2, ?_⟩
  exact fw _ (p + q) w.length p q (Nat.le_refl _) p1 q1 p3 q3 h

/-! ### roots -/
theorem rep_get (u : List Nat) : ∀ k i, i < k * u.length → (List.replicate k u).flatten[i]? = u[i % u.length]?
  | 0, i, h => by omega
  | k + 1, i, h => by
    rw [List.replicate_succ, List.flatten_cons]
    rw [Nat.succ_mul] at h
    by_cases c : i < u.length
    · rw [List.getElem?_append_left c, Nat.mod_eq_of_lt c]
    · rw [List.getElem?_append_right (by omega), rep_get u k _ (by omega), ← Nat.mod_eq_sub_mod (by omega)]
theorem rep_len (u : List Nat) (k : Nat) : (List.replicate k u).flatten.length = k * u.length := by simp
theorem pow_of_per {w : List Nat} {p : Nat} (h1 : 0 < p) (h2 : p ∣ w.length) (h : Per w p) (hw : 0 < w.length) : (List.replicate (w.length / p) (w.take p)).flatten = w := by
  have hp : p ≤ w.length := Nat.le_of_dvd hw h2
  have hl : (w.take p).length = p := by rw [List.length_take]; omega
  have hk : w.length / p * p = w.length := Nat.div_mul_cancel h2
  apply List.ext_getElem?
  intro i
  by_cases hi : i < w.length
  · rw [rep_get _ _ _ (by rw [hl, hk]; exact hi), hl, List.getElem?_take, if_pos (Nat.mod_lt _ h1)]
    exact PF.mod h hi
  · rw [List.getElem?_eq_none (by rw [rep_len, hl, hk]; omega), List.getElem?_eq_none (by omega)]
theorem per_of_pow {w : List Nat} {p k : Nat} (h1 : 0 < p) (hp : p ≤ w.length) (h : w = (List.replicate k (w.take p)).flatten) : Per w p ∧ p ∣ w.length := by
  have hl : (w.take p).length = p := by rw [List.length_take]; omega
  have e : w.length = k * p := by
    have := congrArg List.length h
    rw [rep_len, hl] at this
    exact this
  refine ⟨fun i hi => ?_, ⟨k, by rw [e, Nat.mul_comm]⟩⟩
  show w[i]? = w[i + p]?
  have a1 : ∀ j, j < w.length → w[j]? = (w.take p)[j % p]? := fun j hj => by
    rw [congrArg (fun l : List Nat => l[j]?) h]
    show (List.replicate k (w.take p)).flatten[j]? = _
    rw [rep_get _ _ _ (by rw [hl]; omega), hl]
  rw [a1 i (by omega), a1 (i + p) hi, Nat.add_mod_right]
def rootP (w : List Nat) : Nat := ((pers w).filter fun p => decide (w.length % p = 0)).headD 0
def rootL (w : List Nat) : List Nat := w.take (rootP w)
theorem find_first (q : Nat → Bool) : ∀ n, (∃ i, i < n ∧ q (i + 1) = true) → ∃ i, i < n ∧ (((List.range n).map (· + 1)).filter q).head? = some (i + 1) ∧ q (i + 1) = true ∧ ∀ j, j < i → q (j + 1) = false
  | 0, h => by obtain ⟨i, hi, _⟩ := h; omega
  | n + 1, h => by
    rw [List.range_succ, List.map_append, List.filter_append]
    by_cases c : ∃ i, i < n ∧ q (i + 1) = true
    · obtain ⟨i, hi, e, hq, hj⟩ := find_first q n c
      refine ⟨i, by omega, ?_, hq, hj⟩
      rw [List.head?_append, e]
      rfl
    · obtain ⟨i, hi, hq⟩ := h
      have e : i = n := by
        by_cases z : i < n
        · exact absurd ⟨i, z, hq⟩ c
        · omega
      subst e
      have e0 : ((List.range i).map (· + 1)).filter q = [] := by
        rw [List.filter_eq_nil_iff]
        intro a ha
        obtain ⟨j, hj, rfl⟩ := List.mem_map.mp ha
        rw [List.mem_range] at hj
        exact fun z => c ⟨j, hj, z⟩
      refine ⟨i, by omega, ?_, hq, fun j hj => ?_⟩
      · rw [e0]
        simp [hq]
      · cases z : q (j + 1) with
        | false => rfl
        | true => exact absurd ⟨j, hj, z⟩ c
theorem rootP_spec {w : List Nat} (hw : 0 < w.length) : ((pers w).filter fun p => decide (w.length % p = 0)).head? = some (rootP w) ∧ 1 ≤ rootP w ∧ rootP w ≤ w.length ∧ Per w (rootP w) ∧ rootP w ∣ w.length ∧ ∀ s, 1 ≤ s → Per w s → s ∣ w.length → rootP w ≤ s := by
  have ef : (pers w).filter (fun p => decide (w.length % p = 0)) = ((List.range w.length).map (· + 1)).filter fun p => perB w p && decide (w.length % p = 0) := by
    unfold pers
    rw [List.filter_filter]
    congr 1
    funext p
    rw [Bool.and_comm]
  obtain ⟨i, hi, e, hq, hj⟩ := find_first (fun p => perB w p && decide (w.length % p = 0)) w.length ⟨w.length - 1, by omega, by
    rw [show w.length - 1 + 1 = w.length by omega, Bool.and_eq_true]
    exact ⟨perB_iff.mpr (per_self w), decide_eq_true (Nat.mod_self _)⟩⟩
  have er : rootP w = i + 1 := by
    unfold rootP
    rw [ef, List.headD_eq_head?_getD, e]
    rfl
  rw [ef, er]
  rw [Bool.and_eq_true, perB_iff] at hq
  refine ⟨e, by omega, by omega, hq.1, Nat.dvd_of_mod_eq_zero (of_decide_eq_true hq.2), fun s h1 h2 h3 => ?_⟩
  by_cases c : i + 1 ≤ s
  · exact c
  · have z := hj (s - 1) (by omega)
    rw [show s - 1 + 1 = s by omega, perB_iff.mpr h2, decide_eq_true (Nat.mod_eq_zero_of_dvd h3)] at z
    exact absurd z (by decide)
theorem rootL_len {w : List Nat} (hw : 0 < w.length) : (rootL w).length = rootP w := by
  unfold rootL
  rw [List.length_take]
  have := rootP_spec hw
  omega
theorem root_pow {w : List Nat} (hw : 0 < w.length) : (List.replicate (w.length / (rootL w).length) (rootL w)).flatten = w := by
  rw [rootL_len hw]
  obtain ⟨_, h1, h2, h3, h4, _⟩ := rootP_spec hw
  exact pow_of_per h1 h4 h3 hw
theorem root_least {w : List Nat} (hw : 0 < w.length) {s : Nat} (h1 : 1 ≤ s) (h2 : s < (rootL w).length) : w ≠ (List.replicate (w.length / s) (w.take s)).flatten := by
  intro e
  rw [rootL_len hw] at h2
  obtain ⟨_, _, h3, _, _, h4⟩ := rootP_spec hw
  obtain ⟨p1, p2⟩ := per_of_pow h1 (by omega) e
  have := h4 s h1 p1 p2
  omega
/-- the least root divides each number whose words make the word -/
theorem root_dvd {w : List Nat} (hw : 0 < w.length) {g : Nat} (h1 : 1 ≤ g) (h2 : Per w g) (h3 : g ∣ w.length) : rootP w ∣ g := by
  obtain ⟨_, p1, p2, p3, p4, p5⟩ := rootP_spec hw
  have hle := p5 g h1 h2 h3
  by_cases c : g = w.length
  · rw [c]; exact p4
  · have g2 : g + g ≤ w.length := by
      obtain ⟨k, hk⟩ := h3
      have : k ≠ 0 := fun z => by subst z; omega
      have : k ≠ 1 := fun z => by subst z; omega
      rw [hk]
      calc g + g = g * 2 := by omega
        _ ≤ g * k := Nat.mul_le_mul_left _ (by omega)
    have g3 : Per w (Nat.gcd (rootP w) g) := fw _ (rootP w + g) w.length (rootP w) g (Nat.le_refl _) p1 h1 p3 h2 (by omega)
    have g4 := p5 _ (Nat.gcd_pos_of_pos_left g p1) g3 (Nat.dvd_trans (Nat.gcd_dvd_right _ g) h3)
    have g5 : Nat.gcd (rootP w) g ∣ rootP w := Nat.gcd_dvd_left _ _
    have g6 := Nat.le_of_dvd p1 g5
    have : Nat.gcd (rootP w) g = rootP w := by omega
    rw [← this]
    exact Nat.gcd_dvd_right _ _
theorem comm_half {w o : List Nat} (hw : 0 < w.length) (ho : 0 < o.length) {g : Nat} (hg : 1 ≤ g) (gw : g ∣ w.length) (go : g ∣ o.length) (pw : Per w g) (po : Per o g) (eq : ∀ i, i < g → w[i]? = o[i]?) : rootP o ≤ rootP w := by
  obtain ⟨_, p1, p2, p3, p4, p5⟩ := rootP_spec hw
  obtain ⟨_, q1, q2, q3, q4, q5⟩ := rootP_spec ho
  have pg := root_dvd hw hg pw gw
  have gle : g ≤ w.length := Nat.le_of_dvd hw gw
  have key : ∀ i, i < o.length → o[i]? = w[i % rootP w]? := fun i hi => by
    have a1 : o[i % g]? = o[i]? := PF.mod po hi
    have lt : i % g < g := Nat.mod_lt _ hg
    have a2 : w[i % g % rootP w]? = w[i % g]? := PF.mod p3 (i := i % g) (by omega)
    rw [Nat.mod_mod_of_dvd i pg] at a2
    rw [← a1, ← eq _ lt, ← a2]
  refine q5 (rootP w) p1 (fun i hi => ?_) (Nat.dvd_trans pg go)
  show o[i]? = o[i + rootP w]?
  rw [key i (by omega), key _ hi, Nat.add_mod_right]
theorem comm_root {w o : List Nat} (hw : 0 < w.length) (ho : 0 < o.length) : (w ++ o = o ++ w) ↔ rootL o = rootL w := by
  constructor
  · intro h
    have hz : ∀ i : Nat, (w ++ o)[i]? = (o ++ w)[i]? := fun i => by rw [h]
    have pz1 : PF (fun i => (w ++ o)[i]?) (w ++ o).length w.length := fun i hi => by
      rw [List.length_append] at hi
      show (w ++ o)[i]? = (w ++ o)[i + w.length]?
      rw [hz i, List.getElem?_append_left (by omega), List.getElem?_append_right (by omega), Nat.add_sub_cancel]
    have pz2 : PF (fun i => (w ++ o)[i]?) (w ++ o).length o.length := fun i hi => by
      rw [List.length_append] at hi
      show (w ++ o)[i]? = (w ++ o)[i + o.length]?
      rw [hz (i + o.length), List.getElem?_append_left (by omega), List.getElem?_append_right (by omega), Nat.add_sub_cancel]
    have g0 : 0 < Nat.gcd w.length o.length := Nat.gcd_pos_of_pos_left _ hw
    have gw : Nat.gcd w.length o.length ∣ w.length := Nat.gcd_dvd_left _ _
    have go : Nat.gcd w.length o.length ∣ o.length := Nat.gcd_dvd_right _ _
    have pg := fw _ (w.length + o.length) (w ++ o).length w.length o.length (Nat.le_refl _) hw ho pz1 pz2 (by rw [List.length_append]; omega)
    have glw := Nat.le_of_dvd hw gw
    have glo := Nat.le_of_dvd ho go
    generalize Nat.gcd w.length o.length = g at *
    have pw : Per w g := fun i hi => by
      have e : (w ++ o)[i]? = (w ++ o)[i + g]? := pg i (by rw [List.length_append]; omega)
      rw [List.getElem?_append_left (by omega), List.getElem?_append_left (by omega)] at e
      exact e
    have po : Per o g := fun i hi => by
      have e : (w ++ o)[i]? = (w ++ o)[i + g]? := pg i (by rw [List.length_append]; omega)
      rw [hz, hz, List.getElem?_append_left (by omega), List.getElem?_append_left (by omega)] at e
      exact e
    have eq : ∀ i, i < g → w[i]? = o[i]? := fun i hi => by
      have e := hz i
      rw [List.getElem?_append_left (by omega), List.getElem?_append_left (by omega)] at e
      exact e
    have l1 := comm_half hw ho g0 gw go pw po eq
    have l2 := comm_half ho hw g0 go gw po pw fun i hi => (eq i hi).symm
    have ep : rootP o = rootP w := by omega
    have dg := root_dvd hw g0 pw gw
    have hle := Nat.le_of_dvd g0 dg
    unfold rootL
    rw [ep]
    apply List.ext_getElem?
    intro i
    rw [List.getElem?_take, List.getElem?_take]
    by_cases c : i < rootP w
    · rw [if_pos c, if_pos c]
      exact (eq i (by omega)).symm
    · rw [if_neg c, if_neg c]
  · intro h
    have e1 := root_pow hw
    have e2 := root_pow ho
    rw [h] at e2
    generalize w.length / (rootL w).length = a at e1
    generalize o.length / (rootL w).length = b at e2
    rw [← e1, ← e2, ← List.flatten_append, ← List.flatten_append, List.replicate_append_replicate, List.replicate_append_replicate, Nat.add_comm]
end Pr

/-! Rows of borders, rows of starts, chains of borders. Plain Lean. -/
namespace Pr
def isB (w : List Nat) (k : Nat) : Bool := decide (w.take k = w.drop (w.length - k))
theorem isB_iff {w : List Nat} {k : Nat} : isB w k = true ↔ w.take k = w.drop (w.length - k) := decide_eq_true_iff
theorem isB_zero (w : List Nat) : isB w 0 = true := by
  rw [isB_iff, List.take_zero, Nat.sub_zero, List.drop_length]
/-- a border by its letters -/
theorem isB_at {w : List Nat} {k : Nat} (hk : k ≤ w.length) : isB w k = true ↔ ∀ i, i < k → w[i]? = w[w.length - k + i]? := by
  rw [isB_iff]
  constructor
  · intro h i hi
    have e := congrArg (fun l : List Nat => l[i]?) h
    simp only [List.getElem?_drop, List.getElem?_take] at e
    rw [if_pos hi] at e
    exact e
  · intro h
    apply List.ext_getElem?
    intro i
    rw [List.getElem?_drop, List.getElem?_take]
    by_cases hi : i < k
    · rw [if_pos hi]
      exact h i hi
    · rw [if_neg hi]
      exact (List.getElem?_eq_none (by omega)).symm
theorem isB_perB {w : List Nat} {k : Nat} (hk : k ≤ w.length) : isB w k = perB w (w.length - k) := by
  unfold isB perB
  rw [show w.length - (w.length - k) = k by omega]
  exact decide_eq_decide.mpr ⟨fun h => h.symm, fun h => h.symm⟩
/-- the greatest k below n with q k, or 0 -/
def lastB (q : Nat → Bool) : Nat → Nat
  | 0 => 0
  | k + 1 => if q k = true then k else lastB q k
theorem lastB_spec {q : Nat → Bool} (h0 : q 0 = true) : ∀ n, 0 < n → lastB q n < n ∧ q (lastB q n) = true ∧ ∀ k, k < n → q k = true → k ≤ lastB q n
  | 0, h => by omega
  | n + 1, _ => by
    unfold lastB
    by_cases c : q n = true
    · rw [if_pos c]
      exact ⟨by omega, c, fun k hk _ => by omega⟩
    · rw [if_neg c]
      by_cases z : n = 0
      · subst z
        exact absurd h0 c
      · obtain ⟨a1, a2, a3⟩ := lastB_spec h0 n (by omega)
        refine ⟨by omega, a2, fun k hk hq => ?_⟩
        by_cases e : k = n
        · subst e
          exact absurd hq c
        · exact a3 k (by omega) hq
def gb (w : List Nat) : Nat := lastB (isB w) w.length
theorem gb_spec {w : List Nat} (h : 0 < w.length) : gb w < w.length ∧ isB w (gb w) = true ∧ ∀ k, k < w.length → isB w k = true → k ≤ gb w := lastB_spec (isB_zero w) _ h
theorem gb_le (w : List Nat) : gb w ≤ w.length := by
  by_cases h : 0 < w.length
  · have := (gb_spec h).1
    omega
  · have : w = [] := List.length_eq_zero_iff.mp (by omega)
    subst this
    exact Nat.le_refl _
def brow (w : List Nat) : List Nat := (List.range w.length).map fun i => gb (w.take (i + 1))
theorem brow_len (w : List Nat) : (brow w).length = w.length := by unfold brow; rw [List.length_map, List.length_range]
theorem brow_at {w : List Nat} {i : Nat} (h : i < w.length) : (brow w)[i]? = some (gb (w.take (i + 1))) := by
  unfold brow
  rw [List.getElem?_map, List.getElem?_range h]
  rfl
theorem brow_getD {w : List Nat} {i : Nat} (h : i < w.length) : (brow w).getD i 0 = gb (w.take (i + 1)) := by
  rw [List.getD_eq_getElem?_getD, brow_at h]
  rfl
theorem take_len {w : List Nat} {n : Nat} (h : n ≤ w.length) : (w.take n).length = n := by rw [List.length_take]; omega
theorem brow_lt {w : List Nat} {i : Nat} (h : i < w.length) : (brow w).getD i 0 ≤ i := by
  rw [brow_getD h]
  have := (gb_spec (w := w.take (i + 1)) (by rw [take_len h]; omega)).1
  rw [take_len h] at this
  omega
theorem brow_take (w : List Nat) (n : Nat) : brow (w.take n) = (brow w).take n := by
  apply List.ext_getElem?
  intro i
  rw [List.getElem?_take]
  by_cases hi : i < n
  · rw [if_pos hi]
    by_cases hw : i < w.length
    · rw [brow_at hw, brow_at (by rw [List.length_take]; omega), List.take_take, Nat.min_eq_left (by omega)]
    · rw [List.getElem?_eq_none (by rw [brow_len, List.length_take]; omega), List.getElem?_eq_none (by rw [brow_len]; omega)]
  · rw [if_neg hi]
    exact List.getElem?_eq_none (by rw [brow_len, List.length_take]; omega)
/-- borders of a border -/
theorem isB_inner {w : List Nat} {b k : Nat} (hb : b ≤ w.length) (h : isB w b = true) (hk : k ≤ b) : isB w k = isB (w.take b) k := by
  have hl := take_len hb
  rw [Bool.eq_iff_iff, isB_at (by omega), isB_at (by omega), hl]
  have hB := (isB_at hb).mp h
  constructor
  · intro z i hi
    rw [List.getElem?_take, List.getElem?_take, if_pos (by omega), if_pos (by omega), z i hi, hB (b - k + i) (by omega)]
    congr 1
    omega
  · intro z i hi
    have e := z i hi
    rw [List.getElem?_take, List.getElem?_take, if_pos (by omega), if_pos (by omega)] at e
    rw [e, hB (b - k + i) (by omega)]
    congr 1
    omega
def bch (r : List Nat) : Nat → Nat → List Nat
  | 0, _ => []
  | _ + 1, 0 => []
  | f + 1, h + 1 => r.getD h 0 :: bch r f (r.getD h 0)
def blist (w : List Nat) : List Nat := ((List.range w.length).filter (isB w)).reverse
theorem range_filter_cut {q : Nat → Bool} {n b : Nat} (hb : b < n) (hq : q b = true) (hm : ∀ k, k < n → q k = true → k ≤ b) : (List.range n).filter q = (List.range b).filter q ++ [b] := by
  induction n with
  | zero => omega
  | succ n ih =>
    rw [List.range_succ, List.filter_append]
    by_cases c : b = n
    · subst c
      simp [hq]
    · have e : q n = false := by
        cases z : q n with
        | false => rfl
        | true => have := hm n (by omega) z; omega
      rw [ih (by omega) fun k hk hz => hm k (by omega) hz]
      simp [e]
theorem blist_step {w : List Nat} (h : 0 < w.length) : blist w = gb w :: blist (w.take (gb w)) := by
  obtain ⟨h1, h2, h3⟩ := gb_spec h
  unfold blist
  rw [range_filter_cut h1 h2 h3, List.reverse_append, take_len (Nat.le_of_lt h1)]
  show gb w :: ((List.range (gb w)).filter (isB w)).reverse = _
  rw [List.filter_congr (q := isB (w.take (gb w))) fun k hk => ?_]
  rw [List.mem_range] at hk
  exact isB_inner (Nat.le_of_lt h1) h2 (by omega)
theorem bch_spec {w : List Nat} : ∀ (f n : Nat), n ≤ f → n ≤ w.length → bch (brow w) f n = blist (w.take n)
  | 0, n, h, _ => by
    have : n = 0 := by omega
    subst this
    rfl
  | f + 1, 0, _, _ => rfl
  | f + 1, n + 1, h, hw => by
    have hl := take_len hw
    have hp : 0 < (w.take (n + 1)).length := by omega
    have hb := (gb_spec hp).1
    rw [hl] at hb
    show (brow w).getD n 0 :: bch (brow w) f ((brow w).getD n 0) = _
    rw [brow_getD hw, bch_spec f _ (by omega) (by omega), blist_step hp, List.take_take, Nat.min_eq_left (by omega)]
theorem rev_range (n : Nat) : (List.range n).reverse = (List.range n).map fun i => n - 1 - i := by
  apply List.ext_getElem?
  intro i
  by_cases h : i < n
  · rw [List.getElem?_reverse (by rw [List.length_range]; exact h), List.length_range, List.getElem?_map, List.getElem?_range h, List.getElem?_range (by omega)]
    rfl
  · rw [List.getElem?_eq_none (by rw [List.length_reverse, List.length_range]; omega), List.getElem?_eq_none (by rw [List.length_map, List.length_range]; omega)]
theorem blist_pers (w : List Nat) : (blist w).map (fun b => w.length - b) = pers w := by
  unfold blist pers
  rw [← List.filter_reverse, rev_range, List.filter_map, List.map_map, List.filter_map]
  have e1 : (List.range w.length).filter (isB w ∘ fun i => w.length - 1 - i) = (List.range w.length).filter (perB w ∘ fun i => i + 1) := by
    apply List.filter_congr
    intro i hi
    rw [List.mem_range] at hi
    show isB w (w.length - 1 - i) = perB w (i + 1)
    rw [isB_perB (by omega), show w.length - (w.length - 1 - i) = i + 1 by omega]
  rw [e1]
  apply List.map_congr_left
  intro i hi
  have := List.mem_range.mp (List.mem_filter.mp hi).1
  show w.length - (w.length - 1 - i) = i + 1
  omega
theorem chain_pers (w : List Nat) : (bch (brow w) w.length w.length).map (fun b => w.length - b) = pers w := by
  rw [bch_spec _ _ (Nat.le_refl _) (Nat.le_refl _), List.take_length, blist_pers]
/-! ### how far two texts begin alike -/
def lcp : List Nat → List Nat → Nat
  | x :: a, y :: b => if x = y then lcp a b + 1 else 0
  | _, _ => 0
theorem lcp_le : ∀ a b : List Nat, lcp a b ≤ min a.length b.length
  | [], _ => Nat.zero_le _
  | _ :: _, [] => Nat.zero_le _
  | x :: a, y :: b => by
    have := lcp_le a b
    unfold lcp
    rw [List.length_cons, List.length_cons]
    split <;> omega
theorem lcp_same : ∀ (a b : List Nat) (i : Nat), i < lcp a b → a[i]? = b[i]?
  | [], _, i, h => by unfold lcp at h; omega
  | _ :: _, [], i, h => by unfold lcp at h; omega
  | x :: a, y :: b, i, h => by
    unfold lcp at h
    split at h
    · rename_i e
      subst e
      cases i with
      | zero => rfl
      | succ i => exact lcp_same a b i (by omega)
    · omega
theorem lcp_stop : ∀ (a b : List Nat), lcp a b < min a.length b.length → a[lcp a b]? ≠ b[lcp a b]?
  | [], _, h => by unfold lcp at h; simp at h
  | _ :: _, [], h => by unfold lcp at h; simp at h
  | x :: a, y :: b, h => by
    unfold lcp at h ⊢
    split at h
    · rename_i e
      rw [if_pos e]
      rw [List.length_cons, List.length_cons] at h
      exact lcp_stop a b (by omega)
    · rename_i e
      rw [if_neg e]
      intro z
      exact e (Option.some.inj z)
theorem lcp_is {a b : List Nat} {n : Nat} (h1 : ∀ i, i < n → a[i]? = b[i]?) (h2 : n ≤ min a.length b.length) (h3 : n = min a.length b.length ∨ a[n]? ≠ b[n]?) : lcp a b = n := by
  have k1 := lcp_le a b
  rcases Nat.lt_trichotomy (lcp a b) n with c | c | c
  · exact absurd (h1 _ c) (lcp_stop a b (by omega))
  · exact c
  · rcases h3 with h3 | h3
    · omega
    · exact absurd (lcp_same a b n c) h3
def srow (w : List Nat) : List Nat := (List.range (w.length - 1)).map fun i => lcp (w.drop (i + 1)) w
end Pr

/-! What may come next behind a word: the plain law of choices, word_of, nexts. Plain Lean. -/
namespace Pr
/-! ### words that begin alike -/
theorem sub_len {α : Type} [DecidableEq α] : ∀ {a b : List α}, a.Nodup → (∀ x ∈ a, x ∈ b) → a.length ≤ b.length
  | [], _, _, _ => Nat.zero_le _
  | x :: a, b, h, s => by
    have hx : x ∈ b := s x List.mem_cons_self
    have h1 := List.nodup_cons.mp h
    have h2 := sub_len (b := b.erase x) h1.2 fun y hy => (List.mem_erase_of_ne (show y ≠ x from fun e => h1.1 (e ▸ hy))).mpr (s y (List.mem_cons_of_mem _ hy))
    rw [List.length_erase_of_mem hx] at h2
    have := List.length_pos_of_mem hx
    rw [List.length_cons]
    omega
/-- the greatest border of a word with one more letter -/
def nxt (u : List Nat) (c : Nat) : Nat := gb (u ++ [c])
theorem isB_snoc {u : List Nat} {c b : Nat} (hb : b < u.length) : isB (u ++ [c]) (b + 1) = (isB u b && (u.getD b 0 == c)) := by
  have hg : u[b]? = some (u.getD b 0) := by
    rw [List.getD_eq_getElem?_getD, List.getElem?_eq_getElem hb]
    rfl
  rw [Bool.eq_iff_iff, Bool.and_eq_true, isB_at (by rw [List.length_append, List.length_singleton]; omega), isB_at (by omega), List.length_append, List.length_singleton]
  have e0 : ∀ i, i < u.length → (u ++ [c])[i]? = u[i]? := fun i hi => List.getElem?_append_left hi
  have e1 : (u ++ [c])[u.length]? = some c := List.getElem?_concat_length
  constructor
  · intro h
    refine ⟨fun i hi => ?_, ?_⟩
    · have := h i (by omega)
      rw [e0 i (by omega), e0 _ (by omega)] at this
      rw [this]
      congr 1
      omega
    · have := h b (by omega)
      rw [e0 b hb, show u.length + 1 - (b + 1) + b = u.length by omega, e1, hg] at this
      exact beq_iff_eq.mpr (Option.some.inj this)
  · rintro ⟨h1, h2⟩ i hi
    by_cases z : i = b
    · subst z
      rw [e0 i hb, show u.length + 1 - (i + 1) + i = u.length by omega, e1, hg, beq_iff_eq.mp h2]
    · rw [e0 i (by omega), e0 _ (by omega), h1 i (by omega)]
      congr 1
      omega
theorem nxt_le (u : List Nat) (c : Nat) : nxt u c ≤ u.length := by
  have := (gb_spec (w := u ++ [c]) (by rw [List.length_append, List.length_singleton]; omega)).1
  rw [List.length_append, List.length_singleton] at this
  unfold nxt
  omega
theorem nxt_pos {u : List Nat} {c b : Nat} (h : nxt u c = b + 1) : b < u.length ∧ isB u b = true ∧ u.getD b 0 = c := by
  have h1 := nxt_le u c
  have hs := (gb_spec (w := u ++ [c]) (by rw [List.length_append, List.length_singleton]; omega)).2.1
  unfold nxt at h
  rw [h, isB_snoc (by unfold nxt at h1; omega), Bool.and_eq_true] at hs
  unfold nxt at h1
  exact ⟨by omega, hs.1, beq_iff_eq.mp hs.2⟩
theorem nxt_max {u : List Nat} {c b : Nat} (hb : b < u.length) (h : isB u b = true) (hc : u.getD b 0 = c) : b + 1 ≤ nxt u c :=
  (gb_spec (w := u ++ [c]) (by rw [List.length_append, List.length_singleton]; omega)).2.2 _ (by rw [List.length_append, List.length_singleton]; omega) (by
    rw [isB_snoc hb, h, hc]
    simp)
theorem brow_add (u : List Nat) (c : Nat) : brow (u ++ [c]) = brow u ++ [nxt u c] := by
  have h1 : brow ((u ++ [c]).take u.length) = (brow (u ++ [c])).take u.length := brow_take _ _
  rw [List.take_left' rfl] at h1
  have h2 : (brow (u ++ [c]))[u.length]? = some (nxt u c) := by
    rw [brow_at (by rw [List.length_append, List.length_singleton]; omega), List.take_of_length_le (by rw [List.length_append, List.length_singleton]; omega)]
    rfl
  rw [h1]
  apply List.ext_getElem?
  intro i
  rw [List.getElem?_append, List.length_take, brow_len, List.length_append, List.length_singleton, Nat.min_eq_left (by omega)]
  by_cases hi : i < u.length
  · rw [if_pos hi, List.getElem?_take, if_pos hi]
  · rw [if_neg hi]
    by_cases z : i = u.length
    · subst z
      rw [h2, Nat.sub_self]
      rfl
    · rw [List.getElem?_eq_none (by rw [brow_len, List.length_append, List.length_singleton]; omega), List.getElem?_eq_none (by rw [List.length_singleton]; omega)]
/-! ### the borders that bring a letter -/
theorem mem_bl {u : List Nat} {b : Nat} : b ∈ blist u ↔ b < u.length ∧ isB u b = true := by
  unfold blist
  rw [List.mem_reverse, List.mem_filter, List.mem_range]
theorem bl_down (u : List Nat) : (blist u).Pairwise (fun a b => b < a) := by
  unfold blist
  rw [List.pairwise_reverse]
  exact List.Pairwise.filter _ List.pairwise_lt_range
theorem blist_len (u : List Nat) : (blist u).length ≤ u.length := by
  unfold blist
  rw [List.length_reverse]
  have := List.length_filter_le (isB u) (List.range u.length)
  rw [List.length_range] at this
  exact this
/-- the letter behind a border -/
def lt (u : List Nat) (b : Nat) : Nat := u.getD b 0
def keepB (u : List Nat) (b : Nat) : Bool := decide (nxt u (lt u b) = b + 1)
/-- a border's letter was met at none that is greater -/
theorem keepB_iff {u : List Nat} {b : Nat} (hb : b ∈ blist u) : keepB u b = true ↔ ∀ d ∈ blist u, b < d → lt u d ≠ lt u b := by
  have h1 := mem_bl.mp hb
  have hm : b + 1 ≤ nxt u (lt u b) := nxt_max h1.1 h1.2 rfl
  rw [show keepB u b = true ↔ nxt u (lt u b) = b + 1 from decide_eq_true_iff]
  constructor
  · intro h d hd hbd e
    have h2 := mem_bl.mp hd
    have := nxt_max h2.1 h2.2 (show u.getD d 0 = lt u b from e)
    omega
  · intro h
    obtain ⟨d, hd⟩ : ∃ d, nxt u (lt u b) = d + 1 := ⟨nxt u (lt u b) - 1, by omega⟩
    obtain ⟨k1, k2, k3⟩ := nxt_pos hd
    by_cases z : b < d
    · exact absurd k3 (h d (mem_bl.mpr ⟨k1, k2⟩) z)
    · omega
/-- the letters met before a border stands in the list -/
theorem keep_new {u l r : List Nat} {b : Nat} (h : blist u = l ++ b :: r) : (!decide (lt u b ∈ (l.filter (keepB u)).map (lt u))) = keepB u b := by
  have hp := bl_down u
  rw [h, List.pairwise_append] at hp
  have hl : ∀ d ∈ l, b < d := fun d hd => hp.2.2 d hd b List.mem_cons_self
  have hr : ∀ d ∈ r, d < b := (List.pairwise_cons.mp hp.2.1).1
  have hb : b ∈ blist u := by rw [h]; exact List.mem_append_right _ List.mem_cons_self
  have hin : ∀ d ∈ l, d ∈ blist u := fun d hd => by rw [h]; exact List.mem_append_left _ hd
  rw [Bool.eq_iff_iff, keepB_iff hb, Bool.not_eq_true', decide_eq_false_iff_not]
  constructor
  · intro n d hd hbd e
    apply n
    -- the greatest border with that letter is kept
    have h2 := mem_bl.mp hd
    have hm := nxt_max h2.1 h2.2 (show u.getD d 0 = lt u b from e)
    obtain ⟨g, hg⟩ : ∃ g, nxt u (lt u b) = g + 1 := ⟨nxt u (lt u b) - 1, by omega⟩
    obtain ⟨k1, k2, k3⟩ := nxt_pos hg
    have hgl : g ∈ l := by
      have : g ∈ blist u := mem_bl.mpr ⟨k1, k2⟩
      rw [h, List.mem_append, List.mem_cons] at this
      rcases this with z | z | z
      · exact z
      · omega
      · have := hr g z
        omega
    refine List.mem_map.mpr ⟨g, List.mem_filter.mpr ⟨hgl, ?_⟩, k3⟩
    refine decide_eq_true ?_
    rw [show lt u g = lt u b from k3]
    exact hg
  · intro n m
    obtain ⟨d, hd, e⟩ := List.mem_map.mp m
    have hd2 := (List.mem_filter.mp hd).1
    exact n d (hin d hd2) (hl d hd2) e
def keep (u : List Nat) : List Nat := (blist u).filter (keepB u)
def mets (u : List Nat) : List Nat := (keep u).map (lt u)
theorem mem_keep {u : List Nat} {b : Nat} : b ∈ keep u ↔ b < u.length ∧ isB u b = true ∧ nxt u (lt u b) = b + 1 := by
  unfold keep
  rw [List.mem_filter, mem_bl, and_assoc, show keepB u b = true ↔ nxt u (lt u b) = b + 1 from decide_eq_true_iff]
theorem mem_mets {u : List Nat} {c : Nat} : c ∈ mets u ↔ 0 < nxt u c := by
  unfold mets
  rw [List.mem_map]
  constructor
  · rintro ⟨b, hb, rfl⟩
    have := (mem_keep.mp hb).2.2
    omega
  · intro h
    obtain ⟨g, hg⟩ : ∃ g, nxt u c = g + 1 := ⟨nxt u c - 1, by omega⟩
    obtain ⟨k1, k2, k3⟩ := nxt_pos hg
    refine ⟨g, mem_keep.mpr ⟨k1, k2, ?_⟩, k3⟩
    rw [show lt u g = c from k3]
    exact hg
theorem mets_len (u : List Nat) : (mets u).length ≤ u.length := by
  unfold mets keep
  rw [List.length_map]
  exact Nat.le_trans (List.length_filter_le _ _) (blist_len u)
/-- letters from a on -/
def abc (n : Nat) : List Nat := (List.range n).map (· + 97)
theorem abc_len (n : Nat) : (abc n).length = n := by unfold abc; rw [List.length_map, List.length_range]
theorem mem_abc {n c : Nat} : c ∈ abc n ↔ 97 ≤ c ∧ c < n + 97 := by
  unfold abc
  rw [List.mem_map]
  constructor
  · rintro ⟨i, hi, rfl⟩
    rw [List.mem_range] at hi
    omega
  · intro h
    exact ⟨c - 97, List.mem_range.mpr (by omega), by omega⟩
theorem abc_nodup (n : Nat) : (abc n).Nodup := by
  unfold abc
  rw [List.nodup_iff_pairwise_ne, List.pairwise_map]
  exact List.Pairwise.imp (fun h => by omega) List.pairwise_lt_range
/-- the least letter that was not met -/
def fresh (m : List Nat) : Nat := ((abc (m.length + 1)).filter fun c => !decide (c ∈ m)).headD 0
theorem fresh_gen {m : List Nat} : ∀ {n : Nat}, m.length < n → ∃ r, (abc n).filter (fun c => !decide (c ∈ m)) = fresh m :: r := by
  have h0 : (abc (m.length + 1)).filter (fun c => !decide (c ∈ m)) ≠ [] := by
    intro h
    have hs : ∀ c ∈ abc (m.length + 1), c ∈ m := fun c hc => by
      have := List.filter_eq_nil_iff.mp h c hc
      simpa using this
    have := sub_len (abc_nodup _) hs
    rw [abc_len] at this
    omega
  intro n hn
  obtain ⟨k, rfl⟩ : ∃ k, n = m.length + 1 + k := ⟨n - (m.length + 1), by omega⟩
  have e : abc (m.length + 1 + k) = abc (m.length + 1) ++ ((List.range k).map (m.length + 1 + ·)).map (· + 97) := by
    unfold abc
    rw [List.range_add, List.map_append]
  rw [e, List.filter_append]
  unfold fresh
  cases c : (abc (m.length + 1)).filter fun c => !decide (c ∈ m) with
  | nil => exact absurd c h0
  | cons x r => exact ⟨_, rfl⟩
theorem fresh_spec (m : List Nat) : 97 ≤ fresh m ∧ fresh m ≤ m.length + 97 ∧ fresh m ∉ m := by
  obtain ⟨r, h⟩ := fresh_gen (m := m) (n := m.length + 1) (by omega)
  have : fresh m ∈ (abc (m.length + 1)).filter fun c => !decide (c ∈ m) := by rw [h]; exact List.mem_cons_self
  rw [List.mem_filter, mem_abc] at this
  refine ⟨this.1.1, by omega, ?_⟩
  simpa using this.2
theorem fresh_le {m : List Nat} {c : Nat} (h : 97 ≤ c) (hc : c ∉ m) : fresh m ≤ c := by
  by_cases z : c < m.length + 1 + 97
  · obtain ⟨r, h2⟩ := fresh_gen (m := m) (n := m.length + 1) (by omega)
    have hin : c ∈ (abc (m.length + 1)).filter fun c => !decide (c ∈ m) := List.mem_filter.mpr ⟨mem_abc.mpr ⟨h, z⟩, by simpa using hc⟩
    have hp : ((abc (m.length + 1)).filter fun c => !decide (c ∈ m)).Pairwise (· < ·) := by
      refine List.Pairwise.filter _ ?_
      unfold abc
      rw [List.pairwise_map]
      exact List.Pairwise.imp (fun h => by omega) List.pairwise_lt_range
    rw [h2] at hin hp
    rcases List.mem_cons.mp hin with e | e
    · omega
    · have := (List.pairwise_cons.mp hp).1 c e
      omega
  · have := (fresh_spec m).2.1
    omega
/-- what may come next, with its letter -/
def chL (u : List Nat) : List (Nat × Nat) := (keep u).map (fun b => (b + 1, lt u b)) ++ [(0, fresh (mets u))]
def lk (l : List (Nat × Nat)) (n : Int) : Option Nat := (l.find? fun p => decide ((p.1 : Int) = n)).map (·.2)
theorem lk_nil (n : Int) : lk [] n = none := rfl
theorem lk_cons (p : Nat × Nat) (l : List (Nat × Nat)) (n : Int) : lk (p :: l) n = if (p.1 : Int) = n then some p.2 else lk l n := by
  unfold lk
  rw [List.find?_cons]
  by_cases h : (p.1 : Int) = n
  · rw [if_pos h, decide_eq_true h]
    rfl
  · rw [if_neg h, decide_eq_false h]
theorem lk_mem {l : List (Nat × Nat)} {n : Int} {c : Nat} (h : lk l n = some c) : ∃ p ∈ l, (p.1 : Int) = n ∧ p.2 = c := by
  induction l with
  | nil => cases h
  | cons p l ih =>
    rw [lk_cons] at h
    by_cases e : (p.1 : Int) = n
    · rw [if_pos e] at h
      exact ⟨p, List.mem_cons_self, e, Option.some.inj h⟩
    · rw [if_neg e] at h
      obtain ⟨q, hq, h2⟩ := ih h
      exact ⟨q, List.mem_cons_of_mem _ hq, h2⟩
theorem lk_some {l : List (Nat × Nat)} {p : Nat × Nat} (h : p ∈ l) : ∃ c, lk l (p.1 : Int) = some c := by
  induction l with
  | nil => cases h
  | cons q l ih =>
    rw [lk_cons]
    by_cases e : (q.1 : Int) = (p.1 : Int)
    · exact ⟨_, if_pos e⟩
    · rw [if_neg e]
      rcases List.mem_cons.mp h with h | h
      · subst h
        exact absurd rfl e
      · exact ih h
theorem lk_none {l : List (Nat × Nat)} {n : Nat} (h : ∀ p ∈ l, p.1 ≠ n) : lk l (n : Int) = none := by
  cases e : lk l (n : Int) with
  | none => rfl
  | some c =>
    obtain ⟨p, hp, h1, _⟩ := lk_mem e
    exact absurd (Int.ofNat.inj h1) (h p hp)
theorem split_at {α : Type} {l : List α} {i : Nat} {b : α} (h : l[i]? = some b) : l = l.take i ++ b :: l.drop (i + 1) := by
  obtain ⟨hi, e⟩ := List.getElem?_eq_some_iff.mp h
  rw [← e, ← List.drop_eq_getElem_cons hi, List.take_append_drop]
/-- found so far -/
def got (u : List Nat) (i : Nat) : List Nat := ((blist u).take i).filter (keepB u)
theorem got_zero (u : List Nat) : got u 0 = [] := rfl
theorem got_step {u : List Nat} {i b : Nat} (h : (blist u)[i]? = some b) : got u (i + 1) = if keepB u b = true then got u i ++ [b] else got u i := by
  unfold got
  rw [List.take_add_one, h, List.filter_append]
  show _ ++ List.filter (keepB u) [b] = _
  rw [List.filter_cons]
  by_cases k : keepB u b = true
  · rw [if_pos k, if_pos k]
    rfl
  · rw [if_neg k, if_neg k]
    exact List.append_nil _
theorem got_end (u : List Nat) : got u (blist u).length = keep u := by
  unfold got keep
  rw [List.take_length]
theorem got_new {u : List Nat} {i b : Nat} (h : (blist u)[i]? = some b) : (!decide (lt u b ∈ (got u i).map (lt u))) = keepB u b := keep_new (split_at h)
theorem got_lk {u : List Nat} {i b : Nat} (h : (blist u)[i]? = some b) : lk ((got u i).map fun b => (b + 1, lt u b)) ((b + 1 : Nat) : Int) = none := by
  refine lk_none fun p hp => ?_
  obtain ⟨d, hd, rfl⟩ := List.mem_map.mp hp
  have hs := split_at h
  have hd2 : d ∈ (blist u).take i := (List.mem_filter.mp hd).1
  have hp := bl_down u
  rw [hs, List.pairwise_append] at hp
  have := hp.2.2 d hd2 b List.mem_cons_self
  show d + 1 ≠ b + 1
  omega
theorem got_done {u : List Nat} {i : Nat} (h : (blist u).drop i = []) : got u i = keep u := by
  unfold got keep
  rw [List.take_of_length_le (List.drop_eq_nil_iff.mp h)]
/-- one border more, from the row -/
theorem got_while {u : List Nat} {i h : Nat} (hi : (blist u).drop i = blist (u.take (h + 1))) (hh : h + 1 ≤ u.length) : (blist u)[i]? = some ((brow u).getD h 0) ∧ (blist u).drop (i + 1) = blist (u.take ((brow u).getD h 0)) := by
  have hl := take_len hh
  have hb := brow_lt (w := u) (i := h) (by omega)
  have e : blist (u.take (h + 1)) = (brow u).getD h 0 :: blist (u.take ((brow u).getD h 0)) := by
    rw [blist_step (by omega), brow_getD (by omega), List.take_take, Nat.min_eq_left]
    rw [brow_getD (by omega)] at hb
    omega
  rw [e] at hi
  have h0 : ((blist u).drop i)[0]? = some ((brow u).getD h 0) := by rw [hi]; rfl
  rw [List.getElem?_drop, Nat.add_zero] at h0
  refine ⟨h0, ?_⟩
  rw [← List.drop_drop, hi]
  rfl
theorem got_len (u : List Nat) (i : Nat) : (got u i).length ≤ u.length := by
  unfold got
  refine Nat.le_trans (List.length_filter_le _ _) ?_
  rw [List.length_take]
  have := blist_len u
  omega
theorem lk_zero_new (u : List Nat) : lk ((keep u).map fun b => (b + 1, lt u b)) ((0 : Nat) : Int) = none := by
  refine lk_none fun p hp => ?_
  obtain ⟨d, hd, rfl⟩ := List.mem_map.mp hp
  exact Nat.succ_ne_zero d
/-- a letter that is told brings its number -/
theorem lk_sound {u : List Nat} {n : Int} {c : Nat} (h : lk (chL u) n = some c) : (nxt u c : Int) = n ∧ (c ∈ u ∨ c = fresh (mets u)) := by
  obtain ⟨p, hp, h1, h2⟩ := lk_mem h
  unfold chL at hp
  rcases List.mem_append.mp hp with hp | hp
  · obtain ⟨b, hb, rfl⟩ := List.mem_map.mp hp
    have k := mem_keep.mp hb
    subst h2
    refine ⟨by rw [← h1]; exact congrArg _ k.2.2, .inl ?_⟩
    show u.getD b 0 ∈ u
    rw [List.getD_eq_getElem?_getD, List.getElem?_eq_getElem k.1]
    exact List.getElem_mem k.1
  · rw [List.mem_singleton] at hp
    subst hp
    subst h2
    refine ⟨?_, .inr rfl⟩
    rw [← h1]
    have := (fresh_spec (mets u)).2.2
    rw [mem_mets] at this
    show ((nxt u (fresh (mets u)) : Nat) : Int) = ((0 : Nat) : Int)
    omega
/-- each letter's number is told -/
theorem lk_there (u : List Nat) (c : Nat) : ∃ d, lk (chL u) (nxt u c : Int) = some d := by
  by_cases h : nxt u c = 0
  · rw [h]
    exact lk_some (p := (0, fresh (mets u))) (List.mem_append_right _ List.mem_cons_self)
  · obtain ⟨g, hg⟩ : ∃ g, nxt u c = g + 1 := ⟨nxt u c - 1, by omega⟩
    obtain ⟨k1, k2, k3⟩ := nxt_pos hg
    rw [hg]
    refine lk_some (p := (g + 1, lt u g)) (List.mem_append_left _ (List.mem_map.mpr ⟨g, mem_keep.mpr ⟨k1, k2, ?_⟩, rfl⟩))
    rw [show lt u g = c from k3]
    exact hg
theorem lk_lt {u : List Nat} {n : Int} {c : Nat} (h : lk (chL u) n = some c) : 0 ≤ n ∧ n ≤ u.length := by
  have := (lk_sound h).1
  have := nxt_le u c
  omega
/-! ### words with the same row -/
theorem isB_brow {u v : List Nat} (h : brow u = brow v) : blist u = blist v := by
  have hl : u.length = v.length := by rw [← brow_len u, ← brow_len v, h]
  have h1 := bch_spec (w := u) u.length u.length (Nat.le_refl _) (Nat.le_refl _)
  have h2 := bch_spec (w := v) v.length v.length (Nat.le_refl _) (Nat.le_refl _)
  rw [List.take_length] at h1 h2
  rw [← h1, ← h2, h, hl]
theorem brow_head {u v : List Nat} (h : brow u = brow v) (n : Nat) : brow (u.take n) = brow (v.take n) := by rw [brow_take, brow_take, h]
theorem keepB_same {u v : List Nat} (h : brow u = brow v) {b : Nat} (hb : b ∈ blist u) : keepB u b = keepB v b := by
  have hbl := isB_brow h
  have hl : u.length = v.length := by rw [← brow_len u, ← brow_len v, h]
  have key : ∀ d ∈ blist u, b < d → (lt u d = lt u b ↔ lt v d = lt v b) := by
    intro d hd hbd
    have g : ∀ z : List Nat, d < z.length → isB z d = true → isB z b = true → (lt z d = lt z b ↔ b + 1 ∈ blist (z.take (d + 1))) := by
      intro z hz h1 h2
      have e : z.take (d + 1) = z.take d ++ [lt z d] := by
        unfold lt
        rw [List.take_add_one, List.getD_eq_getElem?_getD, List.getElem?_eq_getElem hz]
        rfl
      have tl : (z.take d).length = d := take_len (Nat.le_of_lt hz)
      have e2 : (z.take d).getD b 0 = lt z b := by
        unfold lt
        rw [List.getD_eq_getElem?_getD, List.getElem?_take, if_pos hbd, List.getD_eq_getElem?_getD]
      have e3 : isB (z.take d) b = true := by
        rw [← isB_inner (Nat.le_of_lt hz) h1 (Nat.le_of_lt hbd)]
        exact h2
      rw [mem_bl, e, List.length_append, tl, List.length_singleton, isB_snoc (by omega), e2, e3, Bool.true_and, beq_iff_eq]
      constructor
      · intro k
        exact ⟨by omega, k.symm⟩
      · intro k
        exact k.2.symm
    have du := mem_bl.mp hd
    have bu := mem_bl.mp hb
    have dv := mem_bl.mp (hbl ▸ hd)
    have bv := mem_bl.mp (hbl ▸ hb)
    rw [g u du.1 du.2 bu.2, g v dv.1 dv.2 bv.2, isB_brow (brow_head h (d + 1))]
  rw [Bool.eq_iff_iff, keepB_iff hb, keepB_iff (hbl ▸ hb), ← hbl]
  constructor
  · intro k d hd hbd e
    exact k d hd hbd ((key d hd hbd).mpr e)
  · intro k d hd hbd e
    exact k d hd hbd ((key d hd hbd).mp e)
theorem keep_same {u v : List Nat} (h : brow u = brow v) : keep u = keep v := by
  unfold keep
  rw [List.filter_congr (q := keepB v) fun b hb => keepB_same h hb, isB_brow h]
theorem same_next {u v : List Nat} (h : brow u = brow v) (d : Nat) : ∃ c, lk (chL u) (nxt v d : Int) = some c := by
  by_cases z : nxt v d = 0
  · rw [z]
    exact lk_some (p := (0, fresh (mets u))) (List.mem_append_right _ List.mem_cons_self)
  · obtain ⟨g, hg⟩ : ∃ g, nxt v d = g + 1 := ⟨nxt v d - 1, by omega⟩
    obtain ⟨k1, k2, k3⟩ := nxt_pos hg
    have hk : g ∈ keep v := mem_keep.mpr ⟨k1, k2, by rw [show lt v g = d from k3]; exact hg⟩
    rw [← keep_same h] at hk
    rw [hg]
    exact lk_some (p := (g + 1, lt u g)) (List.mem_append_left _ (List.mem_map.mpr ⟨g, hk, rfl⟩))
theorem mets_nodup (u : List Nat) : (mets u).Nodup := by
  have h1 : (keep u).Pairwise (fun a b => lt u a ≠ lt u b) := by
    have h2 : (keep u).Pairwise (fun a b => b < a) := List.Pairwise.filter _ (bl_down u)
    refine List.Pairwise.imp_of_mem ?_ h2
    intro a b ha hb hab e
    have ka := (mem_keep.mp ha).2.2
    have kb := (mem_keep.mp hb).2.2
    rw [e, kb] at ka
    omega
  unfold mets
  rw [List.nodup_iff_pairwise_ne, List.pairwise_map]
  exact h1
theorem mets_in {u : List Nat} {c : Nat} (h : c ∈ mets u) : c ∈ u := by
  obtain ⟨b, hb, rfl⟩ := List.mem_map.mp h
  have k := (mem_keep.mp hb).1
  unfold lt
  rw [List.getD_eq_getElem?_getD, List.getElem?_eq_getElem k]
  exact List.getElem_mem k
/-! ### the word that is told -/
def intsL (l : List Nat) : List Int := l.map fun (i : Nat) => (i : Int)
def tell : List Int → List Nat → List Nat ⊕ Nat
  | [], u => .inl u
  | n :: r, u => match lk (chL u) n with
    | some c => tell r (u ++ [c])
    | none => .inr u.length
theorem tell_nil (u : List Nat) : tell [] u = .inl u := rfl
theorem tell_some {n : Int} {r : List Int} {u : List Nat} {c : Nat} (h : lk (chL u) n = some c) : tell (n :: r) u = tell r (u ++ [c]) := by
  show (match lk (chL u) n with | some c => tell r (u ++ [c]) | none => .inr u.length) = _
  rw [h]
theorem tell_none {n : Int} {r : List Int} {u : List Nat} (h : lk (chL u) n = none) : tell (n :: r) u = .inr u.length := by
  show (match lk (chL u) n with | some c => tell r (u ++ [c]) | none => .inr u.length) = _
  rw [h]
theorem tell_row : ∀ {ns : List Int} {u v : List Nat}, tell ns u = .inl v → intsL (brow v) = intsL (brow u) ++ ns ∧ v.length = u.length + ns.length
  | [], u, v, h => by
    cases h
    exact ⟨(List.append_nil _).symm, rfl⟩
  | n :: r, u, v, h => by
    cases e : lk (chL u) n with
    | none =>
      rw [tell_none e] at h
      cases h
    | some c =>
      rw [tell_some e] at h
      obtain ⟨h1, h2⟩ := tell_row h
      rw [h1, brow_add]
      refine ⟨?_, by rw [h2, List.length_append, List.length_singleton, List.length_cons]; omega⟩
      unfold intsL
      rw [List.map_append, List.append_assoc, List.map_cons, List.map_nil, (lk_sound e).1]
      rfl
theorem tell_app : ∀ (a b : List Int) (u : List Nat), tell (a ++ b) u = (match tell a u with | .inl v => tell b v | .inr k => .inr k)
  | [], b, u => rfl
  | n :: a, b, u => by
    rw [List.cons_append]
    cases e : lk (chL u) n with
    | none => rw [tell_none e, tell_none e]
    | some c => rw [tell_some e, tell_some e, tell_app a b]
theorem tell_app_inl {a b : List Int} {u v : List Nat} (h : tell a u = .inl v) : tell (a ++ b) u = tell b v := by rw [tell_app, h]
theorem tell_app_inr {a b : List Int} {u : List Nat} {k : Nat} (h : tell a u = .inr k) : tell (a ++ b) u = .inr k := by rw [tell_app, h]
/-- a place that bars -/
theorem tell_bar : ∀ {ns : List Int} {u : List Nat} {k : Nat}, tell ns u = .inr k → ∃ j v, k = u.length + j ∧ j < ns.length ∧ tell (ns.take j) u = .inl v ∧ tell (ns.take (j + 1)) u = .inr k
  | [], _, _, h => nomatch h
  | n :: r, u, k, h => by
    cases e : lk (chL u) n with
    | none =>
      rw [tell_none e] at h
      cases h
      exact ⟨0, u, rfl, by rw [List.length_cons]; omega, rfl, tell_none e⟩
    | some c =>
      rw [tell_some e] at h
      obtain ⟨j, v, h1, h2, h3, h4⟩ := tell_bar h
      rw [List.length_append, List.length_singleton] at h1
      refine ⟨j + 1, v, by omega, by rw [List.length_cons]; omega, ?_, ?_⟩
      · rw [List.take_succ_cons, tell_some e]
        exact h3
      · rw [List.take_succ_cons, tell_some e]
        exact h4
theorem snoc_ind {P : List Nat → Prop} (h0 : P []) (h1 : ∀ l c, P l → P (l ++ [c])) (l : List Nat) : P l := by
  have h : ∀ l : List Nat, P l.reverse := by
    intro l
    induction l with
    | nil => exact h0
    | cons c r ih =>
      rw [List.reverse_cons]
      exact h1 _ _ ih
  have := h l.reverse
  rw [List.reverse_reverse] at this
  exact this
theorem lex_snoc : ∀ {a b : List Nat} {c d : Nat}, a.length = b.length → a ++ [c] < b ++ [d] → a < b ∨ (a = b ∧ c < d)
  | [], [], c, d, _, h => by
    rw [List.nil_append, List.nil_append, List.cons_lt_cons_iff] at h
    rcases h with h | h
    · exact .inr ⟨rfl, h⟩
    · exact absurd h.2 (List.lt_irrefl _)
  | [], _ :: _, _, _, h, _ => nomatch h
  | _ :: _, [], _, _, h, _ => nomatch h
  | x :: a, y :: b, c, d, hl, h => by
    rw [List.cons_append, List.cons_append, List.cons_lt_cons_iff] at h
    rw [List.cons_lt_cons_iff]
    rcases h with h | ⟨rfl, h⟩
    · exact .inl (.inl h)
    · rcases lex_snoc (Nat.succ.inj hl) h with k | ⟨rfl, k⟩
      · exact .inl (.inr ⟨rfl, k⟩)
      · exact .inr ⟨rfl, k⟩
theorem ints_app (a b : List Nat) : intsL (a ++ b) = intsL a ++ intsL b := List.map_append
theorem lk_zero {u : List Nat} {c : Nat} (h : lk (chL u) 0 = some c) : c = fresh (mets u) := by
  obtain ⟨p, hp, h1, h2⟩ := lk_mem h
  unfold chL at hp
  rcases List.mem_append.mp hp with hp | hp
  · obtain ⟨b, hb, rfl⟩ := List.mem_map.mp hp
    have : ((b + 1 : Nat) : Int) = 0 := h1
    omega
  · rw [List.mem_singleton] at hp
    subst hp
    exact h2.symm
/-- a word's row tells the least word that has it, which has no more letters -/
theorem tell_word (w : List Nat) : ∃ u, tell (intsL (brow w)) [] = .inl u ∧ brow u = brow w ∧ ((∀ c ∈ w, 97 ≤ c) → ¬ w < u) ∧ ∀ b : List Nat, (∀ c ∈ w, c ∈ b) → ∀ x ∈ u, 97 ≤ x ∧ x < b.length + 97 := by
  induction w using snoc_ind with
  | h0 => exact ⟨[], rfl, rfl, fun _ => List.lt_irrefl _, fun _ _ x hx => nomatch hx⟩
  | h1 w d ih =>
    obtain ⟨u, h1, h2, h3, h4⟩ := ih
    obtain ⟨c, hc⟩ := same_next h2 d
    have hl : w.length = u.length := by rw [← brow_len u, ← brow_len w, h2]
    have hs := (lk_sound hc).1
    have hs2 : nxt u c = nxt w d := by omega
    refine ⟨u ++ [c], ?_, by rw [brow_add, brow_add, h2, hs2], fun ha hlt => ?_, fun b hb x hx => ?_⟩
    · rw [brow_add, ints_app, tell_app_inl h1]
      show tell ((nxt w d : Int) :: []) u = _
      rw [tell_some hc]
      rfl
    · rcases lex_snoc hl hlt with k | ⟨rfl, k⟩
      · exact h3 (fun c hc => ha c (List.mem_append_left _ hc)) k
      · by_cases z : nxt w d = 0
        · rw [z] at hc
          have e := lk_zero hc
          have hd : d ∉ mets w := fun m => by
            have := mem_mets.mp m
            omega
          have := fresh_le (ha d (List.mem_append_right _ List.mem_cons_self)) hd
          omega
        · obtain ⟨g, hg⟩ : ∃ g, nxt w d = g + 1 := ⟨nxt w d - 1, by omega⟩
          have k1 := (nxt_pos hg).2.2
          have k2 := (nxt_pos (hs2.trans hg)).2.2
          omega
    · have hb1 : ∀ c ∈ w, c ∈ b := fun c hc => hb c (List.mem_append_left _ hc)
      rcases List.mem_append.mp hx with hx | hx
      · exact h4 b hb1 x hx
      · rw [List.mem_singleton] at hx
        subst hx
        rcases (lk_sound hc).2 with k | k
        · exact h4 b hb1 x k
        · obtain ⟨f1, f2, f3⟩ := fresh_spec (mets u)
          rw [← k] at f1 f2 f3
          refine ⟨f1, ?_⟩
          have e0 : nxt u x = 0 := by
            rw [mem_mets] at f3
            omega
          have hd : d ∉ mets w := fun m => by
            have := mem_mets.mp m
            omega
          have hml : (mets u).length = (mets w).length := by
            unfold mets
            rw [List.length_map, List.length_map, keep_same h2]
          have := sub_len (a := d :: mets w) (b := b) (List.nodup_cons.mpr ⟨hd, mets_nodup w⟩) (by
            intro y hy
            rcases List.mem_cons.mp hy with rfl | hy
            · exact hb y (List.mem_append_right _ List.mem_cons_self)
            · exact hb1 y (mets_in hy))
          rw [List.length_cons] at this
          omega
theorem few_letters {u w a b : List Nat} (h : ∀ b : List Nat, (∀ c ∈ w, c ∈ b) → ∀ x ∈ u, 97 ≤ x ∧ x < b.length + 97) (ha : a.Nodup) (ha2 : ∀ x ∈ a, x ∈ u) (hb : ∀ x ∈ w, x ∈ b) : a.length ≤ b.length := by
  have := sub_len (b := abc b.length) ha fun x hx => mem_abc.mpr (h b hb x (ha2 x hx))
  rw [abc_len] at this
  exact this
theorem tell_small {ns : List Int} {v : List Nat} (h : tell ns [] = .inl v) : ∀ x ∈ v, 97 ≤ x ∧ x < v.length + 97 := by
  have hr : intsL (brow v) = ns := (tell_row h).1
  obtain ⟨u, h1, _, _, h4⟩ := tell_word v
  rw [hr, h] at h1
  cases h1
  exact h4 v fun c hc => hc
/-- no word has a row that is barred -/
theorem tell_none_row {ns : List Int} {k : Nat} (h : tell ns [] = .inr k) (w : List Nat) : intsL (brow w) ≠ ns := fun e => by
  obtain ⟨u, h1, _⟩ := tell_word w
  rw [e, h] at h1
  cases h1
end Pr

/-! zip of two texts, enumerate of a tuple, as sources of a for. -/
namespace BW
open PySem PySem.Spec PyProof.Rows L2 Evl
theorem five {z TI TO i1 i2 c : Addr} (h : c ∈ [z, TI, TO, i1, i2]) : c = z ∨ c = TI ∨ c = TO ∨ c = i1 ∨ c = i2 := by simpa using h
theorem four {z TI TO i1 i2 c : Addr} (h : c ∈ [z, TO, i1, i2]) : c ∈ [z, TI, TO, i1, i2] := by
  have h2 : c = z ∨ c = TO ∨ c = i1 ∨ c = i2 := by simpa using h
  rcases h2 with e | e | e | e <;> simp [e]
/-- the signs of two texts side by side, each pair new -/
def ItzC (a b : List Nat) : It :=
  ⟨fun i _ => i < min a.length b.length,
    fun i H v H' => ∃ (T : Addr) (x y : Nat), v = .ref T ∧ H T = none ∧ H' = upd H T (.tup [.str (S [x]), .str (S [y])]) ∧ a[i]? = some x ∧ b[i]? = some y,
    fun i _ => i = min a.length b.length⟩
def tnZip (a b : List Nat) (ta tb : Tok) (z TI TO i1 i2 : Addr) (i : Nat) (h : Heap) : Prop :=
  IsZip h z TI TO .none ∧ IsTupOf2 h TI (.ref i1) (.ref i2) ∧ (∃ a1 a2, IsTupOf2 h TO a1 a2) ∧ h.IsStrIter i1 (strIterType (S a)) (S a) ta i ∧ h.IsStrIter i2 (strIterType (S b)) (S b) tb i
theorem size_S (a : List Nat) : (S a).cps.size = a.length := by simp [S]
theorem at_S {a : List Nat} {i c : Nat} (h : (S a).cps[i]? = some c) : a[i]? = some c := by simpa [S] using h
theorem turn_zipC {P : Program} {w : World} {K : PySem.W.Frag} {elts : List Expr} {kk : Nat} {tpos : Pos} {a b : List Nat} {ta tb : Tok} {z TI TO i1 i2 : Addr} (D : ZipSep2 z TI TO i1 i2 [i1] [i2]) :
    Turn P w K (.Tuple elts kk tpos) (ItzC a b) [z, TI, TO, i1, i2] z (tnZip a b ta tb z TI TO i1 i2) where
  mem := List.mem_cons_self
  obj := fun i h ⟨hz, hTI, ⟨x, y, hTO⟩, ⟨o1, p1, _, d1⟩, ⟨o2, p2, _, d2⟩⟩ c hc => by
    rcases five hc with rfl | rfl | rfl | rfl | rfl
    · exact ⟨_, hz, fun v q => nomatch q⟩
    · exact ⟨_, hTI, fun v q => nomatch q⟩
    · exact ⟨_, hTO, fun v q => nomatch q⟩
    · exact ⟨o1, p1, fun v q => by rw [d1] at q; cases q⟩
    · exact ⟨o2, p2, fun v q => by rw [d2] at q; cases q⟩
  keep := fun i h h' ⟨hz, hTI, ⟨x, y, hTO⟩, ⟨o1, p1, r1⟩, ⟨o2, p2, r2⟩⟩ k =>
    ⟨k z (by simp) _ hz, k TI (by simp) _ hTI, ⟨x, y, k TO (by simp) _ hTO⟩, ⟨o1, k i1 (by simp) _ p1, r1⟩, ⟨o2, k i2 (by simp) _ p2, r2⟩⟩
  item := by
    rintro X rfl rfl rfl hc i pins s σ H E I hf st hg
    have hh : X.A.in1.handled = none := I.ok.hd hc
    have W := GoesN.zip2 (elts := elts) (x1 := kk) (pos := tpos) D (Draws.text (prog := X.prog) (w := X.w) hh i1 (S a) ta) (Draws.text hh i2 (S b) tb)
    refine W.goes i s _ E (by rw [size_S, size_S]; exact hg) st fun v h' tk hY st' hk htk => ?_
    obtain ⟨T, x, y, rfl, hT, ⟨c1, u1, hc1, rfl⟩, ⟨c2, u2, hc2, rfl⟩, hTup⟩ := hY
    have new : ObjOk X.prog X.w (upd H T (.tup [.str (S [c1]), .str (S [c2])])) h' T (.tup [.str (S [c1]), .str (S [c2])]) :=
      ⟨by show 2 ≤ sizeLine; decide, [.str ⟨#[c1]⟩ u1, .str ⟨#[c2]⟩ u2], .cons ⟨u1, rfl⟩ (.cons ⟨u2, rfl⟩ .nil), hTup⟩
    have I1 := I.turnedNew (t' := tk) (ch := [z, TI, TO, i1, i2]) (fun q o hb e => hk q o (fun m => hb (four m)) e) hf hT new
    refine ⟨.ref T, _, I1, rfl, ⟨T, c1, c2, rfl, I.hok.fresh hT, rfl, at_S hc1, at_S hc2⟩, st', fun q hq => ?_⟩
    obtain ⟨hz, hTI, ⟨x, y, hTO⟩, ⟨o1, p1, _⟩, ⟨o2, p2, _⟩⟩ := st
    have lt : q < s.heap.objs.size := by
      rcases five hq with rfl | rfl | rfl | rfl | rfl
      · exact Heap.lt_size hz
      · exact Heap.lt_size hTI
      · exact Heap.lt_size hTO
      · exact Heap.lt_size p1
      · exact Heap.lt_size p2
    rw [upd_ne (Nat.ne_of_lt (Nat.lt_of_lt_of_le lt hT))]
    exact (hf q hq).1
  done := by
    rintro X rfl rfl rfl hc i pins s σ H E I hf st hg
    have hh : X.A.in1.handled = none := I.ok.hd hc
    have W := GoesN.zip2 (elts := elts) (x1 := kk) (pos := tpos) D (Draws.text (prog := X.prog) (w := X.w) hh i1 (S a) ta) (Draws.text hh i2 (S b) tb)
    have en : i = min (S a).cps.size (S b).cps.size := by rw [size_S, size_S]; exact hg
    rw [en] at st
    exact W.stops s _ E st fun h' tk hk htk => I.turnedL (t' := tk) (ch := [z, TI, TO, i1, i2]) (fun q o hb e => hk q o (fun m => hb (four m)) e) hf
  self := fun A i s Q E st h => wpAny_pyIter_zip st.1 h
def iZipC (ta : TA) : TI := fun σ H R => ta σ H fun vs H1 => ∃ a b : List Nat, vs = [.str (S a), .str (S b)] ∧ R (ItzC a b) H1
theorem pi_zipC {X : Cx} {e e2 : Expr} {ta : TA} {p pos tpos : Pos} {elts : List Expr} {kk : Nat} (hg : Gl X "zip") (hm : X.mg "zip" = none) (ha : PA X [e, e2] ta)
    (hs : starEach [e, e2] X.env = (false, eval e X.env) :: starEach [e2] X.env := by rfl) (hpl : (backTo pos (starEach [e2] X.env)).any (·.1) = false := by rfl) :
    PI X (.Tuple elts kk tpos) (.Call (.Name "zip" p) [e, e2] [] pos) (iZipC ta) := by
  refine ⟨fun pins s σ H R I h => ?_⟩
  refine Call_ (ld_blt I hg hm PyProof.Rows.boot_zip (PyProof.Rows.callWith_type1 (thn (ha.run pos pins s σ H _ I h) fun us s1 ⟨vs, H1, I1, r1, q1⟩ => ?_) hs hpl))
  obtain ⟨a, b, ex, q⟩ := q1
  subst ex
  obtain ⟨u1, u2, rfl, r1, r2⟩ := vals2 r1
  obtain ⟨t1, rfl⟩ := r1
  obtain ⟨t2, rfl⟩ := r2
  refine zip_begins2 (begins_text (S a) t1) (begins_text (S b) t2) True.intro True.intro fun h' hz hTI hTO h1 h2 hsz hk => wpAny_pyIter_zip hz ?_
  have I2 : Inv X pins σ H1 { s1 with heap := h' } := I1.kept (t' := s1.toks) hk
  refine ⟨s1.heap.objs.size + 4, [s1.heap.objs.size + 4, s1.heap.objs.size + 2, s1.heap.objs.size + 3, s1.heap.objs.size, s1.heap.objs.size + 1], _, _, H1, rfl, I2, turn_zipC (a := a) (b := b) (ta := t1) (tb := t2) (zip_sep2 (N := s1.heap.objs.size) (fp1 := []) (fp2 := []) (fun _ m => nomatch m) (fun _ m => nomatch m)), ⟨hz, hTI, ⟨_, _, hTO⟩, ⟨_, h1, rfl, rfl⟩, ⟨_, h2, rfl, rfl⟩⟩, fun c hc => ?_, q⟩
  have hle : s1.heap.objs.size ≤ c := by
    rcases five hc with rfl | rfl | rfl | rfl | rfl
    · exact Nat.le_add_right _ _
    · exact Nat.le_add_right _ _
    · exact Nat.le_add_right _ _
    · exact Nat.le_refl _
    · exact Nat.le_add_right _ _
  exact I1.fpOk hle (I1.hok.fresh hle)
/-- for x, y in zip(text, text) -/
theorem q_forZip {σ : L2.St} {H : Hp} {D : Ends} {tz tu : TS} {tA : TA} {g : TG} {a b : List Nat} (h : EvA tA σ H [.str (S a), .str (S b)]) (Pv : Nat → L2.St → Hp → Prop) (h0 : ∀ H1, Ex H H1 → Pv 0 σ H1)
    (hs : ∀ i x y T σ' H', a[i]? = some x → b[i]? = some y → Pv i σ' H' → H' T = none → g (.ref T) σ' (upd H' T (.tup [.str (S [x]), .str (S [y])])) fun σ2 H2 => tu { D with nx := Pv (i + 1), ct := Pv (i + 1), bk := tz D } σ2 H2)
    (hd : ∀ σ' H', Pv (min a.length b.length) σ' H' → tz D σ' H') : tSeq (tFor (iZipC tA) g tu) tz D σ H :=
  h H (Ex.refl H) _ fun H1 e => ⟨a, b, rfl, fun i m σ' H' => m = min a.length b.length - i ∧ i ≤ min a.length b.length ∧ Pv i σ' H', ⟨_, rfl, Nat.zero_le _, h0 H1 e⟩, by
    rintro i m σ' H' ⟨rfl, hi, p⟩
    by_cases hlt : i < min a.length b.length
    · exact .inr ⟨hlt, Pv (i + 1), fun σ2 H2 p2 => ⟨min a.length b.length - (i + 1), by omega, rfl, hlt, p2⟩, fun v H2 ⟨T, x, y, ev, hT, eH, hx, hy⟩ => by
        subst ev eH
        exact hs i x y T σ' H' hx hy p hT⟩
    · have e2 : i = min a.length b.length := by omega
      exact .inl ⟨e2, by
        rw [e2] at p
        exact hd σ' H' p⟩⟩

/-! ### enumerate(a tuple) -/
theorem meets_enum1 {v : Value} {o : Obj} {H : Heap → Prop} (B : Begins v o H) :
    Meets (Builtin.«enumerate.__new__» ⟨[.type "enumerate", v], []⟩) (fun _ R s => H s.heap ∧
      R (.ok (.ret (.ref (s.heap.push o).objs.size))) { s with heap := (s.heap.push o).push { cls := .type "enumerate", data := .fields #[.none, .bool false, .ref s.heap.objs.size, rawInt 0, .none, .none] } }) :=
  .of_wp fun prog w A R s h => by
    obtain ⟨hp, g, d, tk, os⟩ := s
    obtain ⟨hH, h⟩ := h
    have hsb := sub_enumerate
    have qi : ∀ {A' : Around} {E : Value → Shared → Prop} {Q : Value → Shared → Prop}, Q (.ref hp.objs.size) ⟨hp.push o, g, d, tk, os⟩ → wpAny (model prog w) A' (pyIter v) Q E ⟨hp, g, d, tk, os⟩ := by
      intro A' E Q q
      exact B.iter prog w _ _ ⟨hp, g, d, tk, os⟩ _ hH q
    wp_walk using qi
    refine wpAny_stack_any fun st => wpAny_pure ?_
    split
    · rename_i c _ _ _ _ _
      cases hcc : (c == Value.type "enumerate") <;> (wp_walk using qi; exact ⟨_, rfl, h⟩)
    · wp_walk using qi
      exact ⟨_, rfl, h⟩
theorem call_enum1 {prog : Program} {w : World} {A : Around} {E : Value → Shared → Prop} {s : Shared} {v : Value} {o : Obj} {H : Heap → Prop} {Q : Value → Shared → Prop} (B : Begins v o H) (hH : H s.heap)
    (h : ∀ h', IsEnum h' (s.heap.objs.size + 1) s.heap.objs.size 0 .none → h'.get? s.heap.objs.size = some o → (∀ b u, s.heap.get? b = some u → h'.get? b = some u) → Q (.ref (s.heap.objs.size + 1)) { s with heap := h' }) :
    wpAny (model prog w) A (call (.type "enumerate") [v]) Q E s := by
  refine callType_new F.called_enumerate (by decide) (F.typeCall_enumerate_1 _) (F.newCall_enumerate_1 _) (fun obj => F.args_object_init_2 obj _) F.entry_enumerate_new (meets_enum1 B) ⟨hH, ?_⟩
  have sz1 : (s.heap.push o).objs.size = s.heap.objs.size + 1 := Heap.size_push ..
  have g1 := Heap.get?_push_size (s.heap.push o) (o := { cls := .type "enumerate", data := .fields #[.none, .bool false, .ref s.heap.objs.size, rawInt 0, .none, .none] }) rfl
  rw [sz1] at g1
  show _ ∧ _
  rw [sz1]
  exact ⟨⟨_, g1, rfl⟩, h _ g1 (Heap.get?_push_of_some _ (Heap.get?_push_size _ B.free)) fun b u x => Heap.get?_push_of_some _ (Heap.get?_push_of_some _ x)⟩
/-- the tuple at a, each place with its number in a new pair -/
def IteT (K : PySem.W.Frag) (a : Addr) (xs : List V) : It :=
  ⟨fun i H => SqT K H a xs ∧ i < xs.length,
    fun i H v H' => ∃ (T : Addr) (x : V), v = .ref T ∧ H T = none ∧ H' = upd H T (.tup [.int (i : Int), x]) ∧ xs[i]? = some x,
    fun i H => SqT K H a xs ∧ i = xs.length⟩
theorem turn_enumT {P : Program} {w : World} {K : PySem.W.Frag} {elts : List Expr} {kk : Nat} {tpos : Pos} {xs : List V} (a e it : Addr) (d1 : e ≠ it) (d2 : a ≠ it) (d3 : e ≠ a) :
    Turn P w K (.Tuple elts kk tpos) (IteT K a xs) [e, it] e (fun i h => (∃ old, IsEnum h e it ((0 : Int) + (i : Int)) old) ∧ h.IsTupleIter it a i) where
  mem := List.mem_cons_self
  obj := fun i h ⟨⟨old, he⟩, ⟨o, ho, _, hd⟩⟩ c hc => by
    rcases List.mem_cons.mp hc with rfl | hc
    · exact ⟨_, he, fun v q => nomatch q⟩
    · rw [List.mem_singleton.mp hc]
      exact ⟨o, ho, fun v q => by rw [hd] at q; cases q⟩
  keep := fun i h h' ⟨⟨old, he⟩, ⟨o, ho, r⟩⟩ k => ⟨⟨old, k e (by simp) _ he⟩, ⟨o, k it (by simp) _ ho, r⟩⟩
  item := by
    rintro X rfl rfl rfl hc i pins s σ H E I hf st hg
    obtain ⟨hq, hi⟩ := hg
    obtain ⟨its, rv, pt, _⟩ := I.tuple hq
    have hlen := rv.length
    have W := GoesN.enumFrom (elts := elts) (x1 := kk) (pos := tpos) 0 (Draws.tuple (prog := X.prog) (w := X.w) (A := X.A.in1) (I.ok.hd hc) it a d2 its.toArray) e d1 (by simp only [List.mem_cons, List.not_mem_nil, or_false, not_or]; exact ⟨d1, d3⟩) List.mem_cons_self
    refine W.goes i s _ E (by simp; omega) ⟨st.1, st.2, pt⟩ fun v h' tk hY st' hk htk => ?_
    obtain ⟨T, t, u, rfl, hT, hu, hTup⟩ := hY
    have hu2 : its[i]? = some u := by simpa using hu
    have hx : xs[i]? = some xs[i] := List.getElem?_eq_getElem hi
    obtain ⟨u', hu', ru⟩ := rv.get hx
    rw [hu2] at hu'
    cases hu'
    have new : ObjOk X.prog X.w (upd H T (.tup [.int (i : Int), xs[i]])) h' T (.tup [.int (i : Int), xs[i]]) :=
      ⟨by show 2 ≤ sizeLine; decide, [.int (0 + (i : Int)) t, u], .cons ⟨t, by rw [Int.zero_add]⟩ (.cons ru .nil), hTup⟩
    have I1 := I.turnedNew (t' := tk) (ch := [e, it]) (fun q o hb z => hk q o hb z) hf hT new
    refine ⟨.ref T, _, I1, rfl, ⟨T, xs[i], rfl, I.hok.fresh hT, rfl, hx⟩, ⟨st'.1, st'.2.1⟩, fun q hq2 => ?_⟩
    have lt : q < s.heap.objs.size := by
      rcases List.mem_cons.mp hq2 with rfl | hq2
      · obtain ⟨old, he⟩ := st.1
        exact Heap.lt_size he
      · rw [List.mem_singleton.mp hq2]
        obtain ⟨o, ho, _⟩ := st.2
        exact Heap.lt_size ho
    rw [upd_ne (Nat.ne_of_lt (Nat.lt_of_lt_of_le lt hT))]
    exact (hf q hq2).1
  done := by
    rintro X rfl rfl rfl hc i pins s σ H E I hf st hg
    obtain ⟨hq, hi⟩ := hg
    obtain ⟨its, rv, pt, _⟩ := I.tuple hq
    have hlen := rv.length
    have W := GoesN.enumFrom (elts := elts) (x1 := kk) (pos := tpos) 0 (Draws.tuple (prog := X.prog) (w := X.w) (A := X.A.in1) (I.ok.hd hc) it a d2 its.toArray) e d1 (by simp only [List.mem_cons, List.not_mem_nil, or_false, not_or]; exact ⟨d1, d3⟩) List.mem_cons_self
    have en : i = its.toArray.size := by simp; omega
    subst en
    exact W.stops s _ E ⟨st.1, st.2, pt⟩ fun h' tk hk htk => I.turnedL (t' := tk) (ch := [e, it]) (fun q o hb z => hk q o hb z) hf
  self := fun A i s Q E st h => by
    obtain ⟨⟨old, he⟩, _⟩ := st
    exact wpAny_pyIter_enum he h
def iEnumT (K : PySem.W.Frag) (ta : TA) : TI := fun σ H R => ta σ H fun vs H1 => ∃ a xs, vs = [.ref a] ∧ SqT K H1 a xs ∧ R (IteT K a xs) H1
theorem pi_enumT {X : Cx} {e : Expr} {ta : TA} {p pos tpos : Pos} {elts : List Expr} {kk : Nat} (hg : Gl X "enumerate") (hm : X.mg "enumerate" = none) (ha : PA X [e] ta) (hs : starEach [e] X.env = [(false, eval e X.env)] := by rfl) :
    PI X (.Tuple elts kk tpos) (.Call (.Name "enumerate" p) [e] [] pos) (iEnumT X.K ta) := by
  refine ⟨fun pins s σ H R I h => ?_⟩
  refine Call_ (ld_blt I hg hm boot_enumerate (PyProof.Rows.callWith_type1 (thn (ha.run pos pins s σ H _ I h) fun us s1 ⟨vs, H1, I1, r1, q1⟩ => ?_) hs rfl))
  obtain ⟨a, xs, ex, hq, q⟩ := q1
  subst ex
  obtain ⟨u, rfl, ru⟩ := vals1 r1
  cases ru
  obtain ⟨its, rv, pt, _⟩ := I1.tuple hq
  have la : a < s1.heap.objs.size := by
    obtain ⟨o, ho, _⟩ := pt
    exact Heap.lt_size ho
  refine call_enum1 (begins_tuple a its.toArray) pt fun h' he hit hk => wpAny_pyIter_enum he ?_
  have I2 : Inv X pins σ H1 { s1 with heap := h' } := I1.kept (t' := s1.toks) hk
  refine ⟨s1.heap.objs.size + 1, [s1.heap.objs.size + 1, s1.heap.objs.size], _, _, H1, rfl, I2, turn_enumT (xs := xs) a (s1.heap.objs.size + 1) s1.heap.objs.size (Nat.succ_ne_self _) (Nat.ne_of_lt la) (Nat.ne_of_gt (Nat.lt_succ_of_lt la)), ⟨⟨.none, he⟩, ⟨_, hit, rfl, rfl⟩⟩, fun b hb => ?_, q⟩
  have hle : s1.heap.objs.size ≤ b := by
    rcases List.mem_cons.mp hb with rfl | hb
    · exact Nat.le_add_right _ _
    · rw [List.mem_singleton.mp hb]
      exact Nat.le_refl _
  exact I1.fpOk hle (I1.hok.fresh hle)
/-- for i, x in enumerate(tuple) -/
theorem q_forEnum {K : PySem.W.Frag} {σ : L2.St} {H : Hp} {D : Ends} {tz tu : TS} {tA : TA} {g : TG} {a : Addr} {xs : List V} (h : EvA tA σ H [.ref a]) (hq : SqT K H a xs) (Pv : Nat → L2.St → Hp → Prop) (h0 : ∀ H1, Ex H H1 → Pv 0 σ H1) (hk : ∀ i σ' H', Pv i σ' H' → SqT K H' a xs)
    (hs : ∀ i x T σ' H', xs[i]? = some x → Pv i σ' H' → H' T = none → g (.ref T) σ' (upd H' T (.tup [.int (i : Int), x])) fun σ2 H2 => tu { D with nx := Pv (i + 1), ct := Pv (i + 1), bk := tz D } σ2 H2)
    (hd : ∀ σ' H', Pv xs.length σ' H' → tz D σ' H') : tSeq (tFor (iEnumT K tA) g tu) tz D σ H :=
  h H (Ex.refl H) _ fun H1 e => ⟨a, xs, rfl, ex_t e hq, fun i m σ' H' => m = xs.length - i ∧ i ≤ xs.length ∧ Pv i σ' H', ⟨_, rfl, Nat.zero_le _, h0 H1 e⟩, by
    rintro i m σ' H' ⟨rfl, hi, p⟩
    by_cases hlt : i < xs.length
    · exact .inr ⟨⟨hk i σ' H' p, hlt⟩, Pv (i + 1), fun σ2 H2 p2 => ⟨xs.length - (i + 1), by omega, rfl, hlt, p2⟩, fun v H2 ⟨T, x, ev, hT, eH, hx⟩ => by
        subst ev eH
        exact hs i x T σ' H' hx p hT⟩
    · have e2 : i = xs.length := by omega
      exact .inl ⟨⟨hk i σ' H' p, e2⟩, by
        rw [e2] at p
        exact hd σ' H' p⟩⟩
end BW

/-! len(set(text)), a text not behind another. -/
namespace BW
open PySem PySem.Spec PyProof.Rows L2 Evl
/-- what was met, each once -/
def met {α : Type} [DecidableEq α] : List α → List α → List α
  | m, [] => m
  | m, x :: r => met (if x ∈ m then m else m ++ [x]) r
theorem met_snoc {α : Type} [DecidableEq α] (x : α) : ∀ (l m : List α), met m (l ++ [x]) = (if x ∈ met m l then met m l else met m l ++ [x])
  | [], m => rfl
  | y :: l, m => met_snoc x l _
theorem mem_met {α : Type} [DecidableEq α] {y : α} : ∀ (l m : List α), y ∈ met m l ↔ y ∈ m ∨ y ∈ l
  | [], m => by simp [met]
  | x :: l, m => by
    rw [show met m (x :: l) = met (if x ∈ m then m else m ++ [x]) l from rfl, mem_met l]
    by_cases h : x ∈ m
    · rw [if_pos h, List.mem_cons]
      constructor
      · rintro (a | a)
        · exact .inl a
        · exact .inr (.inr a)
      · rintro (a | a | a)
        · exact .inl a
        · exact .inl (a ▸ h)
        · exact .inr a
    · rw [if_neg h, List.mem_append, List.mem_singleton, List.mem_cons, or_assoc]
theorem met_nodup {α : Type} [DecidableEq α] : ∀ (l m : List α), m.Nodup → (met m l).Nodup
  | [], m, h => h
  | x :: l, m, h => met_nodup l _ (by
    by_cases c : x ∈ m
    · rw [if_pos c]
      exact h
    · rw [if_neg c, List.nodup_append]
      refine ⟨h, by simp, fun a ha b hb e => c ?_⟩
      rw [← List.mem_singleton.mp hb, ← e]
      exact ha)
theorem met_map {α β : Type} [DecidableEq α] [DecidableEq β] {f : α → β} (hf : ∀ a b, f a = f b → a = b) : ∀ (l m : List α), met (m.map f) (l.map f) = (met m l).map f
  | [], m => rfl
  | x :: l, m => by
    rw [List.map_cons]
    show met (if f x ∈ m.map f then m.map f else m.map f ++ [f x]) (l.map f) = (met (if x ∈ m then m else m ++ [x]) l).map f
    rw [← met_map hf l]
    congr 1
    by_cases h : x ∈ m
    · rw [if_pos h, if_pos (List.mem_map.mpr ⟨x, h, rfl⟩)]
    · rw [if_neg h, if_neg fun k => by
        obtain ⟨y, hy, e⟩ := List.mem_map.mp k
        rw [hf y x e] at hy
        exact h hy, List.map_append]
      rfl
theorem met_len {α : Type} [DecidableEq α] : ∀ (l m : List α), (met m l).length ≤ m.length + l.length
  | [], m => Nat.le_refl _
  | x :: l, m => by
    show (met (if x ∈ m then m else m ++ [x]) l).length ≤ m.length + (x :: l).length
    rw [List.length_cons]
    by_cases h : x ∈ m
    · rw [if_pos h]
      have := met_len l m
      omega
    · rw [if_neg h]
      have := met_len l (m ++ [x])
      rw [List.length_append, List.length_singleton] at this
      omega
/-- the signs of a text, each once -/
def signs (l : List Nat) : List Nat := met [] l
theorem mem_signs {l : List Nat} {c : Nat} : c ∈ signs l ↔ c ∈ l := by
  unfold signs
  rw [mem_met]
  simp
theorem signs_nodup (l : List Nat) : (signs l).Nodup := met_nodup l [] List.nodup_nil
section
variable {prog : Program} {w : World} {A : Around} {R : Result → Shared → Prop} {I : Addr} {fp wr : List Addr} {G : Array GenState → Array GenState → Prop} {n : Nat} {Pv : Nat → Value → Prop} {St : Nat → Shared → Prop}
def setIs (prog : Program) (w : World) (h : Heap) (a : Addr) (l : List Str) : Prop := h.SetOf (strKind prog w) a (fun k => decide (k ∈ l)) l.length
theorem setIs_keep {h h' : Heap} {a : Addr} {l : List Str} (hs : setIs prog w h a l) (k : ∀ o, h.get? a = some o → h'.get? a = some o) : setIs prog w h' a l := by
  obtain ⟨o, es, ep, tb, ho, z⟩ := hs
  exact ⟨o, es, ep, tb, k o ho, z⟩
/-- a set of texts is filled -/
theorem fillC (W : WalksS prog w A.in1 I fp wr G n Pv St) {T : Addr} (hT : T ∉ fp) (xs : List Str) (hx : xs.length = n) (hval : ∀ i v, Pv i v → ∃ t, v = .str (xs.getD i Str.empty) t) (hb : n + 1 < scanBound) :
    ∀ (m i : Nat) (s : Shared), n - i = m → i ≤ n → St i s → setIs prog w s.heap T (met [] (xs.take i)) →
      (∀ s', Moved (T :: wr) G s s' → setIs prog w s'.heap T (met [] xs) → R (.ok (.ret .none)) s') → codeAny (model prog w) A (.builtin "set.update.loop" ⟨[.ref T, .ref I], []⟩) R s := by
  have hw : T ∉ wr := fun z => hT (W.sub _ z)
  have more : ∀ b ∈ wr, b ∈ T :: wr := fun b z => List.mem_cons_of_mem _ z
  intro m
  induction m with
  | zero =>
    intro i s hm hi st hS hR
    obtain rfl : i = n := by omega
    refine codeAny_builtin PyProof.Rows.F.entry_set_update_loop ?_
    rw [Around.under_plainId PyProof.Rows.F.plain_set_update_loop _]
    show wpAny _ A.in1 (pyNext (.ref I) >>= _) _ _ s
    refine wpAny_bind (W.done s _ _ st fun s' mv => ?_)
    show wpAny _ A.in1 (ret Value.none) _ _ s'
    rw [List.take_of_length_le (by omega)] at hS
    exact wpAny_pure (hR s' (mv.mono more) (setIs_keep hS fun o e => mv.heap T o hw e))
  | succ m ih =>
    intro i s hm hi st hS hR
    have lt : i < n := by omega
    refine codeAny_builtin PyProof.Rows.F.entry_set_update_loop ?_
    rw [Around.under_plainId PyProof.Rows.F.plain_set_update_loop _]
    show wpAny _ A.in1 (pyNext (.ref I) >>= _) _ _ s
    refine wpAny_bind (W.item i s _ _ lt st fun v s' hv st' mv => ?_)
    obtain ⟨t, rfl⟩ := hval i v hv
    have hS1 : setIs prog w s'.heap T (met [] (xs.take i)) := setIs_keep hS fun o e => mv.heap T o hw e
    have tk : xs.take (i + 1) = xs.take i ++ [xs.getD i Str.empty] := by
      rw [List.take_add_one, List.getD_eq_getElem?_getD, List.getElem?_eq_getElem (show i < xs.length by omega)]
      rfl
    show wpAny _ A.in1 (holding [Value.str (xs.getD i Str.empty) t] (setAdd T (.str (xs.getD i Str.empty) t)) >>= _) _ _ s'
    generalize xs.getD i Str.empty = x at tk ⊢
    refine wpAny_bind (wpAny_holding ?_)
    unfold setAdd
    refine wpAny_holding ?_
    refine wpAny_bind ((strKind prog w).pyHash (k := x) (strKind_is _ _ _ _) ?_)
    have room : (met [] (xs.take i)).length + 1 < scanBound := by
      have := met_len (xs.take i) []
      rw [List.length_take, List.length_nil] at this
      omega
    refine wpAny_setAddHashed_of (knd := strKind prog w) (s := { s' with toks := s'.toks + 1 }) (strKind_is _ _ _ _) rfl hS1 room fun h' sb hS2 => ?_
    have hS3 : setIs prog w h' T (met [] (xs.take (i + 1))) := SetOf_congr hS2 (fun k => by
      rw [tk, met_snoc]
      by_cases c : x ∈ met [] (xs.take i)
      · rw [if_pos c]
        by_cases e : k = x
        · subst e
          simp [c]
        · simp [e]
      · rw [if_neg c]
        simp) (by
      rw [tk, met_snoc]
      by_cases c : x ∈ met [] (xs.take i)
      · rw [if_pos c, if_pos (decide_eq_true c)]
      · rw [if_neg c, decide_eq_false c, List.length_append]
        rfl)
    refine wpAny_pure ⟨plainId_quiet PyProof.Rows.F.plain_set_update_loop _, ih (i + 1) _ (by omega) lt (W.frame _ s' _ _ st' (Nat.le_succ _) fun b hb o e => ?_) hS3 fun s'' mv2 hS4 => hR s'' (Moved.trans W.gtrans ((mv.mono more).then_heap (Nat.le_succ _) fun b o hb e => ?_) mv2) hS4⟩
    · exact (sb.2 b (fun z : b = T => hT (z ▸ hb))).trans e
    · exact (sb.2 b (fun z : b = T => hb (z ▸ List.mem_cons_self))).trans e
end

section
variable {prog : Program} {w : World} {A : Around} {E : Value → Shared → Prop} {s : Shared}
def newSet (led : Bool) : Obj := { cls := .type "set", dict := none, data := .set #[] 0 (.fresh 0 0 led) }
/-- set(a text) -/
theorem call_set_text {x : Str} {t : Tok} {Q : Value → Shared → Prop} (hh : A.handled = none) (hb : x.cps.size + 1 < scanBound)
    (h : ∀ (h' : Heap) (tk : Nat), setIs prog w h' s.heap.objs.size (met [] (x.cps.toList.map fun c => S [c])) → (∀ b o, s.heap.get? b = some o → h'.get? b = some o) → Q (.ref s.heap.objs.size) { s with heap := h', toks := tk }) :
    wpAny (model prog w) A (call (.type "set") [.str x t]) Q E s := by
  obtain ⟨c, tl, hmro⟩ := PySem.F.called_set.mro
  have hmade := PySem.F.called_set.made
  have hsub := PySem.F.called_set.sub
  refine wpAny_call (codeAny_of_tree ?_)
  show wpAny _ _ (callAny (.type "set") _) _ _ _
  refine wpAny_pure ⟨Code.quiet_builtin _ (by decide +kernel), codeAny_builtin PySem.F.entry_type_call ?_⟩
  rw [Around.under_plain (weight_type_call_type "set" [.str x t] []) rfl]
  have k1 := PySem.F.called_set.notType
  have k2 := PySem.F.called_set.canCreate
  have k3 := PySem.F.typeCall_set_1 (.str x t)
  repeat (any_goals (first | assumption | wp_step))
  refine codeAny_mono (code_set_new_1 (.str x t) (E := E) (Q₁ := fun obj z => ∃ led : Bool, obj = .ref s.heap.objs.size ∧ z = { s with heap := s.heap.push (newSet led) }) fun led => ⟨led, rfl, rfl⟩) fun r z hr => ?_
  cases r with
  | error e => exact hr
  | ok fl =>
    cases fl with
    | ret obj =>
      obtain ⟨led, rfl, rfl⟩ := hr
      have at0 : (s.heap.push (newSet led)).get? s.heap.objs.size = some (newSet led) := Heap.get?_push_size _ rfl
      have ty0 : Shared.TypeIs { s with heap := s.heap.push (newSet led) } (.ref s.heap.objs.size) "set" := ⟨_, at0, rfl⟩
      have k4 := PySem.F.called_set.init.lookup
      have k5 := PySem.F.called_set.init.bind (.ref s.heap.objs.size)
      repeat (any_goals (first | assumption | wp_step))
      refine codeAny_mono (codeAny_call_builtin (R := wants (fun r z => r = .none ∧ ∃ h' tk, z = { s with heap := h', toks := tk } ∧ setIs prog w h' s.heap.objs.size (met [] (x.cps.toList.map fun c => S [c])) ∧ ∀ b o, s.heap.get? b = some o → h'.get? b = some o) E) PySem.F.called_set.init.plain PySem.F.entry_set_init (check_set_init_1 ty0 ?_)) fun r2 z2 hr2 => ?_
      · have k6 := PySem.F.sub_str_set
        have k7 := PySem.F.sub_str_frozenset
        have k8 : (Value.type "str" == Value.type "dict") = false := by decide
        unfold newSet at at0 ty0 ⊢
        unfold Builtin.«set.__init__» noKeywords Builtin.Frozenset.updateFrom
        generalize hPI : pyIter = PI
        wp_walk
        subst hPI
        refine wpAny_pyIter_str fun o St wk st0 => ?_
        refine wpAny_bind (wpAny_runValue ?_)
        have sz1 : (s.heap.push (newSet led)).objs.size = s.heap.objs.size + 1 := Heap.size_push ..
        refine fillC (T := s.heap.objs.size) ((wk _ (by simp [hh])).toS) (fun z => ?_) (x.cps.toList.map fun c => S [c]) (by simp) (fun i v hv => ?_) hb (x.cps.size - 0) 0 _ rfl (Nat.zero_le _) st0 ?_ fun s' mv hS => ?_
        · exact absurd ((List.mem_singleton.mp z).trans sz1) (Nat.ne_of_lt (Nat.lt_succ_self _))
        · obtain ⟨c, u, hc, rfl⟩ := hv
          refine ⟨u, ?_⟩
          rw [List.getD_eq_getElem?_getD, List.getElem?_map, Array.getElem?_toList, hc]
          rfl
        · rw [List.take_zero]
          exact SetOf_congr ((setObjOf_fresh (knd := strKind prog w) led).setOf (Heap.get?_push_of_some _ at0) (by unfold scanBound; omega)) (fun k => by simp [met]) rfl
        · obtain ⟨h', g', d', tk', os'⟩ := s'
          obtain rfl : g' = s.gens := mv.gens
          obtain rfl : d' = s.drawn := mv.drawn
          obtain rfl : os' = s.os := mv.os
          show wpAny _ _ _ _ _ _
          refine wpAny_pure ?_
          show wpAny _ _ (ret Value.none) _ _ _
          refine wpAny_pure ⟨rfl, h', tk', rfl, hS, fun b o e => ?_⟩
          have lt := Heap.lt_size e
          refine mv.heap b o (fun z => ?_) (Heap.get?_push_of_some _ (Heap.get?_push_of_some _ e))
          rcases List.mem_cons.mp z with z | z
          · exact Nat.ne_of_lt lt z
          · have z2 := (List.mem_singleton.mp z).trans sz1
            rw [z2] at lt
            exact absurd lt (Nat.not_lt_of_lt (Nat.lt_succ_self _))
      · cases r2 with
        | error e => exact hr2
        | ok fl2 =>
          cases fl2 with
          | ret r =>
            obtain ⟨rfl, h', tk, rfl, hS, hk⟩ := hr2
            repeat (any_goals (first | assumption | wp_step))
            exact h _ _ hS hk
          | _ => exact hr2.elim
    | _ => exact hr.elim
end
/-- len(set(a text)) -/
def tLenSetC (ta : TE) : TE := fun σ H Q => ta σ H fun x H1 => ∃ l : List Nat, x = .str (S l) ∧ l.length ≤ 1000 ∧ Q (.int ((signs l).length : Int)) H1
theorem one_inj (a b : Nat) (h : S [a] = S [b]) : a = b := by
  have := S_inj h
  simpa using this
section
variable {X : Cx} {a : Expr} {ta : TE} {p p2 q pos : Pos}
theorem pe_lenSetC (hc : X.calm = true) (g1 : Gl X "len") (m1 : X.mg "len" = none) (g2 : Gl X "set") (m2 : X.mg "set" = none) (ha : PE X a ta) (na : starEach [a] X.env = (false, eval a X.env) :: starEach [] X.env := by rfl) :
    PE X (.Call (.Name "len" p) [.Call (.Name "set" p2) [a] [] q] [] pos) (tLenSetC ta) := by
  refine ⟨fun pins s σ H Q I h => ?_⟩
  refine Call_ (ld_blt I g1 m1 boot_len ?_)
  refine PyProof.Rows.callWith_builtin1 (PyProof.Rows.args_cons ?_ rfl) rfl rfl
  refine Call_ (ld_blt I g2 m2 boot_set ?_)
  refine PyProof.Rows.callWith_type1 (PyProof.Rows.args_cons (thn (ha.run pins s σ H _ I h) fun v z ⟨x, H1, I1, r1, q1⟩ => PyProof.Rows.args_nil ?_) na) na rfl
  obtain ⟨l, rfl, hl, q1⟩ := q1
  obtain ⟨t, rfl⟩ := r1
  have e0 : (S l).cps.toList = l := S_cps l
  refine call_set_text (I1.ok.hd hc) (by
    rw [show (S l).cps.size = l.length by simp [S]]
    unfold scanBound
    omega) fun h' tk hS hk => ?_
  refine PyProof.Rows.args_nil ?_
  rw [e0, show met [] (l.map fun c => S [c]) = (signs l).map fun c => S [c] from met_map one_inj l []] at hS
  obtain ⟨o, es, ep, tb, ho, hex, hd, _, _, _, hf, hn⟩ := hS
  rw [List.length_map] at hn
  have I2 : Inv X pins σ H1 { z with heap := h', toks := tk } := I1.kept hk
  have hz : (signs l).length ≤ l.length := by
    have := met_len l []
    rw [List.length_nil, Nat.zero_add] at this
    exact this
  exact call_len_set ho hex hd hf (by rw [hn]; omega) ⟨.int ((signs l).length : Int), H1, I2.tok _, ⟨_, by rw [hn]⟩, q1⟩
def rLeS : R2 := fun x y H Q => ∃ a b : List Nat, x = .str (S a) ∧ y = .str (S b) ∧ Q (.bl (!decide (b < a))) H
theorem oLeS : OpR X (compareOp .LtE) rLeS := by
  intro pins s σ H x y v u Q I rx ry h
  obtain ⟨a, b, rfl, rfl, q⟩ := h
  obtain ⟨t, rfl⟩ := rx
  obtain ⟨t', rfl⟩ := ry
  refine P.le_str ⟨.bl (!decide (b < a)), H, I, ?_, q⟩
  rw [S_cps, S_cps]
  rfl
end
section
variable {K : PySem.W.Frag} {σ : L2.St} {H H' : Hp} {ta tb te to : TE} {a b l : List Nat}
theorem ev_lenSetC (ha : Ev ta σ H (.str (S l))) (hl : l.length ≤ 1000) : Ev (tLenSetC ta) σ H (.int ((signs l).length : Int)) := fun H1 e Q q => ha H1 e _ fun H2 e2 => ⟨l, rfl, hl, q H2 e2⟩
theorem ev_leS (ha : Ev ta σ H (.str (S a))) (hb : Ev tb σ H (.str (S b))) : Ev (tOp rLeS ta tb) σ H (.bl (!decide (b < a))) := ev_op ha hb (rv_val fun H1 _ Q q => ⟨a, b, rfl, rfl, q⟩)
end
end BW

/-! Dicts of numbers to letters; parts of tuples; the first letter that is not in a list. -/
namespace BW
open PySem PySem.Spec PyProof.Rows L2 Evl
theorem oCatT {X : Cx} : OpR X (binaryOp .Add) (rCatA X.K) := op_catA
theorem slTup {X : Cx} : SlR X (rSlA X.K) := sl_tupA
/-- numbers, each with its letter -/
def dD (ps : List (Nat × Nat)) : List (Key × V) := ps.map fun p => (.inl (p.1 : Int), .str (S [p.2]))
theorem dD_val (n : Int) : ∀ ps : List (Nat × Nat), valV (dD ps) (.inl n) = (Pr.lk ps n).map fun c => V.str (S [c])
  | [] => rfl
  | p :: ps => by
    have ih := dD_val n ps
    rw [Pr.lk_cons]
    show valV (((.inl (p.1 : Int) : Key), V.str (S [p.2])) :: dD ps) (.inl n) = _
    by_cases h : (p.1 : Int) = n
    · rw [if_pos h, valV_pos (by rw [h])]
      rfl
    · rw [if_neg h, valV_neg (fun e => h (Sum.inl.inj e)), ih]
theorem dD_put {ps : List (Nat × Nat)} {n c : Nat} (h : Pr.lk ps (n : Int) = none) : putK (dD ps) (.inl (n : Int)) (.str (S [c])) = dD (ps ++ [(n, c)]) := by
  rw [putK_new _ (by rw [dD_val, h]; rfl)]
  unfold dD
  rw [List.map_append]
  rfl
theorem dD_len (ps : List (Nat × Nat)) : (dD ps).length = ps.length := List.length_map ..
def isDk (ps : List (Nat × Nat)) (H : Hp) : V → Hp → Prop := fun v H2 => ∃ p, v = .ref p ∧ H p = none ∧ H2 p = some (.dK (dD ps))
def RetD (ps : List (Nat × Nat)) (H : Hp) (Q : VK) : Prop := ∀ p H2, Ex H H2 → H p = none → H2 p = some (.dK (dD ps)) → Q (.ref p) H2
section
variable {K : PySem.W.Frag} {σ : L2.St} {H H' : Hp} {ta tb td ty tv te tk : TE} {D : Ends} {tz : TS} {ps : List (Nat × Nat)} {a : Addr}
theorem ev_dget {n : Int} {c : Nat} (hd : Ev td σ H (.ref a)) (hy : Ev ty σ H (.int n)) (h : H a = some (.dK (dD ps))) (hc : Pr.lk ps n = some c) : Ev (tDGet td ty) σ H (.str (S [c])) := fun H1 e Q q =>
  hd H1 e _ fun H2 e2 => hy H2 (e.trans e2) _ fun H3 e3 => ⟨a, .str (S [c]), rfl, by
    have z := DGet.k (k := .inl n) (((e.trans e2).trans e3) a _ h)
    rw [dD_val, hc] at z
    exact z, q H3 (e2.trans e3)⟩
theorem et_dni {n : Int} (hy : Ev ty σ H (.int n)) (hd : Ev td σ H (.ref a)) (h : H a = some (.dK (dD ps))) : EvT (tB (tDNotIn ty td)) σ H (!(Pr.lk ps n).isSome) := fun H1 e Q q =>
  hy H1 e _ fun H2 e2 => hd H2 (e.trans e2) _ fun H3 e3 => ⟨a, _, rfl, DGet.k (k := .inl n) (((e.trans e2).trans e3) a _ h), _, rfl, by
    rw [dD_val, Option.isSome_map]
    exact q H3 (e2.trans e3)⟩
theorem s_dput {n c : Nat} (hl : H a = some (.dK (dD ps))) (hd : Ev td σ H (.ref a)) (hy : Ev ty σ H (.int (n : Int))) (hv : Ev tv σ H (.str (S [c]))) (hn : Pr.lk ps (n : Int) = none) (hz : ps.length ≤ 1000)
    (k : ∀ H1, Ex H H1 → D.nx σ (upd H1 a (.dK (dD (ps ++ [(n, c)]))))) : sDPut td ty tv D σ H :=
  hv H (Ex.refl H) _ fun H1 e1 => hd H1 e1 _ fun H2 e2 => hy H2 (e1.trans e2) _ fun H3 e3 => ⟨a, _, rfl, DPut.k (k := .inl (n : Int)) (((e1.trans e2).trans e3) a _ hl) (by
    rw [dD_len]
    exact szl (by omega)), by
    rw [dD_put hn]
    exact k H3 ((e1.trans e2).trans e3)⟩
theorem q_dput {n c : Nat} (hl : H a = some (.dK (dD ps))) (hd : Ev td σ H (.ref a)) (hy : Ev ty σ H (.int (n : Int))) (hv : Ev tv σ H (.str (S [c]))) (hn : Pr.lk ps (n : Int) = none) (hz : ps.length ≤ 1000)
    (k : ∀ H1, Ex H H1 → tz D σ (upd H1 a (.dK (dD (ps ++ [(n, c)]))))) : tSeq (sDPut td ty tv) tz D σ H := s_dput (D := { D with nx := tz D }) hl hd hy hv hn hz k
theorem rg_dnew : Rg (tDNewK σ) H (isDk [] H) := fun H1 e Q q => fun p hp => q _ _ (Ex.new hp) ⟨p, rfl, fresh_back e hp, upd_same⟩
/-- {number: letter} -/
theorem rg_disp1 {n c : Nat} (hk : Ev tk σ H (.int (n : Int))) (hv : Ev tv σ H (.str (S [c]))) : Rg (tDisp [(tk, tv)] σ) H (isDk [(n, c)] H) := fun H1 e Q q => fun p hp =>
  hk _ (e.trans (Ex.new hp)) _ fun H2 e2 => hv H2 (e.trans ((Ex.new hp).trans e2)) _ fun H3 e3 => ⟨(e2.trans e3) p _ upd_same, dD [(n, c)], rfl, (show 1 ≤ 15 by decide), q _ _ (Ex.mut ((Ex.new hp).trans (e2.trans e3)) hp) ⟨p, rfl, fresh_back e hp, by
    rw [upd_same]
    rfl⟩⟩
theorem rg_dict {p : Addr} (h : Ev te σ H (.ref p)) (hn : H' p = none) (hp : H p = some (.dK (dD ps))) : Rg (te σ) H (isDk ps H') := fun H1 e Q q => h H1 e _ fun H2 e2 => q _ H2 e2 ⟨p, rfl, hn, (e.trans e2) p _ hp⟩
/-- the head of a tuple -/
theorem rg_slTup {xs : List V} {n : Nat} (ha : Ev ta σ H (.ref a)) (hb : Ev tb σ H (.int (n : Int))) (h : SqT K H a xs) (hn : n ≤ xs.length) : Rg (tSl (rSlA K) ta tNoPart (tPart tb) σ) H (isT K (xs.take n)) := fun H1 e Q q =>
  ha H1 e _ fun H2 e2 => hb H2 (e.trans e2) _ fun H3 e3 => ⟨n, rfl, a, xs, rfl, ex_t ((e.trans e2).trans e3) h, fun z => by
    have hz : n = xs.length := by
      have := z.2
      rw [HT.sIx_nat] at this
      omega
    subst hz
    exact q _ H3 (e2.trans e3) ⟨a, rfl, by
      rw [List.take_length]
      exact ex_t ((e.trans e2).trans e3) h⟩, fun _ p hp => q _ _ ((e2.trans e3).trans (Ex.new hp)) ⟨p, rfl, by
      have ec : cutV xs none (some (n : Int)) = xs.take n := by
        unfold cutV
        rw [HT.sIx_none, HT.sIx_nat, List.drop_zero, Nat.sub_zero, Nat.min_eq_left hn]
      rw [ec]
      exact st_of upd_same⟩⟩
/-- a call whose first argument is a tuple made on the way -/
theorem rg_call2T {sp : Sp} {E : XK} {P : V → Hp → Prop} {xs : List V} {y : V} (h : Rg (ta σ) H (isT K xs)) (hb : ∀ H1, Ex H H1 → Ev tb σ H1 y) (hs : ∀ p H1, Ex H H1 → SqT K H1 p xs → SpP sp [.ref p, y] H1 P) : Rg (tCall sp [] E (tCons ta (tCons tb tNil)) σ) H P := fun H1 e Q q =>
  h H1 e _ fun x H2 e2 p => hb H2 (e.trans e2) H2 (Ex.refl H2) _ fun H3 e3 => by
    obtain ⟨p, rfl, hp⟩ := p
    exact hs p H3 ((e.trans e2).trans e3) (ex_t e3 hp) H3 (Ex.refl H3) Q (fun v H4 e4 p4 => q v H4 ((e2.trans e3).trans e4) p4) E
def isDo (ps : List (Nat × Nat)) : V → Hp → Prop := fun v H2 => ∃ p, v = .ref p ∧ H2 p = some (.dK (dD ps))
theorem SpP.imp {sp : Sp} {vs : List V} {P P' : V → Hp → Prop} (h : SpP sp vs H P) (i : ∀ v H2, Ex H H2 → P v H2 → P' v H2) : SpP sp vs H P' := fun H1 e Q q E => h H1 e Q (fun v H2 e2 p => q v H2 e2 (i v H2 (e.trans e2) p)) E
theorem isDk.o {v : V} {H2 : Hp} (h : isDk ps H v H2) : isDo ps v H2 := by
  obtain ⟨p, rfl, _, hp⟩ := h
  exact ⟨p, rfl, hp⟩
/-- tuple + tuple -/
theorem rg_catT {xs ys : List V} (ha : Rg (ta σ) H (isT K xs)) (hb : ∀ H1, Ex H H1 → Rg (tb σ) H1 (isT K ys)) (hl : xs.length + ys.length ≤ 1000) : Rg (tOp (rCatA K) ta tb σ) H (isT K (xs ++ ys)) := fun H1 e Q q =>
  ha H1 e _ fun x H2 e2 px => hb H2 (e.trans e2) H2 (Ex.refl H2) _ fun y H3 e3 py => by
    obtain ⟨p, rfl, h1⟩ := px
    obtain ⟨r, rfl, h2⟩ := py
    refine ⟨p, r, xs, ys, rfl, rfl, ex_t e3 h1, h2, sz (by omega), fun z => ?_, fun _ z => ?_, fun _ _ l hl => q _ _ ((e2.trans e3).trans (Ex.new hl)) ⟨l, rfl, st_of upd_same⟩⟩
    · subst z
      exact q _ H3 (e2.trans e3) ⟨r, rfl, h2⟩
    · subst z
      exact q _ H3 (e2.trans e3) ⟨p, rfl, by
        rw [List.append_nil]
        exact ex_t e3 h1⟩
/-- for x in a list that is made on the way -/
def isNn (xs : List V) (H : Hp) : V → Hp → Prop := fun v H2 => ∃ p, v = .ref p ∧ H p = none ∧ H2 p = some (.lst xs)
theorem s_forNR {tl : TE} {tu : TS} {xs : List V} {j : Nat} (h : Rg (tl σ) H (isNn xs H)) (Pv : Addr → Nat → L2.St → Hp → Prop) (h0 : ∀ p H1, Ex H H1 → H p = none → H1 p = some (.lst xs) → Pv p 0 σ H1) (hk : ∀ p i σ' H', Pv p i σ' H' → H' p = some (.lst xs))
    (hs : ∀ p i x σ' H', xs[i]? = some x → Pv p i σ' H' → tu { D with nx := Pv p (i + 1), ct := Pv p (i + 1), bk := D.nx } (σ'.set j (some x)) H') (hd : ∀ p σ' H', Pv p xs.length σ' H' → D.nx σ' H') :
    tFor (iList K tl) (gName j) tu D σ H := h.go fun v H1 e p => by
  obtain ⟨p, rfl, hn, hp⟩ := p
  exact ⟨p, rfl, ⟨xs, sq_of hp⟩, for_list (K := K) (a := p) (xs := xs) (Pv p) (h0 p H1 e hn hp) (fun i σ' H' _ q => sq_of (hk p i σ' H' q)) (fun i x σ' H' hx q => hs p i x σ' H' hx q) (hd p)⟩
theorem q_forNR {tl : TE} {tu : TS} {xs : List V} {j : Nat} (h : Rg (tl σ) H (isNn xs H)) (Pv : Addr → Nat → L2.St → Hp → Prop) (h0 : ∀ p H1, Ex H H1 → H p = none → H1 p = some (.lst xs) → Pv p 0 σ H1) (hk : ∀ p i σ' H', Pv p i σ' H' → H' p = some (.lst xs))
    (hs : ∀ p i x σ' H', xs[i]? = some x → Pv p i σ' H' → tu { D with nx := Pv p (i + 1), ct := Pv p (i + 1), bk := tz D } (σ'.set j (some x)) H') (hd : ∀ p σ' H', Pv p xs.length σ' H' → tz D σ' H') :
    tSeq (tFor (iList K tl) (gName j) tu) tz D σ H := s_forNR (D := { D with nx := tz D }) h Pv h0 hk hs hd
abbrev letV (l : List Nat) : List V := l.map fun c => V.str (S [c])
theorem flat_let : ∀ l : List Nat, (letV l).all flatV = true
  | [] => rfl
  | _ :: r => flat_let r
theorem inV_let (x : Nat) : ∀ l : List Nat, inV (.str (S [x])) (letV l) = decide (x ∈ l)
  | [] => by simp [inV]
  | y :: r => by
    have ih := inV_let x r
    unfold inV at ih ⊢
    rw [letV, List.map_cons, List.any_cons, ih]
    by_cases h : x = y
    · subst h
      rw [show eqV (V.str (S [x])) (V.str (S [x])) = true by simp [eqV]]
      simp
    · rw [show eqV (V.str (S [y])) (V.str (S [x])) = false from ?_, Bool.false_or]
      · simp [h]
      · show (S [y] == S [x]) = false
        exact beq_eq_false_iff_ne.mpr fun e => h (by have := S_inj e; simpa using this.symm)
theorem ev_niS {c : Nat} {l : List Nat} (ha : Ev ta σ H (.str (S [c]))) (hb : Ev tb σ H (.ref a)) (h : SqL K H a (letV l)) : Ev (tOp (rIn K true) ta tb) σ H (.bl (!decide (c ∈ l))) :=
  ev_is (ev_op ha hb (rv_niL h rfl (flat_let l))) (by rw [inV_let])
/-- [letter for letter in a text if letter not in met][0] -/
theorem ev_fresh {vs : List Nat} {j : Nat} {tw : TE} {m : List Nat} {n : Nat} (hs : Ev ta σ H (.str (S (Pr.abc n)))) (hm : m.length < n) (hn : n ≤ 1000) (hw : ∀ x, wipe ((wipe σ vs).set j (some x)) vs = wipe σ vs)
    (hv : ∀ c H1, Ex H H1 → Ev tv ((wipe σ vs).set j (some (V.str (S [c])))) H1 (.str (S [c]))) (ht : ∀ c H1, Ex H H1 → EvT (tTest tw) ((wipe σ vs).set j (some (V.str (S [c])))) H1 (!decide (c ∈ m))) :
    Ev (tOp (rIxL K) (tLc (iStr ta) (gName j) (tTest tw) tv vs) (tC (.int 0))) σ H (.str (S [Pr.fresh m])) := by
  obtain ⟨r, hr⟩ := Pr.fresh_gen hm
  refine ev_ixN (xs := letV (Pr.fresh m :: r)) (i := 0) ((rg_lcV (Pr.abc n) (fun c => V.str (S [c])) (fun c => !decide (c ∈ m)) (fun c => V.str (S [c])) (src_str hs) (by rw [Pr.abc_len]; omega) hw (fun c _ H1 e => ht c H1 e) fun c _ _ H1 e => hv c H1 e).imp fun v H2 _ p => ?_) ev_c (v := .str (S [Pr.fresh m])) ?_
  · obtain ⟨p, e, _, h2⟩ := p
    rw [hr] at h2
    exact ⟨p, e, h2⟩
  · exact atI_nat (j := 0) (xs := letV (Pr.fresh m :: r)) rfl
end
theorem abc26 : ("abcdefghijklmnopqrstuvwxyz" : Str) = S (Pr.abc 26) := by decide +kernel
theorem abc15 : ("abcdefghijklmno" : Str) = S (Pr.abc 15) := by decide +kernel
theorem natV_ints (l : List Nat) : natV l = (Pr.intsL l).map V.int := by
  unfold natV Pr.intsL
  rw [List.map_map]
  rfl
end BW

/-! Tuples of whole numbers compared; all words of a length, but for the letters' names. -/
namespace BW
open PySem PySem.Spec PyProof.Rows L2 Evl
def rListT (K : PySem.W.Frag) : List V → Hp → VK → Prop := fun xs H Q => ∃ p ys, xs = [.ref p] ∧ (SqL K H p ys ∨ SqT K H p ys) ∧ ∀ l, H l = none → Q (.ref l) (upd H l (.lst ys))
theorem cListT {X : Cx} : CallR X (.type "list") (rListT X.K) := call_list_of
abbrev intV (l : List Int) : List V := l.map V.int
def intD (l : List Int) : List PyData := l.map PyData.int
theorem dpAll_int {K : PySem.W.Frag} {H : Hp} : ∀ l : List Int, DpAll K H (intV l) (intD l)
  | [] => .nil
  | i :: r => .cons (.int i) (dpAll_int r)
theorem lay_int : ∀ l : List Int, PyData.canLayAll0 (intD l) = true
  | [] => by simp [intD, PyData.canLayAll0]
  | i :: r => by
    have ih := lay_int r
    simp only [intD, List.map_cons, PyData.canLayAll0, PyData.canLay0, Bool.true_and]
    exact ih
theorem depth_int : ∀ l : List Int, PyData.depthAll (intD l) = 0
  | [] => by simp [intD, PyData.depthAll]
  | i :: r => by
    have ih := depth_int r
    simp only [intD, List.map_cons, PyData.depthAll, PyData.depth]
    rw [show PyData.depthAll (List.map PyData.int r) = 0 from ih]
    rfl
theorem shaped_intT (l : List Int) : SeqAt.shaped (.tuple (intD l)) = true := by
  unfold SeqAt.shaped
  rw [PyData.canLay0, lay_int, PyData.depth, depth_int]
  rfl
theorem shaped_intL (l : List Int) : SeqAt.shaped (.list (intD l)) = true := by
  unfold SeqAt.shaped
  rw [PyData.canLay0, lay_int, PyData.depth, depth_int]
  rfl
theorem eqv_int : ∀ a b : List Int, PyData.eqvAll (intD a) (intD b) = decide (a = b)
  | [], [] => by simp [intD, PyData.eqvAll]
  | [], _ :: _ => by simp [intD, PyData.eqvAll]
  | _ :: _, [] => by simp [intD, PyData.eqvAll]
  | x :: a, y :: b => by
    have ih := eqv_int a b
    simp only [intD, List.map_cons, PyData.eqvAll, PyData.eqv]
    rw [show PyData.eqvAll (List.map PyData.int a) (List.map PyData.int b) = decide (a = b) from ih]
    by_cases h : x = y
    · subst h
      simp
    · rw [show (x == y) = false from beq_eq_false_iff_ne.mpr h, Bool.false_and]
      exact (decide_eq_false fun e => h (List.cons.inj e).1).symm
section
variable {K : PySem.W.Frag} {σ : L2.St} {H H' : Hp} {ta tb tl te tv : TE}
theorem isD_Ti {l : List Int} {k : Hp → VK → Prop} (h : Rg k H (isT K (intV l))) : Rg k H (isD K (.tuple (intD l))) := h.imp fun v H2 _ p => by
  obtain ⟨p, rfl, hp⟩ := p
  exact .tup hp (dpAll_int l)
theorem isD_Ni {l : List Int} {k : Hp → VK → Prop} (h : Rg k H (isN (intV l))) : Rg k H (isD K (.list (intD l))) := h.imp fun v H2 _ p => by
  obtain ⟨p, rfl, hp⟩ := p
  exact .lst (sq_of hp) (dpAll_int l)
theorem ev_eqTi {a b : List Int} (ha : Rg (ta σ) H (isT K (intV a))) (hb : ∀ H1, Ex H H1 → Rg (tb σ) H1 (isT K (intV b))) : Ev (tOp (rEqD K) ta tb) σ H (.bl (decide (a = b))) :=
  ev_is (ev_eqD (isD_Ti ha) (fun H1 e => isD_Ti (hb H1 e)) (shaped_intT a) (shaped_intT b)) (by rw [PyData.eqv, eqv_int])
theorem ev_neTi {a b : List Int} (ha : Rg (ta σ) H (isT K (intV a))) (hb : ∀ H1, Ex H H1 → Rg (tb σ) H1 (isT K (intV b))) : Ev (tOp (rNeD K) ta tb) σ H (.bl (!decide (a = b))) :=
  ev_is (ev_neD (isD_Ti ha) (fun H1 e => isD_Ti (hb H1 e)) (shaped_intT a) (shaped_intT b)) (by rw [PyData.eqv, eqv_int])
theorem ev_neEi {a : List Int} (ha : Rg (ta σ) H (isN (intV a))) : Ev (tOp (rNeD K) ta (tLst tNil)) σ H (.bl (!decide (a = []))) :=
  ev_is (ev_neD (isD_Ni ha) (fun H1 e => isD_Ni (l := []) rg_nil) (shaped_intL a) (shaped_intL [])) (by rw [PyData.eqv, eqv_int])
/-- two scalars in a tuple, compared -/
theorem isD_2 {x y : V} {d e : PyData} {k : Hp → VK → Prop} (h : Rg k H (isT K [x, y])) (hx : ∀ H, Dp K H x d) (hy : ∀ H, Dp K H y e) : Rg k H (isD K (.tuple [d, e])) := h.imp fun v H2 _ p => by
  obtain ⟨p, rfl, hp⟩ := p
  exact .tup hp (.cons (hx H2) (.cons (hy H2) .nil))
theorem ev_ne2 {x y : V} {d e : PyData} (ha : Rg (ta σ) H (isT K [x, y])) (hb : ∀ H1, Ex H H1 → Rg (tb σ) H1 (isT K [x, y])) (hx : ∀ H, Dp K H x d) (hy : ∀ H, Dp K H y e) (hs : SeqAt.shaped (.tuple [d, e]) = true) (h1 : PyData.eqv d d = true) (h2 : PyData.eqv e e = true) :
    Ev (tOp (rNeD K) ta tb) σ H (.bl false) :=
  ev_is (ev_neD (isD_2 ha hx hy) (fun H1 e => isD_2 (hb H1 e) hx hy) hs hs) (by
    simp only [PyData.eqv, PyData.eqvAll]
    rw [h1, h2]
    rfl)
theorem shaped_2 {d e : PyData} (h1 : PyData.canLay0 d = true) (h2 : PyData.canLay0 e = true) (h3 : PyData.depth d = 0) (h4 : PyData.depth e = 0) : SeqAt.shaped (.tuple [d, e]) = true := by
  unfold SeqAt.shaped
  have z : PyData.depth (.tuple [d, e]) = 1 := by
    simp only [PyData.depth, PyData.depthAll]
    rw [h3, h4]
    rfl
  rw [z]
  simp only [PyData.canLay0, PyData.canLayAll0]
  rw [h1, h2]
  rfl
theorem isT_ni {l : List Nat} {k : Hp → VK → Prop} (h : Rg k H (isT K (natV l))) : Rg k H (isT K (intV (Pr.intsL l))) := by
  rw [natV_ints] at h
  exact h
/-- list(a tuple made on the way) -/
theorem rg_listT {xs : List V} (h : Rg (ta σ) H (isT K xs)) : Rg (tCB (rListT K) (tCons ta tNil) σ) H (isNn xs H) := fun H1 e Q q => h H1 e _ fun v H2 e2 p => by
  obtain ⟨p, rfl, hp⟩ := p
  exact ⟨p, xs, rfl, .inr hp, fun l hl => q _ _ (e2.trans (Ex.new hl)) ⟨l, rfl, fresh_back (e.trans e2) hl, upd_same⟩⟩
theorem rg_listTx {R : List V → Prop} (h : Rg (ta σ) H (fun v H2 => ∃ xs, R xs ∧ isT K xs v H2)) : Rg (tCB (rListT K) (tCons ta tNil) σ) H (fun v H2 => ∃ xs, R xs ∧ isNn xs H v H2) := fun H1 e Q q => h H1 e _ fun v H2 e2 p => by
  obtain ⟨xs, hR, p, rfl, hp⟩ := p
  exact ⟨p, xs, rfl, .inr hp, fun l hl => q _ _ (e2.trans (Ex.new hl)) ⟨xs, hR, l, rfl, fresh_back (e.trans e2) hl, upd_same⟩⟩
/-- the item of a tuple made on the way -/
theorem ev_ixTR {xs : List V} {i : Int} {v : V} (h : Rg (ta σ) H (isT K xs)) (hb : Ev tb σ H (.int i)) (hx : atI xs i = some v) : Ev (tOp (rIxT K) ta tb) σ H v := fun H1 e Q q => h H1 e _ fun x H2 e2 p => by
  obtain ⟨p, rfl, hp⟩ := p
  exact hb H2 (e.trans e2) _ fun H3 e3 => ⟨p, xs, i, v, rfl, rfl, ex_t e3 hp, hx, q H3 (e2.trans e3)⟩
theorem ev_negC {i : Int} : Ev (tUn (rU fun i => .int (-i)) (tC (.int i))) σ H (.int (-i)) := ev_un ev_c fun H1 e Q q => ⟨i, rfl, q H1 (Ex.refl H1)⟩
theorem ints_at {zs : List Int} {r : Nat} (h : r < zs.length) : ∃ z, atI (intV zs) (r : Int) = some (V.int z) := ⟨zs[r], atI_nat (by rw [List.getElem?_map, List.getElem?_eq_getElem h]; rfl)⟩
/-- none of them: [.. if ..] == [] -/
theorem ev_eqNo {α : Type} {wi : TI} {vs : List Nat} {tt : TT} {n : Nat} {l : List α} {inj : α → V} (hs : Src wi σ H (l.map inj)) (hz : l.length ≤ 100000) (hw : ∀ x, wipe ((wipe σ vs).set n (some x)) vs = wipe σ vs)
    (ht : ∀ a ∈ l, ∀ H1, Ex H H1 → EvT tt ((wipe σ vs).set n (some (inj a))) H1 false) : Ev (tOp (rEqD K) (tLc wi (gName n) tt te vs) (tLst tNil)) σ H (.bl true) :=
  ev_is (ev_eqE (a := []) ((rg_lcV l inj (fun _ => false) (fun _ => V.non) hs hz hw ht fun _ _ h => nomatch h).imp fun v H2 _ p => by
    obtain ⟨p, e, _, hp⟩ := p
    rw [show l.filter (fun _ => false) = [] by simp] at hp
    exact ⟨p, e, hp⟩)) rfl
end
/-! ### all words of a length -/
abbrev txtV (l : List (List Nat)) : List V := l.map fun x => V.str (S x)
def more (w : List Nat) : List (List Nat) := ((Pr.abc 8).take ((signs w).length + 1)).map fun c => w ++ [c]
def wordsN : Nat → List (List Nat)
  | 0 => [[]]
  | k + 1 => (wordsN k).flatMap more
theorem wordsN_small : ∀ k, k ≤ 6 → (wordsN k).length ≤ 203 := by
  have h : ∀ k ∈ List.range 7, (wordsN k).length ≤ 203 := by decide +kernel
  exact fun k hk => h k (List.mem_range.mpr (by omega))
theorem more_len (w : List Nat) : (more w).length ≤ 8 := by
  unfold more
  rw [List.length_map, List.length_take, Pr.abc_len]
  omega
theorem flat_len {f : List Nat → List (List Nat)} (h : ∀ x, (f x).length ≤ 8) : ∀ l : List (List Nat), (l.flatMap f).length ≤ 8 * l.length
  | [] => Nat.zero_le _
  | x :: l => by
    have := flat_len h l
    have := h x
    rw [List.flatMap_cons, List.length_append, List.length_cons]
    omega
theorem wordsN_len : ∀ k, ∀ w ∈ wordsN k, w.length = k
  | 0, w, h => by
    rw [List.mem_singleton.mp h]
    rfl
  | k + 1, w, h => by
    obtain ⟨v, hv, hw⟩ := List.mem_flatMap.mp h
    unfold more at hw
    obtain ⟨c, _, rfl⟩ := List.mem_map.mp hw
    rw [List.length_append, wordsN_len k v hv]
    rfl
theorem upto {α β : Type} {f : α → List β} {l : List α} {i : Nat} {x : α} (h : l[i]? = some x) : (l.take (i + 1)).flatMap f = (l.take i).flatMap f ++ f x := by
  rw [List.take_add_one, h, List.flatMap_append]
  show _ ++ ([x].flatMap f) = _
  rw [List.flatMap_cons]
  simp
theorem abc8 : ("abcdefgh" : Str) = S (Pr.abc 8) := by decide +kernel
theorem txt_at {l : List (List Nat)} {i : Nat} {x : V} (h : (txtV l)[i]? = some x) : ∃ w, l[i]? = some w ∧ x = V.str (S w) := by
  rw [List.getElem?_map] at h
  cases e : l[i]? with
  | none => rw [e] at h; cases h
  | some w => rw [e] at h; exact ⟨w, rfl, (Option.some.inj h).symm⟩
end BW

/-! What may come next, and how many rows there are. Plain Lean. -/
namespace Pr
theorem asc_ext {α : Type} {r : α → α → Prop} (hr : ∀ a b, r a b → ¬ r b a) : ∀ {a b : List α}, a.Pairwise r → b.Pairwise r → (∀ x, x ∈ a ↔ x ∈ b) → a = b
  | [], [], _, _, _ => rfl
  | [], y :: b, _, _, h => nomatch (h y).mpr List.mem_cons_self
  | x :: a, [], _, _, h => nomatch (h x).mp List.mem_cons_self
  | x :: a, y :: b, ha, hb, h => by
    have h1 := List.pairwise_cons.mp ha
    have h2 := List.pairwise_cons.mp hb
    have e : x = y := by
      rcases List.mem_cons.mp ((h x).mp List.mem_cons_self) with k | k
      · exact k
      · rcases List.mem_cons.mp ((h y).mpr List.mem_cons_self) with j | j
        · exact j.symm
        · exact absurd (h1.1 y j) (hr _ _ (h2.1 x k))
    subst e
    rw [asc_ext hr h1.2 h2.2 fun z => ?_]
    constructor
    · intro hz
      rcases List.mem_cons.mp ((h z).mp (List.mem_cons_of_mem _ hz)) with k | k
      · subst k
        exact absurd (h1.1 _ hz) (fun q => hr _ _ q q)
      · exact k
    · intro hz
      rcases List.mem_cons.mp ((h z).mpr (List.mem_cons_of_mem _ hz)) with k | k
      · subst k
        exact absurd (h2.1 _ hz) (fun q => hr _ _ q q)
      · exact k
def keysL (u : List Nat) : List Nat := (chL u).map (·.1)
theorem keysL_eq (u : List Nat) : keysL u = (keep u).map (· + 1) ++ [0] := by
  unfold keysL chL
  rw [List.map_append, List.map_map]
  rfl
theorem keysL_down (u : List Nat) : (keysL u).Pairwise (fun a b => b < a) := by
  rw [keysL_eq, List.pairwise_append]
  refine ⟨?_, List.pairwise_singleton _ _, fun a ha b hb => ?_⟩
  · rw [List.pairwise_map]
    have h2 : (keep u).Pairwise (fun a b => b < a) := List.Pairwise.filter _ (bl_down u)
    exact List.Pairwise.imp (fun h => by omega) h2
  · obtain ⟨d, _, rfl⟩ := List.mem_map.mp ha
    rw [List.mem_singleton.mp hb]
    omega
theorem keysL_len (u : List Nat) : (keysL u).length ≤ u.length + 1 := by
  have h := got_len u (blist u).length
  rw [got_end] at h
  rw [keysL_eq, List.length_append, List.length_map, List.length_singleton]
  omega
theorem mem_keys {u : List Nat} {n : Int} : (∃ k ∈ keysL u, (k : Int) = n) ↔ (lk (chL u) n).isSome = true := by
  constructor
  · rintro ⟨k, hk, rfl⟩
    obtain ⟨p, hp, rfl⟩ := List.mem_map.mp hk
    obtain ⟨c, hc⟩ := lk_some hp
    rw [hc]
    rfl
  · intro h
    cases e : lk (chL u) n with
    | none => rw [e] at h; cases h
    | some c =>
      obtain ⟨p, hp, h1, _⟩ := lk_mem e
      exact ⟨p.1, List.mem_map.mpr ⟨p, hp, rfl⟩, h1⟩
/-- the numbers that may come next, from the least on -/
def nxL (u : List Nat) : List Nat := (keysL u).reverse
theorem nxL_asc (u : List Nat) : (nxL u).Pairwise (· < ·) := by
  unfold nxL
  rw [List.pairwise_reverse]
  exact keysL_down u
theorem mem_nxL {u : List Nat} {n : Nat} : n ∈ nxL u ↔ n ∈ keysL u := List.mem_reverse
def ch1 (u : List Nat) (n : Nat) : Nat := (lk (chL u) (n : Int)).getD 0
theorem ch1_lk {u : List Nat} {n : Nat} (h : n ∈ keysL u) : lk (chL u) (n : Int) = some (ch1 u n) := by
  have z := mem_keys.mp ⟨n, h, rfl⟩
  unfold ch1
  cases e : lk (chL u) (n : Int) with
  | none => rw [e] at z; cases z
  | some c => rfl
theorem ch1_nxt {u : List Nat} {n : Nat} (h : n ∈ keysL u) : nxt u (ch1 u n) = n := by
  have := (lk_sound (ch1_lk h)).1
  omega
theorem brow_ch1 {u : List Nat} {n : Nat} (h : n ∈ keysL u) : brow (u ++ [ch1 u n]) = brow u ++ [n] := by rw [brow_add, ch1_nxt h]
/-- sorted, as it comes -/
theorem sorted_nx {u : List Nat} {ys : List Int} (hp : ys.Perm (intsL (keysL u))) (hs : ys.Pairwise (· ≤ ·)) : ys = intsL (nxL u) := by
  have nd : ys.Nodup := by
    refine hp.nodup_iff.mpr ?_
    unfold intsL
    rw [List.nodup_iff_pairwise_ne, List.pairwise_map]
    exact List.Pairwise.imp (fun h => by omega) (keysL_down u)
  refine asc_ext (r := fun a b : Int => a < b) (fun a b h => by omega) ?_ ?_ fun x => ?_
  · exact (List.pairwise_and_iff.mpr ⟨hs, List.nodup_iff_pairwise_ne.mp nd⟩).imp fun h => by omega
  · unfold intsL
    rw [List.pairwise_map]
    exact List.Pairwise.imp (fun h => by omega) (nxL_asc u)
  · rw [hp.mem_iff]
    unfold intsL nxL
    rw [List.mem_map, List.mem_map]
    simp only [List.mem_reverse]
/-- the numbers that lead to a word -/
theorem due_nx {u : List Nat} {m : Nat} (hm : u.length ≤ m) : ((List.range (m + 4)).filter fun (i : Nat) => (lk (chL u) (-1 + (i : Int))).isSome).map (fun (i : Nat) => -1 + (i : Int)) = intsL (nxL u) := by
  refine asc_ext (r := fun a b : Int => a < b) (fun a b h => by omega) ?_ ?_ fun x => ?_
  · rw [List.pairwise_map]
    exact List.Pairwise.imp (fun {a b} (h : a < b) => by omega) (List.Pairwise.filter _ List.pairwise_lt_range)
  · unfold intsL
    rw [List.pairwise_map]
    exact List.Pairwise.imp (fun h => by omega) (nxL_asc u)
  · have e : x ∈ intsL (nxL u) ↔ (lk (chL u) x).isSome = true := by
      rw [← mem_keys]
      unfold intsL nxL
      rw [List.mem_map]
      simp only [List.mem_reverse]
    rw [e, List.mem_map]
    constructor
    · rintro ⟨i, hi, rfl⟩
      exact (List.mem_filter.mp hi).2
    · intro h
      obtain ⟨c, hc⟩ : ∃ c, lk (chL u) x = some c := Option.isSome_iff_exists.mp h
      have b := lk_lt hc
      refine ⟨(x + 1).toNat, List.mem_filter.mpr ⟨List.mem_range.mpr (by omega), ?_⟩, by omega⟩
      rw [show -1 + (((x + 1).toNat : Nat) : Int) = x by omega]
      exact h
/-! ### all rows of a length -/
def told (u : List Nat) : Prop := tell (intsL (brow u)) [] = .inl u
def ext (u : List Nat) : List (List Nat) := (nxL u).map fun n => u ++ [ch1 u n]
def exk (u : List Nat) : List (List Nat) := (keysL u).map fun n => u ++ [ch1 u n]
def rowsU : Nat → List (List Nat)
  | 0 => [[]]
  | k + 1 => (rowsU k).flatMap ext
def rowsW : Nat → List (List Nat)
  | 0 => [[]]
  | k + 1 => (rowsW k).flatMap exk
theorem told_ch1 {u : List Nat} {n : Nat} (hu : told u) (h : n ∈ keysL u) : told (u ++ [ch1 u n]) := by
  unfold told at hu ⊢
  rw [brow_ch1 h, ints_app, tell_app_inl hu]
  show tell ((n : Int) :: []) u = _
  rw [tell_some (ch1_lk h)]
  rfl
theorem rowsU_told : ∀ k, ∀ u ∈ rowsU k, told u ∧ u.length = k
  | 0, u, h => by
    rw [List.mem_singleton.mp h]
    exact ⟨rfl, rfl⟩
  | k + 1, u, h => by
    obtain ⟨v, hv, hu⟩ := List.mem_flatMap.mp h
    obtain ⟨n, hn, rfl⟩ := List.mem_map.mp hu
    obtain ⟨h1, h2⟩ := rowsU_told k v hv
    exact ⟨told_ch1 h1 (mem_nxL.mp hn), by rw [List.length_append, h2]; rfl⟩
theorem rowsW_len : ∀ k, ∀ u ∈ rowsW k, u.length = k
  | 0, u, h => by
    rw [List.mem_singleton.mp h]
    rfl
  | k + 1, u, h => by
    obtain ⟨v, hv, hu⟩ := List.mem_flatMap.mp h
    obtain ⟨n, hn, rfl⟩ := List.mem_map.mp hu
    rw [List.length_append, rowsW_len k v hv]
    rfl
theorem flat_le {f : List Nat → List (List Nat)} {b : Nat} : ∀ {l : List (List Nat)}, (∀ x ∈ l, (f x).length ≤ b) → (l.flatMap f).length ≤ b * l.length
  | [], _ => Nat.zero_le _
  | x :: l, h => by
    have h1 := flat_le (l := l) fun y hy => h y (List.mem_cons_of_mem _ hy)
    have h2 := h x List.mem_cons_self
    rw [List.flatMap_cons, List.length_append, List.length_cons, Nat.mul_succ]
    omega
def fct : Nat → Nat
  | 0 => 1
  | k + 1 => (k + 1) * fct k
theorem fct_le {k : Nat} (h : k ≤ 9) : fct k ≤ 362880 := by
  have : ∀ k ∈ List.range 10, fct k ≤ 362880 := by decide
  exact this k (List.mem_range.mpr (by omega))
theorem ext_len {k : Nat} {u : List Nat} (h : u.length = k) : (ext u).length ≤ k + 1 := by
  have := keysL_len u
  unfold ext nxL
  rw [List.length_map, List.length_reverse]
  omega
theorem exk_len {k : Nat} {u : List Nat} (h : u.length = k) : (exk u).length ≤ k + 1 := by
  have := keysL_len u
  unfold exk
  rw [List.length_map]
  omega
theorem rowsU_fct : ∀ k, (rowsU k).length ≤ fct k
  | 0 => Nat.le_refl _
  | k + 1 => Nat.le_trans (flat_le fun u hu => ext_len (rowsU_told k u hu).2) (Nat.mul_le_mul_left _ (rowsU_fct k))
theorem rowsW_fct : ∀ k, (rowsW k).length ≤ fct k
  | 0 => Nat.le_refl _
  | k + 1 => Nat.le_trans (flat_le fun u hu => exk_len (rowsW_len k u hu)) (Nat.mul_le_mul_left _ (rowsW_fct k))
theorem exk_perm (u : List Nat) : (ext u).Perm (exk u) := by
  unfold ext exk nxL
  exact (List.reverse_perm _).map _
theorem flat_perm {f g : List Nat → List (List Nat)} (h : ∀ u, (f u).Perm (g u)) : ∀ l : List (List Nat), (l.flatMap f).Perm (l.flatMap g)
  | [] => List.Perm.refl _
  | x :: l => by
    rw [List.flatMap_cons, List.flatMap_cons]
    exact (h x).append (flat_perm h l)
theorem rows_perm : ∀ k, (rowsU k).Perm (rowsW k)
  | 0 => List.Perm.refl _
  | k + 1 => (flat_perm exk_perm (rowsU k)).trans ((rows_perm k).flatMap_right exk)
theorem rows_same (k : Nat) : (rowsU k).length = (rowsW k).length := (rows_perm k).length_eq
end Pr

/-! len(set(a list of tuples of numbers)), many tuples but few that differ. -/
namespace BW
open PySem PySem.Spec PyProof.Rows L2 Evl
section
variable {P : Program} {w : World} {A : Around} {R : Result → Shared → Prop} {I : Addr} {fp wr : List Addr} {G : Array GenState → Array GenState → Prop} {n : Nat} {Pv : Nat → Value → Prop} {St : Nat → Shared → Prop} {E : Value → Shared → Prop} {s : Shared}
def Kept (h h' : Heap) : Prop := ∀ b o, h.get? b = some o → h'.get? b = some o
def setTs (P : Program) (w : World) (h : Heap) (a : Addr) (ks : List (Addr × List Int)) (i : Nat) : Prop := ∃ L es ep t, SetTR P w h a L es ep t ∧ Got ks i L
/-- the loop of set.update; what differs is all in ds -/
theorem fillT (W : WalksS P w A.in1 I fp wr G n Pv St) {T : Addr} (hT : T ∉ fp) (ks : List (Addr × List Int)) (ds : List (List Int)) (hx : ks.length = n) (hd : ∀ p ∈ ks, p.2 ∈ ds) (few : ds.length < 63)
    (hval : ∀ i v, Pv i v → ∃ p, ks[i]? = some p ∧ v = .ref p.1) {h0 : Heap} (hk : ∀ p ∈ ks, IsT P w h0 p.2 p.1) (hT0 : h0.get? T = none) (hw0 : ∀ b ∈ wr, h0.get? b = none) (hu : A.in1.units < cLine) :
    ∀ (m i : Nat) (s : Shared), n - i = m → i ≤ n → St i s → Kept h0 s.heap → setTs P w s.heap T ks i →
      (∀ s', Moved (T :: wr) G s s' → Kept h0 s'.heap → setTs P w s'.heap T ks n → R (.ok (.ret .none)) s') → codeAny (model P w) A (.builtin "set.update.loop" ⟨[.ref T, .ref I], []⟩) R s := by
  have hw : T ∉ wr := fun z => hT (W.sub _ z)
  have more : ∀ b ∈ wr, b ∈ T :: wr := fun b z => List.mem_cons_of_mem _ z
  have stay : ∀ {s s' : Shared}, Moved wr G s s' → Kept h0 s.heap → Kept h0 s'.heap := fun mv k b o e => mv.heap b o (fun z => by rw [hw0 b z] at e; cases e) (k b o e)
  have sets : ∀ {s s' : Shared} {i : Nat}, Moved wr G s s' → Kept h0 s.heap → setTs P w s.heap T ks i → setTs P w s'.heap T ks i := fun mv k ⟨L, es, ep, t, S1, g⟩ =>
    ⟨L, es, ep, t, S1.keep (fun o e => mv.heap T o hw e) fun p hp => isT_keep (hk p (List.mem_of_mem_take (g.sub p hp))) (stay mv k), g⟩
  intro m
  induction m with
  | zero =>
    intro i s hm hi st k S1 hR
    obtain rfl : i = n := by omega
    refine codeAny_builtin PyProof.Rows.F.entry_set_update_loop ?_
    rw [Around.under_plainId PyProof.Rows.F.plain_set_update_loop _]
    show wpAny _ A.in1 (pyNext (.ref I) >>= _) _ _ s
    refine wpAny_bind (W.done s _ _ st fun s' mv => ?_)
    show wpAny _ A.in1 (ret Value.none) _ _ s'
    exact wpAny_pure (hR s' (mv.mono more) (stay mv k) (sets mv k S1))
  | succ m ih =>
    intro i s hm hi st k S1 hR
    have lt : i < n := by omega
    refine codeAny_builtin PyProof.Rows.F.entry_set_update_loop ?_
    rw [Around.under_plainId PyProof.Rows.F.plain_set_update_loop _]
    show wpAny _ A.in1 (pyNext (.ref I) >>= _) _ _ s
    refine wpAny_bind (W.item i s _ _ lt st fun v s' hv st' mv => ?_)
    obtain ⟨p, hp, rfl⟩ := hval i v hv
    have k1 := stay mv k
    obtain ⟨L, es, ep, t, S2, g⟩ := sets mv k S1
    have hpt : IsT P w s'.heap p.2 p.1 := isT_keep (hk p (List.mem_of_getElem? hp)) k1
    have lw : L.length ≤ ds.length := by
      have := Pr.sub_len (b := ds) S2.nd fun x hx2 => by
        obtain ⟨q, hq, rfl⟩ := List.mem_map.mp hx2
        exact hd q (List.mem_of_mem_take (g.sub q hq))
      rw [List.length_map] at this
      exact this
    show wpAny _ A.in1 (holding [Value.ref p.1] (setAdd T (.ref p.1)) >>= _) _ _ s'
    refine wpAny_bind (wpAny_holding ?_)
    unfold setAdd
    refine wpAny_holding ?_
    refine wpAny_bind (wpAny_pyHash_tuple hu hpt ?_)
    refine add_at (s := { s' with toks := s'.toks + (p.2.length + 1) }) S2 hpt hu (by omega) fun b h' L2 es2 ep2 t2 sb S3 c1 c2 => ?_
    have k2 : Kept h0 h' := fun b o e => (sb.2 b (fun z => by rw [z, hT0] at e; cases e)).trans (k1 b o e)
    have g2 : Got ks (i + 1) L2 := by
      by_cases c : p.2 ∈ L.map (·.2)
      · rw [c1 c]
        exact g.same hp c
      · exact g.more hp (c2 c)
    refine wpAny_pure ⟨plainId_quiet PyProof.Rows.F.plain_set_update_loop _, ih (i + 1) _ (by omega) lt (W.frame _ s' _ _ st' (Nat.le_add_right _ _) fun b hb o e => ?_) k2 ⟨L2, es2, ep2, t2, S3, g2⟩ fun s'' mv2 k3 S4 => hR s'' (Moved.trans W.gtrans ((mv.mono more).then_heap (Nat.le_add_right _ _) fun b o hb e => ?_) mv2) k3 S4⟩
    · exact (sb.2 b (fun z : b = T => hT (z ▸ hb))).trans e
    · exact (sb.2 b (fun z : b = T => hb (z ▸ List.mem_cons_self))).trans e
def emptySet (w : World) : Obj := { cls := .type "set", dict := none, data := .set #[] 0 (.fresh 0 0 (!w.params.followText "set-order")) }
theorem call_setT {l : Addr} {items : Array Value} (ks : List (Addr × List Int)) (ds : List (List Int)) {Q : Value → Shared → Prop} (hh : A.handled = none) (hl : s.heap.IsList l items) (hit : items.toList = ks.map fun p => Value.ref p.1)
    (hd : ∀ p ∈ ks, p.2 ∈ ds) (few : ds.length < 63) (hk : ∀ p ∈ ks, IsT P w s.heap p.2 p.1) (hu : A.units + 3 < cLine)
    (h : ∀ (h' : Heap) (tk : Nat), Kept s.heap h' → setTs P w h' s.heap.objs.size ks ks.length → Q (.ref s.heap.objs.size) { s with heap := h', toks := tk }) : wpAny (model P w) A (call (.type "set") [.ref l]) Q E s := by
  have hsz : ks.length = items.size := by
    have := congrArg List.length hit
    rw [List.length_map] at this
    exact this.symm
  obtain ⟨c, tl, hmro⟩ := PySem.F.called_set.mro
  have hmade := PySem.F.called_set.made
  have hsub := PySem.F.called_set.sub
  refine wpAny_call (codeAny_of_tree ?_)
  show wpAny _ _ (callAny (.type "set") _) _ _ _
  refine wpAny_pure ⟨Code.quiet_builtin _ (by decide +kernel), codeAny_builtin PySem.F.entry_type_call ?_⟩
  rw [Around.under_plain (weight_type_call_type "set" [.ref l] []) rfl]
  have z1 := PySem.F.called_set.notType
  have z2 := PySem.F.called_set.canCreate
  have z3 := PySem.F.typeCall_set_1 (.ref l)
  repeat (any_goals (first | assumption | wp_step))
  refine codeAny_mono (code_set_led1 (.ref l) (E := E) (Q₁ := fun obj z => obj = .ref s.heap.objs.size ∧ z = { s with heap := s.heap.push (emptySet w) }) ⟨rfl, rfl⟩) fun r z hr => ?_
  cases r with
  | error e => exact hr
  | ok fl =>
    cases fl with
    | ret obj =>
      obtain ⟨rfl, rfl⟩ := hr
      have at0 : (s.heap.push (emptySet w)).get? s.heap.objs.size = some (emptySet w) := Heap.get?_push_size _ rfl
      have ty0 : Shared.TypeIs { s with heap := s.heap.push (emptySet w) } (.ref s.heap.objs.size) "set" := ⟨_, at0, rfl⟩
      have z4 := PySem.F.called_set.init.lookup
      have z5 := PySem.F.called_set.init.bind (.ref s.heap.objs.size)
      repeat (any_goals (first | assumption | wp_step))
      refine codeAny_mono (codeAny_call_builtin (R := wants (fun r z => r = .none ∧ ∃ h' tk, z = { s with heap := h', toks := tk } ∧ Kept s.heap h' ∧ setTs P w h' s.heap.objs.size ks ks.length) E) PySem.F.called_set.init.plain PySem.F.entry_set_init (check_set_init_1 ty0 ?_)) fun r2 x2 hr2 => ?_
      · obtain ⟨⟨oc, od, oda, osl⟩, hol, hcl, nl, hdl⟩ := hl
        simp only at hcl hdl
        subst hcl
        subst hdl
        have hol2 : (s.heap.push (emptySet w)).get? l = some { cls := .type "list", dict := od, data := .seq items nl, slots := osl } := Heap.get?_push_of_some _ hol
        have z6 := PySem.F.sub_list_set
        have z7 := PySem.F.sub_list_frozenset
        have z8 : (Value.type "list" == Value.type "dict") = false := by decide
        have hl1 : (s.heap.push (emptySet w)).IsList l items := ⟨_, hol2, rfl, nl, rfl⟩
        have lt := Heap.lt_size hol
        unfold emptySet at at0 ty0 hol2 hl1 ⊢
        unfold Builtin.«set.__init__» noKeywords Builtin.Frozenset.updateFrom
        generalize hPI : pyIter = PI
        wp_walk
        subst hPI
        refine wpAny_pyIter_list hl1 ?_
        refine wpAny_bind (wpAny_runValue ?_)
        have sz1 : (s.heap.push (emptySet w)).objs.size = s.heap.objs.size + 1 := Heap.size_push ..
        unfold emptySet at sz1
        have out : ∀ b, s.heap.objs.size ≤ b → s.heap.get? b = none := fun b hb => by
          cases q : s.heap.get? b with
          | none => rfl
          | some o => exact absurd (Nat.lt_of_lt_of_le (Heap.lt_size q) hb) (Nat.lt_irrefl _)
        refine fillT (T := s.heap.objs.size) (h0 := s.heap) ((Walks.list (by simp [hh]) _ l (fun z => by rw [sz1] at z; exact absurd (z ▸ lt) (Nat.not_lt_of_lt (Nat.lt_succ_self _))) items).toS) (fun z => ?_) ks ds hsz hd few (fun i v hv => ?_) hk (out _ (Nat.le_refl _)) (fun b hb => out b ?_) hu (items.size - 0) 0 _ rfl (Nat.zero_le _)
          ⟨⟨_, Heap.get?_push_size _ rfl, rfl, rfl⟩, hl1.push _⟩ (fun b o e => Heap.get?_push_of_some _ (Heap.get?_push_of_some _ e)) ⟨[], #[], 0, _, setTR_fresh (Heap.get?_push_of_some _ at0), Got.zero ks⟩ fun s' mv k S2 => ?_
        · rcases List.mem_cons.mp z with z | z
          · exact absurd (z.trans sz1) (Nat.ne_of_lt (Nat.lt_succ_self _))
          · exact absurd (List.mem_singleton.mp z) (Nat.ne_of_gt lt)
        · have q : items.toList[i]? = some v := by
            rw [Array.getElem?_toList]
            exact hv
          rw [hit, List.getElem?_map] at q
          cases e : ks[i]? with
          | none => rw [e] at q; cases q
          | some p =>
            rw [e] at q
            exact ⟨p, rfl, (Option.some.inj q).symm⟩
        · rw [List.mem_singleton.mp hb, sz1]
          exact Nat.le_succ _
        · obtain ⟨h', g', d', tk', os'⟩ := s'
          obtain rfl : g' = s.gens := mv.gens
          obtain rfl : d' = s.drawn := mv.drawn
          obtain rfl : os' = s.os := mv.os
          show wpAny _ _ _ _ _ _
          refine wpAny_pure ?_
          show wpAny _ _ (ret Value.none) _ _ _
          rw [← hsz] at S2
          exact wpAny_pure ⟨rfl, h', tk', rfl, k, S2⟩
      · cases r2 with
        | error e => exact hr2
        | ok fl2 =>
          cases fl2 with
          | ret r =>
            obtain ⟨rfl, h', tk, rfl, k, S2⟩ := hr2
            repeat (any_goals (first | assumption | wp_step))
            exact h _ _ k S2
          | _ => exact hr2.elim
    | _ => exact hr.elim
end
/-- len(set(a list of tuples of numbers)) -/
def tLenSetT (K : PySem.W.Frag) (ta : TE) : TE := fun σ H Q => ta σ H fun x H1 => ∃ (l : Addr) (ks : List (Addr × List Int)), x = .ref l ∧ SqL K H1 l (ks.map fun p => V.ref p.1) ∧ (∀ p ∈ ks, SqT K H1 p.1 (p.2.map V.int)) ∧
  (met [] (ks.map (·.2))).length < 63 ∧ Q (.int ((met [] (ks.map (·.2))).length : Int)) H1
theorem got_met {P : Program} {w : World} {h : Heap} {a : Addr} {ks L : List (Addr × List Int)} {es : Array (Int × Value)} {ep : Nat} {t : SetTable} (S1 : SetTR P w h a L es ep t) (g : Got ks ks.length L) : L.length = (met [] (ks.map (·.2))).length := by
  have h1 := Pr.sub_len (a := L.map (·.2)) (b := met [] (ks.map (·.2))) S1.nd fun x hx => by
    obtain ⟨p, hp, rfl⟩ := List.mem_map.mp hx
    exact (mem_met _ _).mpr (.inr (List.mem_map.mpr ⟨p, List.mem_of_mem_take (g.sub p hp), rfl⟩))
  have h2 := Pr.sub_len (a := met [] (ks.map (·.2))) (b := L.map (·.2)) (met_nodup _ _ List.nodup_nil) fun x hx => by
    rcases (mem_met _ _).mp hx with z | z
    · cases z
    · obtain ⟨p, hp, rfl⟩ := List.mem_map.mp z
      exact g.all p (by rw [List.take_length]; exact hp)
  rw [List.length_map] at h1 h2
  omega
section
variable {X : Cx} {a : Expr} {ta : TE} {p p2 q pos : Pos}
theorem pe_lenSetT (hc : X.calm = true) (hu : X.A.units + 64 < cLine) (g1 : Gl X "len") (m1 : X.mg "len" = none) (g2 : Gl X "set") (m2 : X.mg "set" = none) (ha : PE X a ta) (na : starEach [a] X.env = (false, eval a X.env) :: starEach [] X.env := by rfl) :
    PE X (.Call (.Name "len" p) [.Call (.Name "set" p2) [a] [] q] [] pos) (tLenSetT X.K ta) := by
  refine ⟨fun pins s σ H Q I h => ?_⟩
  refine Call_ (ld_blt I g1 m1 boot_len ?_)
  refine PyProof.Rows.callWith_builtin1 (PyProof.Rows.args_cons ?_ rfl) rfl rfl
  refine Call_ (ld_blt I g2 m2 boot_set ?_)
  refine PyProof.Rows.callWith_type1 (PyProof.Rows.args_cons (thn (ha.run pins s σ H _ I h) fun v z ⟨x, H1, I1, r1, q1⟩ => PyProof.Rows.args_nil ?_) na) na rfl
  obtain ⟨l, ks, rfl, hl, hk, few, q1⟩ := q1
  cases r1
  obtain ⟨its, rv, pl, hz⟩ := I1.list hl
  refine call_setT (P := X.prog) (w := X.w) ks (met [] (ks.map (·.2))) (I1.ok.hd hc) pl.isList (by simpa using refs_of_vals rv) (fun p hp => (mem_met _ _).mpr (.inr (List.mem_map.mpr ⟨p, hp, rfl⟩))) few (fun p hp => I1.isT (hk p hp)) (by omega) fun h' tk k S1 => ?_
  refine PyProof.Rows.args_nil ?_
  obtain ⟨L, es, ep, t, S2, g⟩ := S1
  obtain ⟨o, ho, hex, hd⟩ := S2.ob
  have hn := SetTR.size (s := { z with heap := h', toks := tk }) S2
  rw [got_met S2 g] at hn
  have I2 : Inv X pins σ H1 { z with heap := h', toks := tk } := I1.kept k
  exact call_len_set ho hex hd (SetTR.fits (s := { z with heap := h', toks := tk }) S2) (by rw [hn]; omega) ⟨.int ((met [] (ks.map (·.2))).length : Int), H1, I2.tok _, ⟨_, by rw [hn]⟩, q1⟩
end
section
variable {K : PySem.W.Frag} {σ : L2.St} {H H' : Hp} {ta tb te to : TE}
/-- lists of tuples, each told by a list of numbers -/
def RowV (K : PySem.W.Frag) (k : List Nat) (v : V) (H : Hp) : Prop := ∃ q, v = .ref q ∧ SqT K H q (natV k)
theorem rowV_ks : ∀ {ks : List (List Nat)} {ys : List V}, Paired (fun k v => RowV K k v H) ks ys → ∃ zs : List (Addr × List Int), ys = zs.map (fun p => V.ref p.1) ∧ zs.map (·.2) = ks.map Pr.intsL ∧ ∀ p ∈ zs, SqT K H p.1 (p.2.map V.int)
  | _, _, .nil => ⟨[], rfl, rfl, fun _ h => nomatch h⟩
  | k :: ks, _, .cons ⟨q, e, hq⟩ t => by
    obtain ⟨zs, h1, h2, h3⟩ := rowV_ks t
    refine ⟨(q, Pr.intsL k) :: zs, by rw [h1, e]; rfl, by rw [List.map_cons, List.map_cons, h2], fun p hp => ?_⟩
    rcases List.mem_cons.mp hp with rfl | hp
    · show SqT K H q ((Pr.intsL k).map V.int)
      rw [← natV_ints]
      exact hq
    · exact h3 p hp
theorem intsL_inj (a b : List Nat) (h : Pr.intsL a = Pr.intsL b) : a = b := by
  unfold Pr.intsL at h
  exact List.map_inj_right (fun x y e => by omega) |>.mp h
theorem ev_lenSetT {ks : List (List Nat)} (h : Rg (ta σ) H (fun v H2 => ∃ p ys, v = .ref p ∧ H2 p = some (.lst ys) ∧ Paired (fun k v => RowV K k v H2) ks ys)) (hl : (met [] ks).length < 63) : Ev (tLenSetT K ta) σ H (.int ((met [] ks).length : Int)) := fun H1 e Q q =>
  h H1 e _ fun v H2 e2 p => by
    obtain ⟨p, ys, rfl, hp, hr⟩ := p
    obtain ⟨zs, rfl, h2, h3⟩ := rowV_ks hr
    have em : (met [] (zs.map (·.2))).length = (met [] ks).length := by
      rw [h2, show met [] (ks.map Pr.intsL) = (met [] ks).map Pr.intsL from met_map intsL_inj ks [], List.length_map]
    refine ⟨p, zs, rfl, sq_of hp, h3, by omega, ?_⟩
    rw [em]
    exact q H2 e2
end
/-- how many rows differ among the words of a length -/
theorem rows_met : ∀ n, n ≤ 6 → (met [] ((wordsN n).map Pr.brow)).length = (Pr.rowsU n).length ∧ (Pr.rowsU n).length < 63 := by
  have h : ∀ n ∈ List.range 7, (met [] ((wordsN n).map Pr.brow)).length = (Pr.rowsU n).length ∧ (Pr.rowsU n).length < 63 := by decide +kernel
  exact fun n hn => h n (List.mem_range.mpr (by omega))
end BW

/-! Lists of tuples that grow; a dict that is walked; sorted numbers of a dict. -/
namespace BW
open PySem PySem.Spec PyProof.Rows L2 Evl
def rSortD : List V → Hp → VK → Prop := fun xs H Q => ∃ (a : Addr) (kvs : List (Key × V)) (ks : List Int), xs = [.ref a] ∧ Rd H a (.dK kvs) ∧ kvs.map (·.1) = ks.map Sum.inl ∧ ks.length < 64 ∧ ∀ (ys : List Int) (p : Addr), ys.Perm ks → ys.Pairwise (· ≤ ·) → H p = none → Q (.ref p) (upd H p (.lst (ys.map V.int)))
theorem cSortD {X : Cx} (hc : X.calm = true) : CallR X (.builtin "sorted") rSortD := call_sortedDI hc
theorem paired_at {α β : Type} {F : α → β → Prop} : ∀ {l₁ : List α} {l₂ : List β} {i : Nat} {y : β}, Paired F l₁ l₂ → l₂[i]? = some y → ∃ x, l₁[i]? = some x ∧ F x y
  | _, _, i, y, .nil, h => by simp at h
  | _, _, 0, y, .cons r t, h => by
    rw [List.getElem?_cons_zero] at h
    cases h
    exact ⟨_, rfl, r⟩
  | _, _, i + 1, y, .cons r t, h => by
    rw [List.getElem?_cons_succ] at h
    obtain ⟨x, h1, h2⟩ := paired_at t h
    exact ⟨x, by rw [List.getElem?_cons_succ]; exact h1, h2⟩
theorem paired_app {α β : Type} {F : α → β → Prop} : ∀ {a : List α} {b : List β} {c : List α} {d : List β}, Paired F a b → Paired F c d → Paired F (a ++ c) (b ++ d)
  | _, _, _, _, .nil, q => q
  | _, _, _, _, .cons r t, q => .cons r (paired_app t q)
theorem paired_mapL {α β γ : Type} {F : β → γ → Prop} {g : α → β} : ∀ {l : List α} {ys : List γ}, Paired (fun a y => F (g a) y) l ys → Paired F (l.map g) ys
  | _, _, .nil => .nil
  | _, _, .cons r t => .cons r (paired_mapL t)
section
variable {K : PySem.W.Frag} {σ : L2.St} {H H' : Hp} {ta tb td te to t : TE} {D : Ends} {tz : TS} {a d : Addr} {xs : List V}
/-- a tuple stands when another thing changes -/
theorem sq_upd {o : HO} (h : SqT K H a xs) (hd : ∀ ys, ¬ Rd H d (.tup ys)) : SqT K (upd H d o) a xs := by
  rcases h with h | h
  · refine .inl ?_
    have ne : a ≠ d := fun z => hd xs (z ▸ h)
    rcases h with h | ⟨x, h⟩
    · exact .inl (by rw [upd_ne ne]; exact h)
    · exact .inr ⟨x, by rw [upd_ne ne]; exact h⟩
  · exact .inr h
theorem nrd_dK {kvs : List (Key × V)} (h : H d = some (.dK kvs)) : ∀ ys, ¬ Rd H d (.tup ys) := fun ys z => by
  rcases z with z | ⟨_, z⟩ <;> (rw [h] at z; cases z)
theorem nrd_frz {od : Obj} {kvs : List (Key × V)} (h : H d = some (.frz od (.dK kvs))) : ∀ ys, ¬ Rd H d (.tup ys) := fun ys z => by
  rcases z with z | ⟨_, z⟩ <;> (rw [h] at z; cases z)
theorem kp_t {v : V} {k : List Nat} (e : Kp H H') (h : RowV K k v H) : RowV K k v H' := by
  obtain ⟨q, rfl, hq⟩ := h
  exact ⟨q, rfl, e.t hq⟩
/-- a list of one thing that is made on the way -/
theorem rg_lst1 {P : V → Hp → Prop} (h : Rg (ta σ) H P) (hP : ∀ v H1 H2, Ex H1 H2 → P v H1 → P v H2) : Rg (tLst (tCons ta tNil) σ) H (fun v H2 => ∃ p x, v = .ref p ∧ H2 p = some (.lst [x]) ∧ P x H2) := fun H1 e Q q => h H1 e _ fun x H2 e2 px =>
  ⟨sz (by show 1 ≤ _; decide), fun p hp => q _ _ (e2.trans (Ex.new hp)) ⟨p, x, rfl, upd_same, hP x H2 _ (Ex.new hp) px⟩⟩
/-- a pair of a tuple that is made on the way, and a scalar -/
theorem rg_tup2 {y : V} (ha : Rg (ta σ) H (isT K xs)) (hb : ∀ H1, Ex H H1 → Ev tb σ H1 y) : Rg (tTup (tCons ta (tCons tb tNil)) σ) H (fun v H2 => ∃ q r, v = .ref q ∧ SqT K H2 q [.ref r, y] ∧ SqT K H2 r xs) := fun H1 e Q q =>
  ha H1 e _ fun x H2 e2 px => hb H2 (e.trans e2) H2 (Ex.refl H2) _ fun H3 e3 => by
    obtain ⟨r, rfl, hr⟩ := px
    exact ⟨sz (by show 2 ≤ _; decide), fun p hp => q _ _ ((e2.trans e3).trans (Ex.new hp)) ⟨p, r, rfl, st_of upd_same, ex_t (e3.trans (Ex.new hp)) hr⟩⟩
/-- xs.extend(a list made on the way) -/
theorem s_extR {l : Addr} {b : Nat} {P : List V → Hp → Prop} (hl : H l = some (.lst xs)) (ha : Ev ta σ H (.ref l)) (h : Rg (te σ) H (fun v H2 => ∃ p ys, v = .ref p ∧ H2 p = some (.lst ys) ∧ ys.length ≤ b ∧ P ys H2)) (hz : xs.length + b ≤ 1000000)
    (k : ∀ ys H1, Ex H H1 → H1 l = some (.lst xs) → P ys H1 → D.nx σ (upd H1 l (.lst (xs ++ ys)))) : tDrop (tBM K "list" rExtend ta (tCons te tNil)) D σ H := ha H (Ex.refl H) _ fun H1 e1 =>
  ⟨.inl ⟨rfl, xs, sq_of (e1 l _ hl)⟩, (h.mono e1).go fun v H2 e2 p => by
    obtain ⟨p, ys, rfl, hp, hb, hP⟩ := p
    exact ⟨l, p, xs, ys, rfl, rfl, (e1.trans e2) l _ hl, hp, sz (by omega), k ys H2 (e1.trans e2) ((e1.trans e2) l _ hl) hP⟩⟩
/-- xs + (a list made on the way) -/
theorem rg_catR {b : Nat} {P : List V → Hp → Prop} (ha : Rg (ta σ) H (isN xs)) (hb : ∀ H1, Ex H H1 → Rg (tb σ) H1 (fun v H2 => ∃ p ys, v = .ref p ∧ H2 p = some (.lst ys) ∧ ys.length ≤ b ∧ P ys H2)) (hP : ∀ ys H1 H2, Ex H1 H2 → P ys H1 → P ys H2) (hz : xs.length + b ≤ 1000000) :
    Rg (tOp L2.rCat ta tb σ) H (fun v H2 => ∃ p ys, v = .ref p ∧ H2 p = some (.lst (xs ++ ys)) ∧ P ys H2) := fun H1 e Q q => ha H1 e _ fun x H2 e2 px => hb H2 (e.trans e2) H2 (Ex.refl H2) _ fun y H3 e3 py => by
  obtain ⟨p, rfl, h1⟩ := px
  obtain ⟨r, ys, rfl, h2, hl, h3⟩ := py
  exact ⟨p, r, xs, ys, rfl, rfl, e3 p _ h1, h2, sz (by omega), fun l hl => q _ _ ((e2.trans e3).trans (Ex.new hl)) ⟨l, ys, rfl, upd_same, hP ys H3 _ (Ex.new hl) h3⟩⟩
/-! ### a dict that is walked -/
theorem rg_lockE {u : HO} {P P' : V → Hp → Prop} (hd : H d = some u) (hm : Mut (some u)) (h : ∀ od H1, Ex H H1 → Rg (t σ) (upd H1 d (.frz od u)) P) (hP : ∀ od v H2, H2 d = some (.frz od u) → P v H2 → P' v (upd H2 d u)) : Rg (tLockE t σ) H P' := fun H1 e Q q =>
  ⟨d, u, e d _ hd, hm, fun od => h od H1 e _ (Ex.refl _) _ fun v H2 e2 p => ⟨e2 d _ upd_same, q v _ (fun a o ha => by
    by_cases z : a = d
    · subst z
      rw [upd_same]
      exact (e a _ hd).symm.trans ha
    · rw [upd_ne z]
      refine e2 a o ?_
      rw [upd_ne z]
      exact ha) (hP od v H2 (e2 d _ upd_same) p)⟩⟩
theorem src_keys {od : Obj} {ps : List (Nat × Nat)} (h : Ev td σ H (.ref d)) (hd : H d = some (.frz od (.dK (dD ps)))) : Src (iKeys td) σ H (natV (ps.map (·.1))) := fun H1 e R r => h H1 e _ fun H2 e2 =>
  ⟨d, od, rfl, .inl ⟨dD ps, (e.trans e2) d _ hd, r _ H2 e2 (by
    have el : (natV (ps.map (·.1))).length = (dD ps).length := by
      rw [List.length_map, List.length_map, dD_len]
    rw [el]
    exact (walk_keys (d := d) (o := od) (kvs := dD ps)).mono (fun H3 e3 => ((e.trans e2).trans e3) d _ hd) fun i H x H' _ _ y => ⟨y.1, by
      obtain ⟨k, v, hk, rfl⟩ := y.2
      unfold dD at hk
      rw [List.getElem?_map] at hk
      unfold natV
      rw [List.getElem?_map, List.getElem?_map]
      cases hp : ps[i]? with
      | none => rw [hp] at hk; cases hk
      | some p =>
        rw [hp] at hk
        cases hk
        rfl⟩)⟩⟩
theorem ev_dgetF {od : Obj} {ps : List (Nat × Nat)} {n : Int} {c : Nat} (hd : Ev td σ H (.ref d)) (hy : Ev te σ H (.int n)) (h : H d = some (.frz od (.dK (dD ps)))) (hc : Pr.lk ps n = some c) : Ev (tDGet td te) σ H (.str (S [c])) := fun H1 e Q q =>
  hd H1 e _ fun H2 e2 => hy H2 (e.trans e2) _ fun H3 e3 => ⟨d, .str (S [c]), rfl, .inl ⟨dD ps, .inl n, .inr ⟨od, ((e.trans e2).trans e3) d _ h⟩, rfl, by
    rw [dD_val, hc]
    rfl⟩, q H3 (e2.trans e3)⟩
theorem rg_sortD {u : List Nat} (h : Rg (ta σ) H (isDo (Pr.chL u))) (hl : u.length ≤ 14) : Rg (tCB rSortD (tCons ta tNil) σ) H (isN (natV (Pr.nxL u))) := rg_cb1 h fun x H1 e p H2 e2 Q q => by
  obtain ⟨p, rfl, hp⟩ := p
  have kl := Pr.keysL_len u
  refine ⟨p, dD (Pr.chL u), Pr.intsL (Pr.keysL u), rfl, .inl (e2 p _ hp), ?_, by unfold Pr.intsL; rw [List.length_map]; omega, fun ys r h1 h2 hr => q _ _ (Ex.new hr) ⟨r, rfl, ?_⟩⟩
  · unfold dD Pr.intsL Pr.keysL
    rw [List.map_map, List.map_map, List.map_map]
    rfl
  · rw [upd_same, Pr.sorted_nx h1 h2, natV_ints]
/-- a row with its word -/
def RowW (K : PySem.W.Frag) (u : List Nat) (v : V) (H : Hp) : Prop := ∃ q r, v = .ref q ∧ SqT K H q [.ref r, .str (S u)] ∧ SqT K H r (natV (Pr.brow u))
theorem kp_w {v : V} {u : List Nat} (e : Kp H H') (h : RowW K u v H) : RowW K u v H' := by
  obtain ⟨q, r, rfl, h1, h2⟩ := h
  exact ⟨q, r, rfl, e.t h1, e.t h2⟩
theorem upd_w {v : V} {u : List Nat} {o : HO} (hd : ∀ ys, ¬ Rd H d (.tup ys)) (h : RowW K u v H) : RowW K u v (upd H d o) := by
  obtain ⟨q, r, rfl, h1, h2⟩ := h
  exact ⟨q, r, rfl, sq_upd h1 hd, sq_upd h2 hd⟩
theorem natV_row {u : List Nat} {n : Nat} (h : n ∈ Pr.keysL u) : natV (Pr.brow u) ++ [V.int (n : Int)] = natV (Pr.brow (u ++ [Pr.ch1 u n])) := by rw [Pr.brow_ch1 h, natV_snocX]
/-- none of them: [.. if ..] != [] -/
theorem ev_neNo {α : Type} {wi : TI} {vs : List Nat} {tt : TT} {n : Nat} {l : List α} {inj : α → V} (hs : Src wi σ H (l.map inj)) (hz : l.length ≤ 100000) (hw : ∀ x, wipe ((wipe σ vs).set n (some x)) vs = wipe σ vs)
    (ht : ∀ a ∈ l, ∀ H1, Ex H H1 → EvT tt ((wipe σ vs).set n (some (inj a))) H1 false) : Ev (tOp (rNeD K) (tLc wi (gName n) tt te vs) (tLst tNil)) σ H (.bl false) :=
  ev_is (ev_neE (a := []) ((rg_lcV l inj (fun _ => false) (fun _ => V.non) hs hz hw ht fun _ _ h => nomatch h).imp fun v H2 _ p => by
    obtain ⟨p, e, _, hp⟩ := p
    rw [show l.filter (fun _ => false) = [] by simp] at hp
    exact ⟨p, e, hp⟩)) rfl
end
end BW

namespace BW
open PySem PySem.Spec PyProof.Rows L2 Evl

def topS (i : Nat) : Stmt := PySem.Challenge.pw_borderrow_k22_whole_what_may_come_next.main.body.getD i (.Pass ⟨0, 0, 0, 0⟩)
abbrev s_l_cell_at : Stmt := topS 9
abbrev N_l_cell_at : List Str := ["_law_script", "_law_k"]
theorem sc_l_cell_at : FnScope N_l_cell_at ["_law_script", "_law_k"] (defScope s_l_cell_at) := ⟨rfl, rfl, rfl, by decide +kernel, rfl, by decide +kernel, by decide +kernel⟩
abbrev s_l_drawn : Stmt := topS 11
abbrev N_l_drawn : List Str := ["_law_number", "_law_k", "_law_drawn_here"]
theorem sc_l_drawn : FnScope N_l_drawn ["_law_number", "_law_k"] (defScope s_l_drawn) := ⟨rfl, rfl, rfl, by decide +kernel, rfl, by decide +kernel, by decide +kernel⟩
abbrev s_l_border : Stmt := topS 13
abbrev N_l_border : List Str := ["_law_word", "_law_size"]
theorem sc_l_border : FnScope N_l_border ["_law_word"] (defScope s_l_border) := ⟨rfl, rfl, rfl, by decide +kernel, rfl, by decide +kernel, by decide +kernel⟩
abbrev s_l_some : Stmt := topS 15
abbrev N_l_some : List Str := ["_law_row", "_law_word", "_law_found", "_law_size", "_law_met", "_law_letter"]
theorem sc_l_some : FnScope N_l_some ["_law_row", "_law_word"] (defScope s_l_some) := ⟨rfl, rfl, rfl, by decide +kernel, rfl, by decide +kernel, by decide +kernel⟩
abbrev s_l_words : Stmt := topS 16
abbrev N_l_words : List Str := ["_law_size", "_law_found", "_law_k", "_law_longer", "_law_word", "_law_many", "_law_letter"]
theorem sc_l_words : FnScope N_l_words ["_law_size"] (defScope s_l_words) := ⟨rfl, rfl, rfl, by decide +kernel, rfl, by decide +kernel, by decide +kernel⟩
abbrev s_chain_of : Stmt := topS 2
abbrev N_chain_of : List Str := ["row", "size", "found", "here"]
theorem sc_chain_of : FnScope N_chain_of ["row", "size"] (defScope s_chain_of) := ⟨rfl, rfl, rfl, by decide +kernel, rfl, by decide +kernel, by decide +kernel⟩
abbrev s_l_mixed : Stmt := topS 10
abbrev N_l_mixed : List Str := ["_law_script", "_law_k", "_law_drawn_here"]
theorem sc_l_mixed : FnScope N_l_mixed ["_law_script", "_law_k"] (defScope s_l_mixed) := ⟨rfl, rfl, rfl, by decide +kernel, rfl, by decide +kernel, by decide +kernel⟩
abbrev s_l_text : Stmt := topS 12
abbrev N_l_text : List Str := ["_law_number", "_law_most", "_law_letters", "_law_many", "_law_found", "_law_k", "_law_by"]
theorem sc_l_text : FnScope N_l_text ["_law_number", "_law_most"] (defScope s_l_text) := ⟨rfl, rfl, rfl, by decide +kernel, rfl, by decide +kernel, by decide +kernel⟩
abbrev s_l_border_row : Stmt := topS 14
abbrev N_l_border_row : List Str := ["_law_word", "_law_size"]
theorem sc_l_border_row : FnScope N_l_border_row ["_law_word"] (defScope s_l_border_row) := ⟨rfl, rfl, rfl, by decide +kernel, rfl, by decide +kernel, by decide +kernel⟩
abbrev s_choices : Stmt := topS 4
abbrev N_choices : List Str := ["row", "word", "size", "found", "met", "border", "letter"]
theorem sc_choices : FnScope N_choices ["row", "word"] (defScope s_choices) := ⟨rfl, rfl, rfl, by decide +kernel, rfl, by decide +kernel, by decide +kernel⟩
abbrev s_word_of : Stmt := topS 5
abbrev N_word_of : List Str := ["row", "word", "at", "number", "some"]
theorem sc_word_of : FnScope N_word_of ["row"] (defScope s_word_of) := ⟨rfl, rfl, rfl, by decide +kernel, rfl, by decide +kernel, by decide +kernel⟩
abbrev s_nexts : Stmt := topS 6
abbrev N_nexts : List Str := ["row"]
theorem sc_nexts : FnScope N_nexts ["row"] (defScope s_nexts) := ⟨rfl, rfl, rfl, by decide +kernel, rfl, by decide +kernel, by decide +kernel⟩
abbrev s_count_rows : Stmt := topS 7
abbrev N_count_rows : List Str := ["length", "some", "size", "longer", "row", "number"]
theorem sc_count_rows : FnScope N_count_rows ["length"] (defScope s_count_rows) := ⟨rfl, rfl, rfl, by decide +kernel, rfl, by decide +kernel, by decide +kernel⟩
abbrev s_law : Stmt := topS 17
abbrev N_law : List Str := ["_law_script", "_law_word", "_law_row", "_law_found", "_law_due", "_law_length", "_law_many", "_law_rows", "_law_k", "_law_longer", "_law_here", "_law_some_word", "_law_some_here", "_law_number"]
theorem sc_law : FnScope N_law ["_law_script"] (defScope s_law) := ⟨rfl, rfl, rfl, by decide +kernel, rfl, by decide +kernel, by decide +kernel⟩
structure Tx (mg : Str → Option Value) : Prop where
  m_bool : mg "bool" = none
  m_enumerate : mg "enumerate" = none
  m_isinstance : mg "isinstance" = none
  m_len : mg "len" = none
  m_max : mg "max" = none
  m_range : mg "range" = none
  m_set : mg "set" = none
  m_sorted : mg "sorted" = none
  m_tuple : mg "tuple" = none
  g_LETTERS : ∃ t, mg "LETTERS" = some (.str "abcdefghijklmnopqrstuvwxyz" t)
structure Cal (P : Program) (w : World) (K : PySem.W.Frag) (mg : Str → Option Value) (base : Heap) (k : Nat) (x : Str) (ps : List Str) (sp : Sp) : Prop where
  ex : ∃ (f : Addr) (fd : FuncData), FnOk P w K mg base CX0 k f fd ps sp ∧ mg x = some (.ref f) ∧ PySem.W.keepIn K (.ref f) = true ∧ Binds K fd ps []
structure Dfn (K : PySem.W.Frag) (mg : Str → Option Value) (x : Str) (st : Stmt) (ps : List Str) : Prop where
  ex : ∃ (f : Addr) (fd : FuncData), Fun K x x st f fd ∧ mg x = some (.ref f) ∧ Binds K fd ps []
section
variable {P : Program} {w : World} {K : PySem.W.Frag} {mg : Str → Option Value} {base : Heap}
/-! ### _law_cell_at -/
def cellZ (ns : List Int) (k : Nat) : Int := ns.getD k 0
def sp_l_cell_at (K : PySem.W.Frag) : Sp := fun vs H Q _ => ∃ (a : Addr) (ns : List Int) (k : Nat), vs = [.ref a, .int (k : Int)] ∧ SqL K H a (ns.map V.int) ∧ RetV (.int (cellZ ns k)) H Q
theorem ok_l_cell_at (T : Tx mg) (D : Dfn K mg "_law_cell_at" s_l_cell_at ["_law_script", "_law_k"])  : Cal P w K mg base 1 "_law_cell_at" ["_law_script", "_law_k"] (sp_l_cell_at K) := by
  obtain ⟨f, fd, F, mF, bF⟩ := D.ex
  refine ⟨f, fd, F.ok sc_l_cell_at (fun vs H Q E h => ?_) (fun cdv A outer s H vs Q E hr h => ?_), mF, F.kp, bF⟩
  · obtain ⟨a, ns, k, rfl, hS, q⟩ := h
    rfl
  · have hu := hu_of hr
    obtain ⟨a, ns, k, rfl, hS, q⟩ := h
    refine ⟨_, (pss_cons (ps_if (pt_cmpR oLt (pv 1) (pe_callB (show CallR _ (.builtin "len") (rLenQ K) from cLenQ) (by rfl) T.m_len (by decide +kernel) (pa_cons (pv 0) pa_nil)) (nomark _)) (pss_one (ps_ret (pe_ix (show IxR _ (rIxL K) from ix_list) (pv 0) (pv 1) (fun _ _ => rfl)))) pss_nil)
      (pss_one (ps_ret pe_int))), ?_⟩
    refine q_when (et_test (ev_lt (ev_var rfl) (ev_lenL (ev_var rfl) hS))) (fun hb H1 e1 => ?_) (fun hb H1 e1 => ?_)
    · have hk : k < ns.length := by
        have := of_decide_eq_true hb
        rw [List.length_map] at this
        omega
      refine s_ret (ev_op (ev_var rfl) (ev_var rfl) (rv_ixL (ex_l e1 hS) (atI_nat (v := V.int (cellZ ns k)) ?_))) fun H2 e2 => q H2 (e1.trans e2)
      rw [List.getElem?_map, List.getElem?_eq_getElem hk]
      unfold cellZ
      rw [List.getD_eq_getElem?_getD, List.getElem?_eq_getElem hk]
      rfl
    · have hk : ns.length ≤ k := by
        have := of_decide_eq_false hb
        rw [List.length_map] at this
        omega
      have e0 : cellZ ns k = 0 := by
        unfold cellZ
        rw [List.getD_eq_getElem?_getD, List.getElem?_eq_none hk]
        rfl
      rw [e0] at q
      exact s_ret ev_c fun H2 e2 => q H2 (e1.trans e2)
/-! ### _law_drawn -/
def hashE (x : Int) : Int := x * 69621 % 2147483647
def drawZ (n : Int) (k : Nat) : Int := (hashE (n + 104729 * (k : Int) + 17) * hashE (n + 104729 * (k : Int) + 17) + 3 * hashE (n + 104729 * (k : Int) + 17) + (k : Int)) % 2147483629
theorem hashE_lt (x : Int) : 0 ≤ hashE x ∧ hashE x < 2147483647 := ⟨Int.emod_nonneg _ (by decide), Int.emod_lt_of_pos _ (by decide)⟩
theorem drawZ_lt (n : Int) (k : Nat) : 0 ≤ drawZ n k ∧ drawZ n k < 2147483629 := ⟨Int.emod_nonneg _ (by decide), Int.emod_lt_of_pos _ (by decide)⟩
def sp_l_drawn (K : PySem.W.Frag) : Sp := fun vs H Q _ => ∃ (n : Int) (k : Nat), vs = [.int n, .int (k : Int)] ∧ k < 1000 ∧ RetV (.int (drawZ n k)) H Q
theorem sv_drawn {K : PySem.W.Frag} {H : Hp} {n : Int} {k : Nat} (hk : k < 1000) : SpV (sp_l_drawn K) [.int n, .int (k : Int)] H (.int (drawZ n k)) :=
  fun H1 e Q q E => ⟨n, k, rfl, hk, q⟩
theorem ok_l_drawn (T : Tx mg) (D : Dfn K mg "_law_drawn" s_l_drawn ["_law_number", "_law_k"])  : Cal P w K mg base 1 "_law_drawn" ["_law_number", "_law_k"] (sp_l_drawn K) := by
  obtain ⟨f, fd, F, mF, bF⟩ := D.ex
  refine ⟨f, fd, F.ok sc_l_drawn (fun vs H Q E h => ?_) (fun cdv A outer s H vs Q E hr h => ?_), mF, F.kp, bF⟩
  · obtain ⟨n, k, rfl, hk, q⟩ := h
    rfl
  · have hu := hu_of hr
    obtain ⟨n, k, rfl, hk, q⟩ := h
    refine ⟨_, (pss_cons (ps_set (i := 2) sc_l_drawn.nd rfl (Or.inl rfl) (pe_op oMod (pe_op oMul (pe_op oAdd (pe_op oAdd (pv 0) (pe_op oMul pe_int (pv 1))) pe_int) pe_int) pe_int))
      (pss_one (ps_ret (pe_op oMod (pe_op oAdd (pe_op oAdd (pe_op oMul (pv 2) (pv 2)) (pe_op oMul pe_int (pv 2))) (pv 1)) pe_int)))), ?_⟩
    have b := hashE_lt (n + 104729 * (k : Int) + 17)
    refine q_asg (ev_mod (ev_mul (ev_add (ev_add (ev_var rfl) (ev_mul ev_c (ev_var rfl) (.inl (by omega)))) ev_c) ev_c (.inr (by omega))) ev_c (by omega)) fun H1 e1 => ?_
    exact s_ret (ev_mod (ev_add (ev_add (ev_mul (ev_var rfl) (ev_var rfl) (.inl (by show _ < hashE _ ∧ hashE _ < _; omega))) (ev_mul ev_c (ev_var rfl) (.inl (by omega)))) (ev_var rfl)) ev_c (by omega)) fun H2 e2 => q H2 (e1.trans e2)
/-! ### _law_border -/
def sp_l_border (K : PySem.W.Frag) : Sp := fun vs H Q _ => ∃ w : List Nat, vs = [.str (S w)] ∧ w.length ≤ 1000 ∧ 0 < w.length ∧ RetV (.int (Pr.gb w : Int)) H Q
theorem sv_l_border {K : PySem.W.Frag} {H : Hp} {w : List Nat} (h : w.length ≤ 1000) (h0 : 0 < w.length) : SpV (sp_l_border K) [.str (S w)] H (.int (Pr.gb w : Int)) := fun H1 e Q q E => ⟨w, rfl, h, h0, q⟩
theorem ends_isB {w : List Nat} {k : Nat} (hk : k ≤ w.length) : (decide ((w.take k).length ≤ w.length) && ((w.drop (w.length - (w.take k).length)).take (w.take k).length == w.take k)) = Pr.isB w k := by
  have hl := Pr.take_len hk
  rw [hl, decide_eq_true hk, Bool.true_and, List.take_of_length_le (l := w.drop (w.length - k)) (by rw [List.length_drop]; omega), Bool.eq_iff_iff, Pr.isB_iff, beq_iff_eq]
  exact ⟨fun h => h.symm, fun h => h.symm⟩
theorem ok_l_border (T : Tx mg) (D : Dfn K mg "_law_border" s_l_border ["_law_word"])  : Cal P w K mg base 1 "_law_border" ["_law_word"] (sp_l_border K) := by
  obtain ⟨f, fd, F, mF, bF⟩ := D.ex
  refine ⟨f, fd, F.ok sc_l_border (fun vs H Q E h => ?_) (fun cdv A outer s H vs Q E hr h => ?_), mF, F.kp, bF⟩
  · obtain ⟨w, rfl, hw, h0, q⟩ := h
    rfl
  · have hu := hu_of hr
    obtain ⟨w, rfl, hw, h0, q⟩ := h
    refine ⟨_, (pss_one (ps_ret (pe_callB (show CallR _ (.builtin "max") (rMaxL K) from (cMaxL rfl)) (by rfl) T.m_max (by decide +kernel) (pa_cons (pe_lc (own := [("_law_size", 1)]) (g := gName 1) rfl sc_l_border.nd (pi_range1 (by rfl) T.m_range (pa_cons (pe_callB cLenC (by rfl) T.m_len (by decide +kernel) (pa_cons (pv 0) pa_nil)) pa_nil)) (blkOk_by (own := [("_law_size", 1)]) (N := N_l_border) (sc := defScope s_l_border) (by decide +kernel)) (fun _ _ _ _ _ => pg_name (i := 1) sc_l_border.nd rfl (by first | exact Or.inl rfl | exact Or.inr rfl)) (fun _ _ _ _ _ => pts_one (pt_val (pe_m1 PySem.F.slot_str_endswith PySem.F.type_str_endswith mEnds (pv 0) (pe_slice slStr (pv 0) po_none (po_some (pv 1)))))) (fun _ _ _ _ _ => (pv 1))) pa_nil)))), ?_⟩
    obtain ⟨g1, g2, g3⟩ := Pr.gb_spec h0
    refine s_ret (ev_maxLn (l := (List.range w.length).filter (Pr.isB w)) ((rg_lcV (List.range w.length) (fun (k : Nat) => V.int (k : Int)) (Pr.isB w) (fun (k : Nat) => V.int (k : Int)) (src_range1 (ea_cons (ev_lenC (ev_var rfl) (by omega)) ea_nil) (by omega)) (by rw [List.length_range]; omega) (fun x => rfl) (fun k hk H1 e1 => ?_) (fun k hk _ H1 e1 => ev_var rfl)).imp fun v H2 _ p => ?_)
      (List.mem_filter.mpr ⟨List.mem_range.mpr g1, g2⟩) (fun y hy => g3 y (List.mem_range.mp (List.mem_filter.mp hy).1) (List.mem_filter.mp hy).2)) q
    · rw [List.mem_range] at hk
      exact et_is (et_B (ev_ends (ev_var rfl) (ev_slTo (ev_var rfl) (ev_var rfl) (by omega)))) (ends_isB (by omega))
    · obtain ⟨p, e, _, h2⟩ := p
      exact ⟨p, e, h2⟩
/-! ### _law_some -/
def sp_l_some (K : PySem.W.Frag) : Sp := fun vs H Q _ => ∃ (a : Addr) (u : List Nat), vs = [.ref a, .str (S u)] ∧ SqT K H a (natV (Pr.brow u)) ∧ u.length ≤ 14 ∧ RetD (Pr.chL u) H Q
theorem sv_l_some {K : PySem.W.Frag} {H : Hp} {a : Addr} {u : List Nat} (h : SqT K H a (natV (Pr.brow u))) (hl : u.length ≤ 14) : SpP (sp_l_some K) [.ref a, .str (S u)] H (isDk (Pr.chL u) H) :=
  fun H1 e Q q E => ⟨a, u, rfl, ex_t e h, hl, fun p H2 e2 hn h2 => q _ H2 e2 ⟨p, rfl, fresh_back e hn, h2⟩⟩
theorem a_S97 : ("a" : Str) = S [97] := by decide +kernel
theorem ok_l_some (T : Tx mg) (D : Dfn K mg "_law_some" s_l_some ["_law_row", "_law_word"])  : Cal P w K mg base 1 "_law_some" ["_law_row", "_law_word"] (sp_l_some K) := by
  obtain ⟨f, fd, F, mF, bF⟩ := D.ex
  refine ⟨f, fd, F.ok sc_l_some (fun vs H Q E h => ?_) (fun cdv A outer s H vs Q E hr h => ?_), mF, F.kp, bF⟩
  · obtain ⟨a, u, rfl, hx, hl, q⟩ := h
    rfl
  · have hu := hu_of hr
    obtain ⟨a, u, rfl, hx, hl, q⟩ := h
    refine ⟨_, (pss_cons (ps_set (i := 2) sc_l_some.nd rfl (Or.inl rfl) pe_dnewK)
      (pss_cons (ps_if (pt_cmpR oEq (pv 1) pe_str (nomark _)) (pss_one (ps_ret (pe_disp (pps_cons pe_int pe_str pps_nil) (by rfl) (by rfl) (fun z => by cases z) (by decide)))) pss_nil)
      (pss_cons (ps_set (i := 3) sc_l_some.nd rfl (Or.inl rfl) (pe_callB cLenC (by rfl) T.m_len (by decide +kernel) (pa_cons (pv 1) pa_nil)))
      (pss_cons (ps_set (i := 4) sc_l_some.nd rfl (Or.inr rfl) (pe_lst pa_nil))
      (pss_cons (ps_while PassesOwn.never (pt_cmpR oGt (pv 3) pe_int (nomark _)) (pss_cons (ps_set (i := 3) sc_l_some.nd rfl (Or.inl rfl) (pe_ix (show IxR _ (rIxT K) from ix_tup) (pv 0) (pe_op oSub (pv 3) pe_int) (fun _ _ => rfl)))
        (pss_one (ps_if (pt_cmpR (show OpR _ (compareOp .NotIn) (rIn K true) from oNi) (pe_ix iStrC (pv 1) (pv 3) (fun _ _ => rfl)) (pv 4) (by rfl)) (pss_cons (ps_dput hu (pv 2) (pe_op oAdd (pv 3) pe_int) (pe_ix iStrC (pv 1) (pv 3) (fun _ _ => rfl)) rfl)
          (pss_one (ps_expr (pe_bm PySem.F.plainAttrs_list PySem.F.slot_list_append PySem.F.type_list_append mt_append (pv 4) (pa_cons (pe_ix iStrC (pv 1) (pv 3) (fun _ _ => rfl)) pa_nil))))) pss_nil))))
      (pss_cons (ps_dput hu (pv 2) pe_int (pe_ix (show IxR _ (rIxL K) from ix_list) (pe_lc (own := [("_law_letter", 5)]) (g := gName 5) rfl sc_l_some.nd (pi_str pe_str) (blkOk_by (own := [("_law_letter", 5)]) (N := N_l_some) (sc := defScope s_l_some) (by decide +kernel)) (fun _ _ _ _ _ => pg_name (i := 5) sc_l_some.nd rfl (by first | exact Or.inl rfl | exact Or.inr rfl)) (fun _ _ _ _ _ => pts_one (pt_cmpR (show OpR _ (compareOp .NotIn) (rIn K true) from oNi) (pv 5) (pv 4) (by rfl))) (fun _ _ _ _ _ => (pv 5))) pe_int (fun _ _ => rfl)) rfl)
      (pss_one (ps_ret (pv 2))))))))), ?_⟩
    refine q_asgR rg_dnew fun v H1 e1 p => ?_
    obtain ⟨pd, rfl, nd, hd⟩ := p
    refine q_when (b := decide (u = [])) (et_test (ev_eqS (ev_var rfl) (ev_cS empty_S))) (fun hb H2 e2 => ?_) (fun hb H2 e2 => ?_)
    · have h0 : u = [] := of_decide_eq_true hb
      subst h0
      refine s_retR (rg_disp1 (n := 0) (c := 97) ev_c (ev_cS a_S97)) fun v H3 e3 p => ?_
      obtain ⟨p, rfl, hn, hp⟩ := p
      exact q p H3 ((e1.trans e2).trans e3) (fresh_back (e1.trans e2) hn) hp
    · refine q_asg (ev_lenC (ev_var rfl) (by omega)) fun H3 e3 => ?_
      refine q_asgR (P := fun v H4 => ∃ p, v = .ref p ∧ H3 p = none ∧ H4 p = some (.lst [])) (fun H4 e Q q => ⟨Nat.zero_le _, fun p hp => q _ _ (Ex.new hp) ⟨p, rfl, fresh_back e hp, upd_same⟩⟩) fun v H4 e4 p => ?_
      obtain ⟨pm, rfl, nm, hm⟩ := p
      have t3 : Ex H H3 := (e1.trans e2).trans e3
      have nm0 : H pm = none := fresh_back t3 nm
      have hd4 : H4 pd = some (.dK (dD [])) := ((e2.trans e3).trans e4) pd _ hd
      have dm : pd ≠ pm := fun z => by
        rw [z, hm] at hd4
        cases hd4
      have hbl := Pr.brow_len u
      refine q_while (fun m σ' H' => Ex H H' ∧ ∃ i h : Nat, (Pr.blist u).drop i = Pr.blist (u.take h) ∧ h ≤ u.length ∧ m = h ∧ H' pd = some (.dK (dD ((Pr.got u i).map fun b => (b + 1, Pr.lt u b)))) ∧ H' pm = some (.lst (letV ((Pr.got u i).map (Pr.lt u)))) ∧
          σ' = [some (.ref a), some (.str (S u)), some (.ref pd), some (.int (h : Int)), some (.ref pm), none]) u.length
        ⟨t3.trans e4, 0, u.length, by rw [List.take_length]; rfl, Nat.le_refl _, rfl, hd4, hm, rfl⟩ ?_
      rintro m σ' H' ⟨ex, i, h, hi, hh, rfl, hd, hm, rfl⟩
      refine ⟨_, et_test (ev_gt (ev_var rfl) ev_c), fun hb H5 e5 => ?_, fun hb H5 e5 => ?_⟩
      · have h0 : 0 < m := by
          have := of_decide_eq_true hb
          omega
        obtain ⟨k, rfl⟩ : ∃ k, m = k + 1 := ⟨m - 1, by omega⟩
        have hk := Pr.brow_lt (w := u) (i := k) (by omega)
        have hat : (Pr.brow u)[k]? = some ((Pr.brow u).getD k 0) := by
          rw [List.getD_eq_getElem?_getD, List.getElem?_eq_getElem (show k < (Pr.brow u).length by omega)]
          rfl
        obtain ⟨hb, hdr⟩ := Pr.got_while hi hh
        generalize (Pr.brow u).getD k 0 = b at hk hat hb hdr
        have hbu := Pr.mem_bl.mp (List.mem_of_getElem? hb)
        have hut : u[b]? = some (Pr.lt u b) := by
          unfold Pr.lt
          rw [List.getD_eq_getElem?_getD, List.getElem?_eq_getElem hbu.1]
          rfl
        refine ⟨fun σ3 H6 => Ex H H6 ∧ ∃ i h : Nat, (Pr.blist u).drop i = Pr.blist (u.take h) ∧ h ≤ u.length ∧ h < k + 1 ∧ H6 pd = some (.dK (dD ((Pr.got u i).map fun b => (b + 1, Pr.lt u b)))) ∧ H6 pm = some (.lst (letV ((Pr.got u i).map (Pr.lt u)))) ∧
          σ3 = [some (.ref a), some (.str (S u)), some (.ref pd), some (.int (h : Int)), some (.ref pm), none],
          fun σ3 H6 ⟨b1, i, h, b2, b3, b4, b5⟩ => ⟨h, b4, b1, i, h, b2, b3, rfl, b5⟩, ?_⟩
        refine q_asg (ev_ixTn (n := k) (ev_var rfl) (ev_is (ev_subn (b := 1) (ev_var rfl) ev_c (by omega)) rfl) (ex_t (ex.trans e5) hx) hat) fun H6 e6 => ?_
        refine s_when (b := Pr.keepB u b) (et_is (et_test (ev_niS (ev_ixC (n := b) (ev_var rfl) (ev_var rfl) (by omega) hut) (ev_var rfl) (sq_of ((e5.trans e6) pm _ hm)))) (Pr.got_new hb)) (fun hk2 H7 e7 => ?_) (fun hk2 H7 e7 => ?_)
        · have st := Pr.got_step hb
          rw [if_pos hk2] at st
          have gl := Pr.got_len u i
          have e57 := (e5.trans e6).trans e7
          refine q_dput (n := b + 1) (c := Pr.lt u b) (e57 pd _ hd) (ev_var rfl) (ev_addn (b := 1) (ev_var rfl) ev_c) (ev_ixC (n := b) (ev_var rfl) (ev_var rfl) (by omega) hut) (Pr.got_lk hb) (by rw [List.length_map]; omega) fun H8 e8 => ?_
          have hm8 : (upd H8 pd (.dK (dD ((Pr.got u i).map (fun b => (b + 1, Pr.lt u b)) ++ [(b + 1, Pr.lt u b)])))) pm = some (.lst (letV ((Pr.got u i).map (Pr.lt u)))) := by
            rw [upd_ne (Ne.symm dm)]
            exact (e57.trans e8) pm _ hm
          refine s_app hm8 (ev_var rfl) (ev_ixC (n := b) (ev_var rfl) (ev_var rfl) (by omega) hut) (by rw [List.length_map, List.length_map]; omega) fun H9 e9 => ⟨Ex.mut ((Ex.mut ((ex.trans e57).trans e8) nd).trans e9) nm0, i + 1, b, hdr, by omega, by omega, ?_, ?_, rfl⟩
          · rw [upd_ne dm, st, List.map_append]
            exact e9 pd _ upd_same
          · rw [upd_same, st, List.map_append]
            unfold letV
            rw [List.map_append]
            rfl
        · have st := Pr.got_step hb
          rw [if_neg (by rw [hk2]; decide)] at st
          have e57 := (e5.trans e6).trans e7
          exact ⟨ex.trans e57, i + 1, b, hdr, by omega, by omega, by rw [st]; exact e57 pd _ hd, by rw [st]; exact e57 pm _ hm, rfl⟩
      · have h0 : m = 0 := by
          have := of_decide_eq_false hb
          omega
        subst h0
        rw [Pr.got_done hi] at hd hm
        have ml := Pr.mets_len u
        have kl : (Pr.keep u).length ≤ 14 := by
          unfold Pr.mets at ml
          rw [List.length_map] at ml
          omega
        refine q_dput (n := 0) (c := Pr.fresh (Pr.mets u)) (e5 pd _ hd) (ev_var rfl) ev_c (ev_fresh (n := 15) (m := Pr.mets u) (ev_cS abc15) (by omega) (by omega) (fun x => rfl) (fun c H6 e6 => ev_var rfl) fun c H6 e6 => et_test (ev_niS (ev_var rfl) (ev_var rfl) (sq_of ((e5.trans e6) pm _ hm)))) (Pr.lk_zero_new u) (by rw [List.length_map]; omega) fun H6 e6 => ?_
        exact s_ret (ev_var rfl) fun H7 e7 => q pd H7 ((Ex.mut ((ex.trans e5).trans e6) nd).trans e7) nd (e7 pd _ upd_same)
/-! ### _law_words -/
def sp_l_words (K : PySem.W.Frag) : Sp := fun vs H Q _ => ∃ n : Nat, vs = [.int (n : Int)] ∧ n ≤ 6 ∧ ∀ p H2, Ex H H2 → H2 p = some (.lst (txtV (wordsN n))) → Q (.ref p) H2
theorem sv_l_words {K : PySem.W.Frag} {H : Hp} {n : Nat} (h : n ≤ 6) : SpP (sp_l_words K) [.int (n : Int)] H (isN (txtV (wordsN n))) := fun H1 e Q q E => ⟨n, rfl, h, fun p H2 e2 h2 => q _ H2 e2 ⟨p, rfl, h2⟩⟩
theorem ok_l_words (T : Tx mg) (D : Dfn K mg "_law_words" s_l_words ["_law_size"])  : Cal P w K mg base 1 "_law_words" ["_law_size"] (sp_l_words K) := by
  obtain ⟨f, fd, F, mF, bF⟩ := D.ex
  refine ⟨f, fd, F.ok sc_l_words (fun vs H Q E h => ?_) (fun cdv A outer s H vs Q E hr h => ?_), mF, F.kp, bF⟩
  · obtain ⟨n, rfl, hn, q⟩ := h
    rfl
  · have hu := hu_of hr
    obtain ⟨n, rfl, hn, q⟩ := h
    refine ⟨_, (pss_cons (ps_set (i := 1) sc_l_words.nd rfl (Or.inl rfl) (pe_lst (pa_cons pe_str pa_nil)))
      (pss_cons (ps_for PassesOwn.never rfl (pi_range1 (by rfl) T.m_range (pa_cons (pv 0) pa_nil)) (pg_name (i := 2) sc_l_words.nd rfl (by first | exact Or.inl rfl | exact Or.inr rfl))
        (pss_cons (ps_set (i := 3) sc_l_words.nd rfl (Or.inl rfl) (pe_lst pa_nil))
        (pss_cons (ps_for PassesOwn.never rfl (pi_list (pv 1)) (pg_name (i := 4) sc_l_words.nd rfl (by first | exact Or.inl rfl | exact Or.inr rfl))
          (pss_cons (ps_set (i := 5) sc_l_words.nd rfl (Or.inl rfl) (pe_op oAdd (pe_lenSetC rfl (by rfl) T.m_len (by rfl) T.m_set (pv 4)) pe_int))
          (pss_one (ps_set (i := 3) sc_l_words.nd rfl (Or.inl rfl) (pe_op oCatL (pv 3) (pe_lc (own := [("_law_letter", 6)]) (g := gName 6) rfl sc_l_words.nd (pi_str (pe_slice slStr pe_str po_none (po_some (pv 5)))) (blkOk_by (own := [("_law_letter", 6)]) (N := N_l_words) (sc := defScope s_l_words) (by decide +kernel)) (fun _ _ _ _ _ => pg_name (i := 6) sc_l_words.nd rfl (by first | exact Or.inl rfl | exact Or.inr rfl)) (fun _ _ _ _ _ => pts_nil) (fun _ _ _ _ _ => (pe_op oCat (pv 4) (pv 6)))))))))
        (pss_one (ps_set (i := 1) sc_l_words.nd rfl (Or.inl rfl) (pv 3))))))
      (pss_one (ps_ret (pv 1))))), ?_⟩
    refine q_asgR (rg_lst (ea_cons (ev_cS empty_S) ea_nil) (show 1 ≤ 1000 by decide)) fun v H1 e1 p => ?_
    obtain ⟨p0, rfl, h0⟩ := p
    refine q_forR1 (n := (n : Int)) (ea_cons (ev_var rfl) ea_nil) (by omega) (fun k σ' H' => Ex H H' ∧ ∃ (p : Addr) (x2 x3 x4 x5 : Option V), σ' = [some (.int (n : Int)), some (.ref p), x2, x3, x4, x5, none] ∧ H' p = some (.lst (txtV (wordsN k))))
      (fun H2 e2 => ⟨e1.trans e2, p0, none, none, none, none, rfl, e2 p0 _ h0⟩) ?_ ?_
    · rintro k σ' H' hk ⟨ex, p, x2, x3, x4, x5, rfl, hp⟩
      have hk6 : k < 6 := by omega
      have hw := wordsN_small k (by omega)
      refine q_asgR rg_nil fun v H2 e2 p2 => ?_
      obtain ⟨pl, rfl, hl⟩ := p2
      refine q_forLn (xs := txtV (wordsN k)) (ev_var rfl) (sq_of (e2 p _ hp)) (fun i σ2 H3 => Ex H2 H3 ∧ ∃ (pl : Addr) (x4 x5 : Option V), σ2 = [some (.int (n : Int)), some (.ref p), some (.int (k : Int)), some (.ref pl), x4, x5, none] ∧ H3 pl = some (.lst (txtV (((wordsN k).take i).flatMap more))))
        (fun H3 e3 => ⟨e3, pl, x4, x5, rfl, e3 pl _ hl⟩) (fun i σ2 H3 _ z => sq_of ((e2.trans z.1) p _ hp)) ?_ ?_
      · rintro i x σ2 H3 hxi ⟨ex3, pl, x4, x5, rfl, hl⟩
        obtain ⟨w, hw2, rfl⟩ := txt_at hxi
        have wl := wordsN_len k w (List.mem_of_getElem? hw2)
        refine q_asg (ev_addn (b := 1) (ev_lenSetC (ev_var rfl) (by omega)) ev_c) fun H4 e4 => ?_
        have b1 := flat_len more_len ((wordsN k).take i)
        have b2 := more_len w
        rw [List.length_take] at b1
        refine s_asgR (rg_catL (xs := txtV (((wordsN k).take i).flatMap more)) (ys := txtV (more w)) (isN_rg (ev_var rfl) (e4 pl _ hl)) (fun H5 e5 => (rg_lcV ((Pr.abc 8).take ((signs w).length + 1)) (fun c => V.str (S [c])) (fun _ => true) (fun c => V.str (S (w ++ [c])))
          (src_str (ev_slTo (n := (signs w).length + 1) (ev_cS abc8) (ev_var rfl) (by rw [Pr.abc_len]; decide))) (by rw [List.length_take, Pr.abc_len]; omega) (fun x => rfl) (fun c hc H6 e6 => et_yes) (fun c hc _ H6 e6 => ev_cat (ev_var rfl) (ev_var rfl) (by show _ + 1 ≤ _; omega))).imp fun v H6 _ z => ?_) (by rw [List.length_map, List.length_map]; omega)) fun v H5 e5 z => ?_
        · obtain ⟨p6, e, _, h6⟩ := z
          rw [filter_yes] at h6
          refine ⟨p6, e, ?_⟩
          unfold txtV more
          rw [List.map_map]
          exact h6
        · obtain ⟨p6, rfl, h6⟩ := z
          refine ⟨(ex3.trans e4).trans e5, p6, _, _, rfl, ?_⟩
          rw [upto hw2]
          unfold txtV
          rw [List.map_append]
          exact h6
      · rintro σ2 H3 ⟨ex3, pl, x4, x5, rfl, hl⟩
        rw [show (txtV (wordsN k)).length = (wordsN k).length from List.length_map .., List.take_length] at hl
        exact s_asg (ev_var rfl) fun H4 e4 => ⟨((ex.trans e2).trans ex3).trans e4, pl, _, _, _, _, rfl, e4 pl _ hl⟩
    · rintro σ' H' ⟨ex, p, x2, x3, x4, x5, rfl, hp⟩
      rw [show ((n : Int)).toNat = n from Int.toNat_natCast n] at hp
      exact s_ret (ev_var rfl) fun H4 e4 => q p H4 (ex.trans e4) (e4 p _ hp)
/-! ### chain_of -/
def sp_chain_of (K : PySem.W.Frag) : Sp := fun vs H Q _ => ∃ (a : Addr) (w : List Nat) (n : Nat), vs = [.ref a, .int (n : Int)] ∧ SqT K H a (natV (Pr.brow w)) ∧ n ≤ w.length ∧ w.length ≤ 1000 ∧ RetN (natV (Pr.blist (w.take n))) H Q
theorem sv_chain_of {K : PySem.W.Frag} {H : Hp} {a : Addr} {w : List Nat} {n : Nat} (h : SqT K H a (natV (Pr.brow w))) (hn : n ≤ w.length) (hw : w.length ≤ 1000) : SpP (sp_chain_of K) [.ref a, .int (n : Int)] H (isN (natV (Pr.blist (w.take n)))) :=
  fun H1 e Q q E => ⟨a, w, n, rfl, ex_t e h, hn, hw, fun p H2 e2 _ h2 => q _ H2 e2 ⟨p, rfl, h2⟩⟩
theorem sx_chain_of {K : PySem.W.Frag} {H : Hp} {a : Addr} {w : List Nat} (h : SqT K H a (natV (Pr.brow w))) (hw : w.length ≤ 1000) : SpP (sp_chain_of K) [.ref a, .int (w.length : Int)] H (fun v H2 => ∃ p, v = .ref p ∧ H p = none ∧ H2 p = some (.lst (natV (Pr.blist w)))) :=
  fun H1 e Q q E => ⟨a, w, w.length, rfl, ex_t e h, Nat.le_refl _, hw, fun p H2 e2 hn h2 => q _ H2 e2 ⟨p, rfl, fresh_back e hn, by
    rw [List.take_length] at h2
    exact h2⟩⟩
theorem ok_chain_of (T : Tx mg) (D : Dfn K mg "chain_of" s_chain_of ["row", "size"])  : Cal P w K mg base 1 "chain_of" ["row", "size"] (sp_chain_of K) := by
  obtain ⟨f, fd, F, mF, bF⟩ := D.ex
  refine ⟨f, fd, F.ok sc_chain_of (fun vs H Q E h => ?_) (fun cdv A outer s H vs Q E hr h => ?_), mF, F.kp, bF⟩
  · obtain ⟨a, w, n, rfl, hr, hn, hw, q⟩ := h
    rfl
  · have hu := hu_of hr
    obtain ⟨a, w, n, rfl, hr, hn, hw, q⟩ := h
    refine ⟨_, (pss_cons (ps_set (i := 2) sc_chain_of.nd rfl (Or.inl rfl) (pe_lst pa_nil))
      (pss_cons (ps_set (i := 3) sc_chain_of.nd rfl (Or.inl rfl) (pv 1))
      (pss_cons (ps_while PassesOwn.never (pt_cmpR oGt (pv 3) pe_int (nomark _)) (pss_cons (ps_set (i := 3) sc_chain_of.nd rfl (Or.inl rfl) (pe_ix (show IxR _ (rIxT K) from ix_tup) (pv 0) (pe_op oSub (pv 3) pe_int) (fun _ _ => rfl)))
        (pss_one (ps_expr (pe_bm PySem.F.plainAttrs_list PySem.F.slot_list_append PySem.F.type_list_append mt_append (pv 2) (pa_cons (pv 3) pa_nil))))))
      (pss_one (ps_ret (pv 2)))))), ?_⟩
    refine q_asgR (P := fun v H4 => ∃ p, v = .ref p ∧ H p = none ∧ H4 p = some (.lst [])) (fun H4 e Q q => ⟨Nat.zero_le _, fun p hp => q _ _ (Ex.new hp) ⟨p, rfl, fresh_back e hp, upd_same⟩⟩) fun v H1 e1 p => ?_
    obtain ⟨pc, rfl, npc, hpc⟩ := p
    refine q_asg (ev_var rfl) fun H2 e2 => ?_
    refine q_while (fun m σ2 H3 => Ex H H3 ∧ ∃ (l : List Nat) (h : Nat), l ++ Pr.bch (Pr.brow w) h h = Pr.blist (w.take n) ∧ h ≤ n ∧ m = h ∧ H3 pc = some (.lst (natV l)) ∧ σ2 = [some (.ref a), some (.int (n : Int)), some (.ref pc), some (.int (h : Int))]) n
      ⟨e1.trans e2, [], n, by rw [List.nil_append, Pr.bch_spec _ _ (Nat.le_refl _) hn], Nat.le_refl _, rfl, e2 pc _ hpc, rfl⟩ ?_
    rintro m σ2 H3 ⟨e3, l, h, hl, hh, rfl, hc, rfl⟩
    refine ⟨_, et_test (ev_gt (ev_var rfl) ev_c), fun hb H4 e4 => ?_, fun hb H4 e4 => ?_⟩
    · have h0 : 0 < m := by
        have := of_decide_eq_true hb
        omega
      obtain ⟨k, rfl⟩ : ∃ k, m = k + 1 := ⟨m - 1, by omega⟩
      have hk := Pr.brow_lt (w := w) (i := k) (by omega)
      have hbl := Pr.brow_len w
      have hat : (Pr.brow w)[k]? = some ((Pr.brow w).getD k 0) := by
        rw [List.getD_eq_getElem?_getD, List.getElem?_eq_getElem (show k < (Pr.brow w).length by omega)]
        rfl
      refine ⟨fun σ3 H5 => Ex H H5 ∧ ∃ (l : List Nat) (h : Nat), l ++ Pr.bch (Pr.brow w) h h = Pr.blist (w.take n) ∧ h ≤ n ∧ h < k + 1 ∧ H5 pc = some (.lst (natV l)) ∧ σ3 = [some (.ref a), some (.int (n : Int)), some (.ref pc), some (.int (h : Int))],
        fun σ3 H5 ⟨b1, l, h, b2, b3, b4, b5, b6⟩ => ⟨h, b4, b1, l, h, b2, b3, rfl, b5, b6⟩, ?_⟩
      refine q_asg (ev_ixTn (n := k) (ev_var rfl) (ev_is (ev_subn (b := 1) (ev_var rfl) ev_c (by omega)) rfl) (ex_t (e3.trans e4) hr) hat) fun H5 e5 => ?_
      refine s_app ((e4.trans e5) pc _ hc) (ev_var rfl) (ev_var rfl) (by
        rw [List.length_map]
        have := congrArg List.length hl
        have := Pr.blist_len (w.take n)
        rw [List.length_append] at *
        rw [List.length_take] at *
        omega) fun H6 e6 => ⟨Ex.mut (((e3.trans e4).trans e5).trans e6) npc, l ++ [(Pr.brow w).getD k 0], (Pr.brow w).getD k 0, ?_, by omega, by omega, by rw [upd_same, natV_snocX], rfl⟩
      rw [← hl, List.append_assoc]
      congr 1
      rw [Pr.bch_spec (w := w) _ _ (Nat.le_refl _) (by omega), ← Pr.bch_spec (w := w) k ((Pr.brow w).getD k 0) hk (by omega)]
      rfl
    · have h0 : m = 0 := by
        have := of_decide_eq_false hb
        omega
      subst h0
      have hl2 : l = Pr.blist (w.take n) := by
        rw [← hl]
        exact (List.append_nil l).symm
      subst hl2
      exact s_ret (ev_var rfl) fun H5 e5 => q pc H5 ((e3.trans e4).trans e5) npc ((e4.trans e5) pc _ hc)
/-! ### _law_mixed -/
def hashD (x : Int) : Int := x * 48271 % 2147483647
def mixZ (ns : List Int) (k : Nat) : Int := (hashD (cellZ ns k + 7919 * (k : Int) + 1) * hashD (cellZ ns k + 7919 * (k : Int) + 1) + 7 * hashD (cellZ ns k + 7919 * (k : Int) + 1) + (k : Int)) % 2147483629
theorem hashD_lt (x : Int) : 0 ≤ hashD x ∧ hashD x < 2147483647 := ⟨Int.emod_nonneg _ (by decide), Int.emod_lt_of_pos _ (by decide)⟩
theorem mixZ_lt (ns : List Int) (k : Nat) : 0 ≤ mixZ ns k ∧ mixZ ns k < 2147483629 := ⟨Int.emod_nonneg _ (by decide), Int.emod_lt_of_pos _ (by decide)⟩
def sp_l_mixed (K : PySem.W.Frag) : Sp := fun vs H Q _ => ∃ (a : Addr) (ns : List Int) (k : Nat), vs = [.ref a, .int (k : Int)] ∧ SqL K H a (ns.map V.int) ∧ k < 1000 ∧ RetV (.int (mixZ ns k)) H Q
theorem sv_cell {K : PySem.W.Frag} {H : Hp} {a : Addr} {ns : List Int} {k : Nat} (h : SqL K H a (ns.map V.int)) : SpV (sp_l_cell_at K) [.ref a, .int (k : Int)] H (.int (cellZ ns k)) :=
  fun H1 e Q q E => ⟨a, ns, k, rfl, ex_l e h, q⟩
theorem sv_mixed {K : PySem.W.Frag} {H : Hp} {a : Addr} {ns : List Int} {k : Nat} (h : SqL K H a (ns.map V.int)) (hk : k < 1000) : SpV (sp_l_mixed K) [.ref a, .int (k : Int)] H (.int (mixZ ns k)) :=
  fun H1 e Q q E => ⟨a, ns, k, rfl, ex_l e h, hk, q⟩
theorem ok_l_mixed (T : Tx mg) (D : Dfn K mg "_law_mixed" s_l_mixed ["_law_script", "_law_k"]) (c_l_cell_at : Cal P w K mg base 1 "_law_cell_at" ["_law_script", "_law_k"] (sp_l_cell_at K)) : Cal P w K mg base 2 "_law_mixed" ["_law_script", "_law_k"] (sp_l_mixed K) := by
  obtain ⟨f, fd, F, mF, bF⟩ := D.ex
  obtain ⟨f_l_cell_at, fd_l_cell_at, G_l_cell_at, m_l_cell_at, k_l_cell_at, b_l_cell_at⟩ := c_l_cell_at.ex
  refine ⟨f, fd, F.ok sc_l_mixed (fun vs H Q E h => ?_) (fun cdv A outer s H vs Q E hr h => ?_), mF, F.kp, bF⟩
  · obtain ⟨a, ns, k, rfl, hS, hk, q⟩ := h
    rfl
  · have hu := hu_of hr
    obtain ⟨a, ns, k, rfl, hS, hk, q⟩ := h
    refine ⟨_, (pss_cons (ps_set (i := 2) sc_l_mixed.nd rfl (Or.inl rfl) (pe_op oMod (pe_op oMul (pe_op oAdd (pe_op oAdd (pe_call G_l_cell_at hr (by rfl) m_l_cell_at k_l_cell_at b_l_cell_at .nil pass0 (pa_cons (pv 0) (pa_cons (pv 1) pa_nil))) (pe_op oMul pe_int (pv 1))) pe_int) pe_int) pe_int))
      (pss_one (ps_ret (pe_op oMod (pe_op oAdd (pe_op oAdd (pe_op oMul (pv 2) (pv 2)) (pe_op oMul pe_int (pv 2))) (pv 1)) pe_int)))), ?_⟩
    have b := hashD_lt (cellZ ns k + 7919 * (k : Int) + 1)
    refine q_asg (ev_mod (ev_mul (ev_add (ev_add (ev_call (ea_cons (ev_var rfl) (ea_cons (ev_var rfl) ea_nil)) (sv_cell hS)) (ev_mul ev_c (ev_var rfl) (.inl (by omega)))) ev_c) ev_c (.inr (by omega))) ev_c (by omega)) fun H1 e1 => ?_
    exact s_ret (ev_mod (ev_add (ev_add (ev_mul (ev_var rfl) (ev_var rfl) (.inl (by show _ < hashD _ ∧ hashD _ < _; omega))) (ev_mul ev_c (ev_var rfl) (.inl (by omega)))) (ev_var rfl)) ev_c (by omega)) fun H2 e2 => q H2 (e1.trans e2)
/-! ### _law_text -/
def sp_l_text (K : PySem.W.Frag) : Sp := fun vs H Q _ => ∃ (n : Int) (m : Nat), vs = [.int n, .int (m : Int)] ∧ m ≤ 100 ∧ ∀ l : List Nat, l.length ≤ m → az l → RetV (.str (S l)) H Q
theorem letters_at (j : Nat) (h : j < 8) : ∃ zl : List Nat, ([V.str "a", V.str "ab", V.str "ab", V.str "abc", V.str "abcd", V.str "xyz", V.str "bm", V.str "abcdefghijklmnopqrstuvwxyz"] : List V)[j]? = some (.str (S zl)) ∧ 0 < zl.length ∧ zl.length ≤ 26 ∧ az zl := by
  match j, h with
  | 0, _ => exact ⟨[97], by decide +kernel, by decide, by decide, by unfold az; decide⟩
  | 1, _ => exact ⟨[97, 98], by decide +kernel, by decide, by decide, by unfold az; decide⟩
  | 2, _ => exact ⟨[97, 98], by decide +kernel, by decide, by decide, by unfold az; decide⟩
  | 3, _ => exact ⟨[97, 98, 99], by decide +kernel, by decide, by decide, by unfold az; decide⟩
  | 4, _ => exact ⟨[97, 98, 99, 100], by decide +kernel, by decide, by decide, by unfold az; decide⟩
  | 5, _ => exact ⟨[120, 121, 122], by decide +kernel, by decide, by decide, by unfold az; decide⟩
  | 6, _ => exact ⟨[98, 109], by decide +kernel, by decide, by decide, by unfold az; decide⟩
  | 7, _ => exact ⟨[97, 98, 99, 100, 101, 102, 103, 104, 105, 106, 107, 108, 109, 110, 111, 112, 113, 114, 115, 116, 117, 118, 119, 120, 121, 122], by decide +kernel, by decide, by decide, by unfold az; decide⟩
theorem sv_text {K : PySem.W.Frag} {H : Hp} {n : Int} {m : Nat} (hm : m ≤ 100) : SpP (sp_l_text K) [.int n, .int (m : Int)] H (fun v _ => ∃ l, v = .str (S l) ∧ l.length ≤ m ∧ az l) :=
  fun H1 e Q q E => ⟨n, m, rfl, hm, fun l h1 h2 H2 e2 => q _ H2 e2 ⟨l, rfl, h1, h2⟩⟩
theorem ok_l_text (T : Tx mg) (D : Dfn K mg "_law_text" s_l_text ["_law_number", "_law_most"]) (c_l_drawn : Cal P w K mg base 1 "_law_drawn" ["_law_number", "_law_k"] (sp_l_drawn K)) : Cal P w K mg base 2 "_law_text" ["_law_number", "_law_most"] (sp_l_text K) := by
  obtain ⟨f, fd, F, mF, bF⟩ := D.ex
  obtain ⟨f_l_drawn, fd_l_drawn, G_l_drawn, m_l_drawn, k_l_drawn, b_l_drawn⟩ := c_l_drawn.ex
  refine ⟨f, fd, F.ok sc_l_text (fun vs H Q E h => ?_) (fun cdv A outer s H vs Q E hr h => ?_), mF, F.kp, bF⟩
  · obtain ⟨n, m, rfl, hm, q⟩ := h
    rfl
  · have hu := hu_of hr
    obtain ⟨n, m, rfl, hm, q⟩ := h
    refine ⟨_, (pss_cons (ps_set (i := 2) sc_l_text.nd rfl (Or.inl rfl) (pe_ix (show IxR _ (rIxT K) from ix_tup) (pe_tup (pa_cons pe_str (pa_cons pe_str (pa_cons pe_str (pa_cons pe_str (pa_cons pe_str (pa_cons pe_str (pa_cons pe_str (pa_cons pe_str pa_nil))))))))) (pe_op oMod (pv 0) pe_int) (fun _ _ => rfl)))
      (pss_cons (ps_set (i := 3) sc_l_text.nd rfl (Or.inl rfl) (pe_op oMod (pe_op oDiv (pv 0) pe_int) (pe_op oAdd (pv 1) pe_int)))
      (pss_cons (ps_set (i := 4) sc_l_text.nd rfl (Or.inl rfl) pe_str)
      (pss_cons (ps_for PassesOwn.never rfl (pi_range1 (by rfl) T.m_range (pa_cons (pv 3) pa_nil)) (pg_name (i := 5) sc_l_text.nd rfl (by first | exact Or.inl rfl | exact Or.inr rfl))
        (pss_one (ps_set (i := 4) sc_l_text.nd rfl (Or.inl rfl) (pe_op oCat (pv 4) (pe_ix iStrC (pv 2) (pe_op oMod (pe_call G_l_drawn hr (by rfl) m_l_drawn k_l_drawn b_l_drawn .nil pass0 (pa_cons (pv 0) (pa_cons (pv 5) pa_nil))) (pe_callB cLenC (by rfl) T.m_len (by decide +kernel) (pa_cons (pv 2) pa_nil))) (fun _ _ => rfl))))))
      (pss_cons (ps_if (PW.pt (pw_and (pt_cmpR oEq (pe_op oMod (pe_op oDiv (pv 0) pe_int) pe_int) pe_int (nomark _)) (pw_and1 (pt_cmpR oGt (pv 3) pe_int (nomark _))))) (pss_cons (ps_set (i := 6) sc_l_text.nd rfl (Or.inl rfl) (pe_op oAdd pe_int (pe_op oMod (pe_op oDiv (pv 0) pe_int) (pe_op oSub (pv 3) pe_int))))
        (pss_one (ps_set (i := 4) sc_l_text.nd rfl (Or.inl rfl) (pe_slice slStr (pe_op oRep (pe_slice slStr (pv 4) po_none (po_some (pv 6))) (pv 3)) po_none (po_some (pv 3)))))) pss_nil)
      (pss_one (ps_ret (pv 4)))))))), ?_⟩
    have h8 : 0 ≤ n % 8 ∧ n % 8 < 8 := ⟨Int.emod_nonneg _ (by decide), Int.emod_lt_of_pos _ (by decide)⟩
    obtain ⟨zl, hz, hz0, hz26, hza⟩ := letters_at (n % 8).toNat (by omega)
    refine q_asg (ev_menuT (by repeat (first | exact ea_nil | refine ea_cons ev_c ?_)) (by decide) (ev_mod (ev_var rfl) ev_c (by omega)) (atI_int h8.1 hz)) fun H1 e1 => ?_
    obtain ⟨g, hg, hgm⟩ : ∃ g : Nat, n / 8 % ((m : Int) + 1) = (g : Int) ∧ g ≤ m := by
      have a1 : 0 ≤ n / 8 % ((m : Int) + 1) := Int.emod_nonneg _ (by omega)
      have a2 : n / 8 % ((m : Int) + 1) < (m : Int) + 1 := Int.emod_lt_of_pos _ (by omega)
      exact ⟨(n / 8 % ((m : Int) + 1)).toNat, by omega, by omega⟩
    refine q_asg (ev_is (ev_mod (ev_div (ev_var rfl) ev_c (by omega)) (ev_add (ev_var rfl) ev_c) (by omega)) (congrArg V.int hg)) fun H2 e2 => ?_
    refine q_asg (ev_cS empty_S) fun H3 e3 => ?_
    refine q_forR1 (ea_cons (ev_var rfl) ea_nil) (by omega) (fun i σ' H' => Ex H H' ∧ ∃ (l : List Nat) (kv : Option V), σ' = [some (.int n), some (.int (m : Int)), some (.str (S zl)), some (.int (g : Int)), some (.str (S l)), kv, none] ∧ l.length = i ∧ az l)
      (fun H4 e4 => ⟨((e1.trans e2).trans e3).trans e4, [], none, rfl, rfl, az_nil⟩) ?_ ?_
    · rintro i σ' H' hi ⟨ex, l, kv, rfl, hl, ha⟩
      have d1 : 0 ≤ drawZ n i % (zl.length : Int) := Int.emod_nonneg _ (by omega)
      have d2 : drawZ n i % (zl.length : Int) < (zl.length : Int) := Int.emod_lt_of_pos _ (by omega)
      have hc : (drawZ n i % (zl.length : Int)).toNat < zl.length := by omega
      refine s_asg (ev_cat (ev_var rfl) (ev_ixC (ev_var rfl) (ev_nat (ev_mod (ev_call (ea_cons (ev_var rfl) (ea_cons (ev_var rfl) ea_nil)) (sv_drawn (by omega))) (ev_lenC (ev_var rfl) (by omega)) (by omega)) d1) (by omega) (List.getElem?_eq_getElem hc)) (by show l.length + 1 ≤ _; omega)) fun H4 e4 => ⟨ex.trans e4, l ++ [zl[(drawZ n i % (zl.length : Int)).toNat]], some (.int (i : Int)), rfl, by simp [hl], az_app ha fun c hc => ?_⟩
      rw [List.mem_singleton.mp hc]
      exact hza _ (List.getElem_mem _)
    · rintro σ' H' ⟨ex, l, kv, rfl, hl, ha⟩
      have hl2 : l.length = g := by rw [hl]; omega
      refine q_when (et_and (et_test (ev_eqI (ev_mod (ev_div (ev_var rfl) ev_c (by omega)) ev_c (by omega)) ev_c)) fun _ => et_test (ev_gt (ev_var rfl) ev_c)) (fun hb H4 e4 => ?_) (fun hb H4 e4 => ?_)
      · have hb2 := (Bool.and_eq_true _ _ ▸ hb : _ ∧ _).2
        have hg1 : 1 < g := by
          have := of_decide_eq_true hb2
          omega
        have f1 : 0 ≤ n / 2400 % ((g : Int) - 1) := Int.emod_nonneg _ (by omega)
        have f2 : n / 2400 % ((g : Int) - 1) < (g : Int) - 1 := Int.emod_lt_of_pos _ (by omega)
        refine q_asg (ev_nat (ev_add ev_c (ev_mod (ev_div (ev_var rfl) ev_c (by omega)) (ev_sub (ev_var rfl) ev_c) (by omega))) (by omega)) fun H5 e5 => ?_
        have k1 : (l.take (1 + n / 2400 % ((g : Int) - 1)).toNat).length ≤ 100 := by
          rw [List.length_take]
          omega
        have k2 : (l.take (1 + n / 2400 % ((g : Int) - 1)).toNat).length * g ≤ 100 * 100 := Nat.mul_le_mul k1 (by omega)
        refine s_asg (ev_slTo (ev_rep (ev_slTo (ev_var rfl) (ev_var rfl) (by omega)) (ev_var rfl) ⟨by omega, by omega⟩) (ev_var rfl) (by simp; rw [List.length_take] at k2; rw [Nat.mul_comm]; omega)) fun H6 e6 => ?_
        refine s_ret (ev_var rfl) fun H7 e7 => q _ ?_ (az_take _ (az_rep _ (az_take _ ha))) H7 ((((ex.trans e4).trans e5).trans e6).trans e7)
        rw [List.length_take]
        omega
      · exact s_ret (ev_var rfl) fun H7 e7 => q l (by omega) ha H7 ((ex.trans e4).trans e7)
/-! ### _law_border_row -/
def sp_l_border_row (K : PySem.W.Frag) : Sp := fun vs H Q _ => ∃ w : List Nat, vs = [.str (S w)] ∧ w.length ≤ 1000 ∧ RetT K (natV (Pr.brow w)) H Q
theorem sv_l_border_row {K : PySem.W.Frag} {H : Hp} {w : List Nat} (h : w.length ≤ 1000) : SpP (sp_l_border_row K) [.str (S w)] H (isT K (natV (Pr.brow w))) :=
  fun H1 e Q q E => ⟨w, rfl, h, fun p H2 e2 h2 => q _ H2 e2 ⟨p, rfl, h2⟩⟩
theorem given_l_border_row (w : List Nat) : ((List.range (w.length + 1 - 1)).filter fun _ => true).map (fun i => V.int (Pr.gb (w.take (1 + i)) : Int)) = natV (Pr.brow w) := by
  unfold natV Pr.brow
  rw [filter_yes, List.map_map, Nat.add_sub_cancel]
  apply List.map_congr_left
  intro i _
  show V.int (Pr.gb (w.take (1 + i)) : Int) = V.int (Pr.gb (w.take (i + 1)) : Int)
  rw [Nat.add_comm]
theorem ok_l_border_row (T : Tx mg) (D : Dfn K mg "_law_border_row" s_l_border_row ["_law_word"]) (c_l_border : Cal P w K mg base 1 "_law_border" ["_law_word"] (sp_l_border K)) : Cal P w K mg base 2 "_law_border_row" ["_law_word"] (sp_l_border_row K) := by
  obtain ⟨f, fd, F, mF, bF⟩ := D.ex
  obtain ⟨f_l_border, fd_l_border, G_l_border, m_l_border, k_l_border, b_l_border⟩ := c_l_border.ex
  refine ⟨f, fd, F.ok sc_l_border_row (fun vs H Q E h => ?_) (fun cdv A outer s H vs Q E hr h => ?_), mF, F.kp, bF⟩
  · obtain ⟨w, rfl, hw, q⟩ := h
    rfl
  · have hu := hu_of hr
    obtain ⟨w, rfl, hw, q⟩ := h
    refine ⟨_, (pss_one (ps_ret (pe_callTy (show CallR _ (.type "tuple") (rTupOf K) from cTupOf) (by rfl) T.m_tuple (by decide +kernel) (pa_cons (pe_lc (own := [("_law_size", 1)]) (g := gName 1) rfl sc_l_border_row.nd (pi_range2 (by rfl) T.m_range (pa_cons pe_int (pa_cons (pe_op oAdd (pe_callB cLenC (by rfl) T.m_len (by decide +kernel) (pa_cons (pv 0) pa_nil)) pe_int) pa_nil))) (blkOk_by (own := [("_law_size", 1)]) (N := N_l_border_row) (sc := defScope s_l_border_row) (by decide +kernel)) (fun _ _ _ _ _ => pg_name (i := 1) sc_l_border_row.nd rfl (by first | exact Or.inl rfl | exact Or.inr rfl)) (fun _ _ _ _ _ => pts_nil) (fun _ _ _ _ _ => (pe_call G_l_border hr (by rfl) m_l_border k_l_border b_l_border .nil pass0 (pa_cons (pe_slice slStr (pv 0) po_none (po_some (pv 1))) pa_nil)))) pa_nil)))), ?_⟩
    refine (rg_tupOf (P := fun ys _ => ys = natV (Pr.brow w)) ((rg_lcV (List.range (w.length + 1 - 1)) (fun (i : Nat) => V.int ((1 + i : Nat) : Int)) (fun _ => true) (fun i => V.int (Pr.gb (w.take (1 + i)) : Int))
      (src_range2n (lo := 1) (ea_cons ev_cn (ea_cons (ev_addn (b := 1) (ev_lenC (ev_var rfl) (by omega)) ev_c) ea_nil)) (by omega)) (by rw [List.length_range]; omega) (fun x => rfl) (fun i hi H1 e1 => et_yes) (fun i hi _ H1 e1 => ?_)).imp fun v H2 _ p => ?_)
      (fun ys _ _ _ h => h)).go fun v H2 e2 p => ?_
    · rw [List.mem_range] at hi
      exact ev_call (ea_cons (ev_slTo (ev_var rfl) (ev_var rfl) (by omega)) ea_nil) (sv_l_border (by rw [List.length_take]; omega) (by rw [List.length_take]; omega))
    · obtain ⟨p, e, _, h2⟩ := p
      exact ⟨p, _, e, h2, given_l_border_row w⟩
    · obtain ⟨p, ys, rfl, h2, rfl⟩ := p
      exact q p H2 e2 h2
/-! ### choices -/
def sp_choices (K : PySem.W.Frag) : Sp := fun vs H Q _ => ∃ (a : Addr) (u : List Nat), vs = [.ref a, .str (S u)] ∧ SqT K H a (natV (Pr.brow u)) ∧ u.length ≤ 14 ∧ RetD (Pr.chL u) H Q
theorem sv_choices {K : PySem.W.Frag} {H : Hp} {a : Addr} {u : List Nat} (h : SqT K H a (natV (Pr.brow u))) (hl : u.length ≤ 14) : SpP (sp_choices K) [.ref a, .str (S u)] H (isDk (Pr.chL u) H) :=
  fun H1 e Q q E => ⟨a, u, rfl, ex_t e h, hl, fun p H2 e2 hn h2 => q _ H2 e2 ⟨p, rfl, fresh_back e hn, h2⟩⟩
theorem ok_choices (T : Tx mg) (D : Dfn K mg "choices" s_choices ["row", "word"]) (c_chain_of : Cal P w K mg base 1 "chain_of" ["row", "size"] (sp_chain_of K)) : Cal P w K mg base 2 "choices" ["row", "word"] (sp_choices K) := by
  obtain ⟨f, fd, F, mF, bF⟩ := D.ex
  obtain ⟨f_chain_of, fd_chain_of, G_chain_of, m_chain_of, k_chain_of, b_chain_of⟩ := c_chain_of.ex
  obtain ⟨t_LETTERS, g_LETTERS⟩ := T.g_LETTERS
  refine ⟨f, fd, F.ok sc_choices (fun vs H Q E h => ?_) (fun cdv A outer s H vs Q E hr h => ?_), mF, F.kp, bF⟩
  · obtain ⟨a, u, rfl, hx, hl, q⟩ := h
    rfl
  · have hu := hu_of hr
    obtain ⟨a, u, rfl, hx, hl, q⟩ := h
    refine ⟨_, (pss_cons (ps_set (i := 2) sc_choices.nd rfl (Or.inl rfl) (pe_callB cLenC (by rfl) T.m_len (by decide +kernel) (pa_cons (pv 1) pa_nil)))
      (pss_cons (ps_if (pt_cmpR oEq (pv 2) pe_int (nomark _)) (pss_one (ps_ret (pe_disp (pps_cons pe_int (pe_ix iStrC (pe_glob (v := .str "abcdefghijklmnopqrstuvwxyz") (by rfl) g_LETTERS ⟨_, rfl⟩) pe_int (fun _ _ => rfl)) pps_nil) (by rfl) (by rfl) (fun z => by cases z) (by decide)))) pss_nil)
      (pss_cons (ps_set (i := 3) sc_choices.nd rfl (Or.inl rfl) pe_dnewK)
      (pss_cons (ps_set (i := 4) sc_choices.nd rfl (Or.inr rfl) (pe_lst pa_nil))
      (pss_cons (ps_for PassesOwn.never rfl (pi_list (pe_call G_chain_of hr (by rfl) m_chain_of k_chain_of b_chain_of .nil pass0 (pa_cons (pv 0) (pa_cons (pv 2) pa_nil)))) (pg_name (i := 5) sc_choices.nd rfl (by first | exact Or.inl rfl | exact Or.inr rfl))
        (pss_cons (ps_set (i := 6) sc_choices.nd rfl (Or.inl rfl) (pe_ix iStrC (pv 1) (pv 5) (fun _ _ => rfl)))
        (pss_one (ps_if (pt_cmpR (show OpR _ (compareOp .NotIn) (rIn K true) from oNi) (pv 6) (pv 4) (by rfl)) (pss_cons (ps_dput hu (pv 3) (pe_op oAdd (pv 5) pe_int) (pv 6) rfl)
          (pss_one (ps_expr (pe_bm PySem.F.plainAttrs_list PySem.F.slot_list_append PySem.F.type_list_append mt_append (pv 4) (pa_cons (pv 6) pa_nil))))) pss_nil))))
      (pss_cons (ps_dput hu (pv 3) pe_int (pe_ix (show IxR _ (rIxL K) from ix_list) (pe_lc (own := [("letter", 6)]) (g := gName 6) rfl sc_choices.nd (pi_str (pe_glob (v := .str "abcdefghijklmnopqrstuvwxyz") (by rfl) g_LETTERS ⟨_, rfl⟩)) (blkOk_by (own := [("letter", 6)]) (N := N_choices) (sc := defScope s_choices) (by decide +kernel)) (fun _ _ _ _ _ => pg_name (i := 6) sc_choices.nd rfl (by first | exact Or.inl rfl | exact Or.inr rfl)) (fun _ _ _ _ _ => pts_one (pt_cmpR (show OpR _ (compareOp .NotIn) (rIn K true) from oNi) (pv 6) (pv 4) (by rfl))) (fun _ _ _ _ _ => (pv 6))) pe_int (fun _ _ => rfl)) rfl)
      (pss_one (ps_ret (pv 3))))))))), ?_⟩
    refine q_asg (ev_lenC (ev_var rfl) (by omega)) fun H1 e1 => ?_
    refine q_when (b := decide (u.length = 0)) (et_test (ev_eqn (ev_var rfl) (ev_cn (n := 0)))) (fun hb H2 e2 => ?_) (fun hb H2 e2 => ?_)
    · have h0 : u = [] := List.length_eq_zero_iff.mp (of_decide_eq_true hb)
      subst h0
      refine s_retR (rg_disp1 (n := 0) (c := 97) ev_c (ev_ixC (l := Pr.abc 26) (n := 0) (ev_cS abc26) ev_c (by rw [Pr.abc_len]; decide) rfl)) fun v H3 e3 p => ?_
      obtain ⟨p, rfl, hn, hp⟩ := p
      exact q p H3 ((e1.trans e2).trans e3) (fresh_back (e1.trans e2) hn) hp
    · refine q_asgR rg_dnew fun v H3 e3 p => ?_
      obtain ⟨pd, rfl, nd, hd⟩ := p
      refine q_asgR (P := fun v H4 => ∃ p, v = .ref p ∧ H3 p = none ∧ H4 p = some (.lst [])) (fun H4 e Q q => ⟨Nat.zero_le _, fun p hp => q _ _ (Ex.new hp) ⟨p, rfl, fresh_back e hp, upd_same⟩⟩) fun v H4 e4 p => ?_
      obtain ⟨pm, rfl, nm, hm⟩ := p
      have t3 : Ex H H3 := (e1.trans e2).trans e3
      have nd0 : H pd = none := fresh_back (e1.trans e2) nd
      have nm0 : H pm = none := fresh_back t3 nm
      have hd4 : H4 pd = some (.dK (dD [])) := e4 pd _ hd
      have dm : pd ≠ pm := fun z => by
        rw [z, hm] at hd4
        cases hd4
      refine q_forNR (xs := natV (Pr.blist u)) (rg_call (ea_cons (ev_var rfl) (ea_cons (ev_var rfl) ea_nil)) (sx_chain_of (ex_t (t3.trans e4) hx) (by omega)))
        (fun p i σ' H' => p ≠ pd ∧ p ≠ pm ∧ Ex H H' ∧ H' p = some (.lst (natV (Pr.blist u))) ∧ H' pd = some (.dK (dD ((Pr.got u i).map fun b => (b + 1, Pr.lt u b)))) ∧ H' pm = some (.lst (letV ((Pr.got u i).map (Pr.lt u)))) ∧
          ∃ x5 x6 : Option V, σ' = [some (.ref a), some (.str (S u)), some (.int (u.length : Int)), some (.ref pd), some (.ref pm), x5, x6])
        (fun p H5 e5 hn hp => ⟨(fun z => by rw [z, hd4] at hn; exact nomatch hn), (fun z => by rw [z, hm] at hn; exact nomatch hn), (t3.trans e4).trans e5, hp, e5 pd _ hd4, e5 pm _ hm, none, none, rfl⟩) (fun p i σ' H' h => h.2.2.2.1) ?_ ?_
      · rintro p i x σ' H' hxi ⟨n1, n2, ex, hp, hd, hm, x5, x6, rfl⟩
        obtain ⟨b, hb, rfl⟩ := nat_at hxi
        have hbu := Pr.mem_bl.mp (List.mem_of_getElem? hb)
        have hat : u[b]? = some (Pr.lt u b) := by
          unfold Pr.lt
          rw [List.getD_eq_getElem?_getD, List.getElem?_eq_getElem hbu.1]
          rfl
        refine q_asg (ev_ixC (n := b) (ev_var rfl) (ev_var rfl) (by omega) hat) fun H5 e5 => ?_
        refine s_when (b := Pr.keepB u b) (et_is (et_test (ev_niS (ev_var rfl) (ev_var rfl) (sq_of (e5 pm _ hm)))) (Pr.got_new hb)) (fun hk H6 e6 => ?_) (fun hk H6 e6 => ?_)
        · have st := Pr.got_step hb
          rw [if_pos hk] at st
          have gl := Pr.got_len u i
          refine q_dput (n := b + 1) (c := Pr.lt u b) ((e5.trans e6) pd _ hd) (ev_var rfl) (ev_addn (b := 1) (ev_var rfl) ev_c) (ev_var rfl) (Pr.got_lk hb) (by rw [List.length_map]; omega) fun H7 e7 => ?_
          have hm7 : (upd H7 pd (.dK (dD ((Pr.got u i).map (fun b => (b + 1, Pr.lt u b)) ++ [(b + 1, Pr.lt u b)])))) pm = some (.lst (letV ((Pr.got u i).map (Pr.lt u)))) := by
            rw [upd_ne (Ne.symm dm)]
            exact ((e5.trans e6).trans e7) pm _ hm
          refine s_app hm7 (ev_var rfl) (ev_var rfl) (by rw [List.length_map, List.length_map]; omega) fun H8 e8 => ⟨n1, n2, Ex.mut ((Ex.mut (((ex.trans e5).trans e6).trans e7) nd0).trans e8) nm0, ?_, ?_, ?_, _, _, rfl⟩
          · rw [upd_ne n2]
            refine e8 p _ ?_
            rw [upd_ne n1]
            exact ((e5.trans e6).trans e7) p _ hp
          · rw [upd_ne dm, st, List.map_append]
            exact e8 pd _ upd_same
          · rw [upd_same, st, List.map_append]
            unfold letV
            rw [List.map_append]
            rfl
        · have st := Pr.got_step hb
          rw [if_neg (by rw [hk]; decide)] at st
          have e56 := e5.trans e6
          exact ⟨n1, n2, ex.trans e56, e56 p _ hp, by rw [st]; exact e56 pd _ hd, by rw [st]; exact e56 pm _ hm, _, _, rfl⟩
      · rintro p σ' H' ⟨n1, n2, ex, hp, hd, hm, x5, x6, rfl⟩
        rw [show (natV (Pr.blist u)).length = (Pr.blist u).length from List.length_map .., Pr.got_end] at hd hm
        have ml := Pr.mets_len u
        have kl : (Pr.keep u).length ≤ 14 := by
          unfold Pr.mets at ml
          rw [List.length_map] at ml
          omega
        refine q_dput (n := 0) (c := Pr.fresh (Pr.mets u)) hd (ev_var rfl) ev_c (ev_fresh (n := 26) (m := Pr.mets u) (ev_cS abc26) (by omega) (by omega) (fun x => rfl) (fun c H5 e5 => ev_var rfl) fun c H5 e5 => et_test (ev_niS (ev_var rfl) (ev_var rfl) (sq_of (e5 pm _ hm)))) (Pr.lk_zero_new u) (by rw [List.length_map]; omega) fun H5 e5 => ?_
        exact s_ret (ev_var rfl) fun H6 e6 => q pd H6 (((Ex.mut (ex.trans e5) nd0)).trans e6) nd0 (e6 pd _ upd_same)
/-! ### word_of -/
def sp_word_of (K : PySem.W.Frag) : Sp := fun vs H Q _ => ∃ (a : Addr) (ns : List Int), vs = [.ref a] ∧ SqT K H a (ns.map V.int) ∧ ns.length ≤ 14 ∧
  (∀ u, Pr.tell ns [] = .inl u → RetT K [.str "word", .str (S u)] H Q) ∧ (∀ k : Nat, Pr.tell ns [] = .inr k → RetT K [.str "place", .int (k : Int)] H Q)
theorem sv_word_of {K : PySem.W.Frag} {H : Hp} {a : Addr} {ns : List Int} {u : List Nat} (h : SqT K H a (ns.map V.int)) (hl : ns.length ≤ 14) (ht : Pr.tell ns [] = .inl u) : SpP (sp_word_of K) [.ref a] H (isT K [.str "word", .str (S u)]) :=
  fun H1 e Q q E => ⟨a, ns, rfl, ex_t e h, hl, fun v hv p H2 e2 h2 => q _ H2 e2 ⟨p, rfl, by
    rw [ht] at hv
    cases hv
    exact h2⟩, fun k hk => by
    rw [ht] at hk
    cases hk⟩
theorem sv_place_of {K : PySem.W.Frag} {H : Hp} {a : Addr} {ns : List Int} {k : Nat} (h : SqT K H a (ns.map V.int)) (hl : ns.length ≤ 14) (ht : Pr.tell ns [] = .inr k) : SpP (sp_word_of K) [.ref a] H (isT K [.str "place", .int (k : Int)]) :=
  fun H1 e Q q E => ⟨a, ns, rfl, ex_t e h, hl, (fun v hv => by
    rw [ht] at hv
    exact nomatch hv), fun j hk p H2 e2 h2 => q _ H2 e2 ⟨p, rfl, by
    rw [ht] at hk
    cases hk
    exact h2⟩⟩
theorem ok_word_of (T : Tx mg) (D : Dfn K mg "word_of" s_word_of ["row"]) (c_choices : Cal P w K mg base 2 "choices" ["row", "word"] (sp_choices K)) : Cal P w K mg base 3 "word_of" ["row"] (sp_word_of K) := by
  obtain ⟨f, fd, F, mF, bF⟩ := D.ex
  obtain ⟨f_choices, fd_choices, G_choices, m_choices, k_choices, b_choices⟩ := c_choices.ex
  refine ⟨f, fd, F.ok sc_word_of (fun vs H Q E h => ?_) (fun cdv A outer s H vs Q E hr h => ?_), mF, F.kp, bF⟩
  · obtain ⟨a, ns, rfl, hx, hl, q1, q2⟩ := h
    rfl
  · have hu := hu_of hr
    obtain ⟨a, ns, rfl, hx, hl, q1, q2⟩ := h
    refine ⟨_, (pss_cons (ps_set (i := 1) sc_word_of.nd rfl (Or.inl rfl) pe_str)
      (pss_cons (ps_for PassesOwn.never rfl (pi_enumT (by rfl) T.m_enumerate (pa_cons (pv 0) pa_nil)) (pg_tup rfl (pgs_cons (pg_name (i := 2) sc_word_of.nd rfl (by first | exact Or.inl rfl | exact Or.inr rfl)) (pgs_cons (pg_name (i := 3) sc_word_of.nd rfl (by first | exact Or.inl rfl | exact Or.inr rfl)) pgs_nil)))
        (pss_cons (ps_set (i := 4) sc_word_of.nd rfl (Or.inl rfl) (pe_call G_choices hr (by rfl) m_choices k_choices b_choices .nil pass0 (pa_cons (pe_slice (show SlR _ (rSlA K) from slTup) (pv 0) po_none (po_some (pv 2))) (pa_cons (pv 1) pa_nil))))
        (pss_cons (ps_if (pt_cmp (pc_dnotin hu (pv 3) (pv 4))) (pss_one (ps_ret (pe_tup (pa_cons pe_str (pa_cons (pv 2) pa_nil))))) pss_nil)
        (pss_one (ps_set (i := 1) sc_word_of.nd rfl (Or.inl rfl) (pe_op oCat (pv 1) (pe_dget hu (pv 4) (pv 3) (fun _ _ => rfl))))))))
      (pss_one (ps_ret (pe_tup (pa_cons pe_str (pa_cons (pv 1) pa_nil))))))), ?_⟩
    refine q_asg (ev_cS empty_S) fun H1 e1 => ?_
    refine q_forEnum (ea_cons (ev_var rfl) ea_nil) (ex_t e1 hx) (fun i σ' H' => Ex H H' ∧ ∃ (u : List Nat) (x2 x3 x4 : Option V), σ' = [some (.ref a), some (.str (S u)), x2, x3, x4] ∧ Pr.tell (ns.take i) [] = .inl u)
      (fun H2 e2 => ⟨e1.trans e2, [], none, none, none, rfl, rfl⟩) (fun i σ' H' h => ex_t h.1 hx) ?_ ?_
    · rintro i x T σ' H' hxi ⟨ex, u, x2, x3, x4, rfl, ht⟩ hT
      obtain ⟨n, hn, rfl⟩ : ∃ n, ns[i]? = some n ∧ x = V.int n := by
        rw [List.getElem?_map] at hxi
        cases h : ns[i]? with
        | none => rw [h] at hxi; cases hxi
        | some n => rw [h] at hxi; exact ⟨n, rfl, (Option.some.inj hxi).symm⟩
      have hi : i < ns.length := (List.getElem?_eq_some_iff.mp hn).1
      obtain ⟨r1, r2⟩ := Pr.tell_row ht
      have rl : u.length = i := by
        rw [r2, List.length_take]
        show 0 + _ = _
        omega
      have r3 : natV (Pr.brow u) = (ns.map V.int).take i := by
        rw [natV_ints, r1]
        show (ns.take i).map V.int = _
        rw [List.map_take]
      have tk : ns.take (i + 1) = ns.take i ++ [n] := by
        rw [List.take_add_one, hn]
        rfl
      have eT : Ex H (upd H' T (.tup [.int (i : Int), .int n])) := ex.trans (Ex.new hT)
      refine ⟨T, _, rfl, st_of upd_same, rfl, _, _, rfl, _, _, rfl, rfl, ?_⟩
      refine q_asgR (rg_call2T (rg_slTup (n := i) (ev_var rfl) (ev_var rfl) (ex_t eT hx) (by rw [List.length_map]; omega)) (fun H2 e2 => ev_var rfl) fun p H2 e2 hp => (sv_choices (u := u) (by rw [r3]; exact hp) (by omega)).imp fun v H3 _ z => z.o) fun v H2 e2 p => ?_
      obtain ⟨pd, rfl, hd⟩ := p
      refine q_when (et_dni (ev_var rfl) (ev_var rfl) hd) (fun hb H3 e3 => ?_) (fun hb H3 e3 => ?_)
      · have h0 : Pr.lk (Pr.chL u) n = none := by
          cases z : Pr.lk (Pr.chL u) n with
          | none => rfl
          | some c => rw [z] at hb; cases hb
        have ht2 : Pr.tell ns [] = .inr i := by
          rw [Pr.split_at hn, Pr.tell_app_inl ht, Pr.tell_none h0, rl]
        refine s_retR (rg_tup (K := K) (ea_cons ev_c (ea_cons (ev_var rfl) ea_nil)) (show 2 ≤ 1000 by decide)) fun v H4 e4 p => ?_
        obtain ⟨p, rfl, hp⟩ := p
        exact q2 i ht2 p H4 ((eT.trans e2).trans (e3.trans e4)) hp
      · obtain ⟨c, hc⟩ : ∃ c, Pr.lk (Pr.chL u) n = some c := by
          cases z : Pr.lk (Pr.chL u) n with
          | none => rw [z] at hb; cases hb
          | some c => exact ⟨c, rfl⟩
        refine s_asg (ev_cat (ev_var rfl) (ev_dget (ev_var rfl) (ev_var rfl) (e3 pd _ hd) hc) (by show _ + 1 ≤ _; omega)) fun H4 e4 => ⟨(eT.trans e2).trans (e3.trans e4), u ++ [c], _, _, _, rfl, ?_⟩
        rw [tk, Pr.tell_app_inl ht, Pr.tell_some hc]
        rfl
    · rintro σ' H' ⟨ex, u, x2, x3, x4, rfl, ht⟩
      rw [show (ns.map V.int).length = ns.length from List.length_map .., List.take_length] at ht
      refine s_retR (rg_tup (K := K) (ea_cons ev_c (ea_cons (ev_var rfl) ea_nil)) (show 2 ≤ 1000 by decide)) fun v H4 e4 p => ?_
      obtain ⟨p, rfl, hp⟩ := p
      exact q1 u ht p H4 (ex.trans e4) hp
/-! ### nexts -/
def sp_nexts (K : PySem.W.Frag) : Sp := fun vs H Q _ => ∃ (a : Addr) (u : List Nat), vs = [.ref a] ∧ SqT K H a (natV (Pr.brow u)) ∧ Pr.told u ∧ u.length ≤ 14 ∧ RetT K (natV (Pr.nxL u)) H Q
theorem sv_nexts {K : PySem.W.Frag} {H : Hp} {a : Addr} {u : List Nat} (h : SqT K H a (natV (Pr.brow u))) (ht : Pr.told u) (hl : u.length ≤ 14) : SpP (sp_nexts K) [.ref a] H (isT K (natV (Pr.nxL u))) :=
  fun H1 e Q q E => ⟨a, u, rfl, ex_t e h, ht, hl, fun p H2 e2 h2 => q _ H2 e2 ⟨p, rfl, h2⟩⟩
theorem ok_nexts (T : Tx mg) (D : Dfn K mg "nexts" s_nexts ["row"]) (c_choices : Cal P w K mg base 2 "choices" ["row", "word"] (sp_choices K)) (c_word_of : Cal P w K mg base 3 "word_of" ["row"] (sp_word_of K)) : Cal P w K mg base 4 "nexts" ["row"] (sp_nexts K) := by
  obtain ⟨f, fd, F, mF, bF⟩ := D.ex
  obtain ⟨f_choices, fd_choices, G_choices, m_choices, k_choices, b_choices⟩ := c_choices.ex
  obtain ⟨f_word_of, fd_word_of, G_word_of, m_word_of, k_word_of, b_word_of⟩ := c_word_of.ex
  refine ⟨f, fd, F.ok sc_nexts (fun vs H Q E h => ?_) (fun cdv A outer s H vs Q E hr h => ?_), mF, F.kp, bF⟩
  · obtain ⟨a, u, rfl, hx, ht, hl, q⟩ := h
    rfl
  · have hu := hu_of hr
    obtain ⟨a, u, rfl, hx, ht, hl, q⟩ := h
    refine ⟨_, (pss_one (ps_ret (pe_callTy (show CallR _ (.type "tuple") (rTupOf K) from cTupOf) (by rfl) T.m_tuple (by decide +kernel) (pa_cons (pe_callB (cSortD rfl) (by rfl) T.m_sorted (by decide +kernel) (pa_cons (pe_call G_choices (hr.mono (by decide)) (by rfl) m_choices k_choices b_choices .nil pass0 (pa_cons (pv 0) (pa_cons (pe_ix (show IxR _ (rIxT K) from ix_tup) (pe_call G_word_of hr (by rfl) m_word_of k_word_of b_word_of .nil pass0 (pa_cons (pv 0) pa_nil)) pe_int (fun _ _ => rfl)) pa_nil))) pa_nil)) pa_nil)))), ?_⟩
    have hx2 := hx
    rw [natV_ints] at hx2
    refine s_retR (rg_tupOf (P := fun ys _ => ys = natV (Pr.nxL u)) ((rg_sortD ((rg_call (ea_cons (ev_var rfl) (ea_cons (ev_ixTR (rg_call (ea_cons (ev_var rfl) ea_nil) (sv_word_of hx2 (by unfold Pr.intsL; rw [List.length_map, Pr.brow_len]; exact hl) ht)) ev_c (atI_nat (j := 1) rfl)) ea_nil)) (sv_choices hx hl)).imp fun v H2 _ z => z.o) hl).imp fun v H2 _ ⟨p, e, h⟩ => ⟨p, _, e, h, rfl⟩) fun _ _ _ _ h => h) fun v H2 e2 p2 => ?_
    obtain ⟨p2, _, rfl, h2, rfl⟩ := p2
    exact q p2 H2 e2 h2
/-! ### count_rows -/
def sp_count_rows (K : PySem.W.Frag) : Sp := fun vs H Q _ => ∃ n : Nat, vs = [.int (n : Int)] ∧ n ≤ 9 ∧ RetV (.int ((Pr.rowsU n).length : Int)) H Q
theorem sv_count_rows {K : PySem.W.Frag} {H : Hp} {n : Nat} (h : n ≤ 9) : SpV (sp_count_rows K) [.int (n : Int)] H (.int ((Pr.rowsU n).length : Int)) := fun H1 e Q q E => ⟨n, rfl, h, q⟩
def Rows (K : PySem.W.Frag) (us : List (List Nat)) (ys : List V) (H : Hp) : Prop := Paired (fun u v => RowV K (Pr.brow u) v H) us ys
theorem Rows.kp {K : PySem.W.Frag} {us : List (List Nat)} {ys : List V} {H H' : Hp} (e : Kp H H') (h : Rows K us ys H) : Rows K us ys H' := paired_mono h fun _ _ z => kp_t e z
theorem ok_count_rows (T : Tx mg) (D : Dfn K mg "count_rows" s_count_rows ["length"]) (c_nexts : Cal P w K mg base 4 "nexts" ["row"] (sp_nexts K)) : Cal P w K mg base 5 "count_rows" ["length"] (sp_count_rows K) := by
  obtain ⟨f, fd, F, mF, bF⟩ := D.ex
  obtain ⟨f_nexts, fd_nexts, G_nexts, m_nexts, k_nexts, b_nexts⟩ := c_nexts.ex
  refine ⟨f, fd, F.ok sc_count_rows (fun vs H Q E h => ?_) (fun cdv A outer s H vs Q E hr h => ?_), mF, F.kp, bF⟩
  · obtain ⟨n, rfl, hn, q⟩ := h
    rfl
  · have hu := hu_of hr
    obtain ⟨n, rfl, hn, q⟩ := h
    refine ⟨_, (pss_cons (ps_set (i := 1) sc_count_rows.nd rfl (Or.inl rfl) (pe_lst (pa_cons (pe_tup pa_nil) pa_nil)))
      (pss_cons (ps_for PassesOwn.never rfl (pi_range1 (by rfl) T.m_range (pa_cons (pv 0) pa_nil)) (pg_name (i := 2) sc_count_rows.nd rfl (by first | exact Or.inl rfl | exact Or.inr rfl))
        (pss_cons (ps_set (i := 3) sc_count_rows.nd rfl (Or.inl rfl) (pe_lst pa_nil))
        (pss_cons (ps_for PassesOwn.never rfl (pi_list (pv 1)) (pg_name (i := 4) sc_count_rows.nd rfl (by first | exact Or.inl rfl | exact Or.inr rfl))
          (pss_one (ps_expr (pe_bm PySem.F.plainAttrs_list PySem.F.slot_list_extend PySem.F.type_list_extend mt_extend (pv 3) (pa_cons (pe_lc (own := [("number", 5)]) (g := gName 5) rfl sc_count_rows.nd (pi_tup (pe_call G_nexts hr (by rfl) m_nexts k_nexts b_nexts .nil pass0 (pa_cons (pv 4) pa_nil))) (blkOk_by (own := [("number", 5)]) (N := N_count_rows) (sc := defScope s_count_rows) (by decide +kernel)) (fun _ _ _ _ _ => pg_name (i := 5) sc_count_rows.nd rfl (by first | exact Or.inl rfl | exact Or.inr rfl)) (fun _ _ _ _ _ => pts_nil) (fun _ _ _ _ _ => (pe_op (show OpR _ (binaryOp .Add) (rCatA K) from oCatT) (pv 4) (pe_tup (pa_cons (pv 5) pa_nil))))) pa_nil)))))
        (pss_one (ps_set (i := 1) sc_count_rows.nd rfl (Or.inl rfl) (pv 3))))))
      (pss_one (ps_ret (pe_callB (show CallR _ (.builtin "len") (rLenQ K) from cLenQ) (by rfl) T.m_len (by decide +kernel) (pa_cons (pv 1) pa_nil)))))), ?_⟩
    refine q_asgR (rg_lst1 (P := fun v H2 => RowV K (Pr.brow []) v H2) ((rg_tup ea_nil (show 0 ≤ 1000 by decide)).imp fun v H2 _ z => z) fun v H1 H2 e z => kp_t (Ex.kp e) z) fun v H1 e1 p => ?_
    obtain ⟨p0, x0, rfl, h0, hx0⟩ := p
    refine q_forR1 (n := (n : Int)) (ea_cons (ev_var rfl) ea_nil) (by omega) (fun k σ' H' => Ex H H' ∧ ∃ (p : Addr) (ys : List V) (x2 x3 x4 : Option V), σ' = [some (.int (n : Int)), some (.ref p), x2, x3, x4, none] ∧ H' p = some (.lst ys) ∧ Rows K (Pr.rowsU k) ys H')
      (fun H2 e2 => ⟨e1.trans e2, p0, [x0], none, none, none, rfl, e2 p0 _ h0, .cons (kp_t (Ex.kp e2) hx0) .nil⟩) ?_ ?_
    · rintro k σ' H' hk ⟨ex, p, ys, x2, x3, x4, rfl, hp, hys⟩
      have hk9 : k < 9 := by omega
      have hf1 := Pr.rowsU_fct k
      have hf2 := Pr.fct_le (k := k + 1) (by omega)
      refine q_asgR (P := fun v H4 => ∃ p, v = .ref p ∧ H' p = none ∧ H4 p = some (.lst [])) (fun H4 e Q q => ⟨Nat.zero_le _, fun p hp => q _ _ (Ex.new hp) ⟨p, rfl, fresh_back e hp, upd_same⟩⟩) fun v H2 e2 p2 => ?_
      obtain ⟨pl, rfl, npl, hl⟩ := p2
      refine q_forLn (xs := ys) (ev_var rfl) (sq_of (e2 p _ hp)) (fun i σ2 H3 => Ex H' H3 ∧ ∃ (zs : List V) (x4 : Option V), σ2 = [some (.int (n : Int)), some (.ref p), some (.int (k : Int)), some (.ref pl), x4, none] ∧ H3 pl = some (.lst zs) ∧ Rows K (((Pr.rowsU k).take i).flatMap Pr.ext) zs H3)
        (fun H3 e3 => ⟨e2.trans e3, [], x4, rfl, e3 pl _ hl, .nil⟩) (fun i σ2 H3 _ z => sq_of (z.1 p _ hp)) ?_ ?_
      · rintro i x σ2 H3 hxi ⟨ex3, zs, x4, rfl, hl3, hz⟩
        obtain ⟨u, hu2, qx, rfl, hq⟩ := paired_at hys hxi
        obtain ⟨ht, ul⟩ := Pr.rowsU_told k u (List.mem_of_getElem? hu2)
        have hq3 := ex_t ex3 hq
        have zl : zs.length ≤ (k + 1) * Pr.fct k := by
          rw [← paired_len hz]
          refine Nat.le_trans (Pr.flat_le fun v hv => Pr.ext_len (Pr.rowsU_told k v (List.mem_of_mem_take hv)).2) (Nat.mul_le_mul_left _ ?_)
          rw [List.length_take]
          omega
        have zl2 : zs.length ≤ 362880 := Nat.le_trans zl hf2
        have kl := Pr.keysL_len u
        have nl : (Pr.nxL u).length ≤ 14 := by
          unfold Pr.nxL
          rw [List.length_reverse]
          omega
        refine s_extR (b := 14) (P := fun ys H2 => Rows K (Pr.ext u) ys H2) hl3 (ev_var rfl) ((rg_lc (Pr.nxL u) (fun (m : Nat) => V.int (m : Int)) (fun _ => true) (fun m v H2 => RowV K (Pr.brow (u ++ [Pr.ch1 u m])) v H2) (src_tupN (rg_call (ea_cons (ev_var rfl) ea_nil) (sv_nexts hq3 ht (by omega)))) (by omega) (fun m v H1 H2 e z => kp_t e z) (fun x => rfl) (fun m hm H4 e4 => et_yes) fun m hm _ H4 e4 => ?_).imp fun v H4 _ z => ?_) (by omega) fun ws H4 e4 h4 hw => ?_
        · rw [Pr.mem_nxL] at hm
          refine (rg_catT (isT_rg (ev_var rfl) (ex_t e4 hq3)) (fun H5 e5 => rg_tup (ea_cons (ev_var rfl) ea_nil) (show 1 ≤ 1000 by decide)) (by rw [List.length_map, Pr.brow_len]; show _ + 1 ≤ _; omega)).imp fun v H5 _ z => ?_
          rw [natV_row hm] at z
          exact z
        · obtain ⟨pw, ws, rfl, _, hw, hpw⟩ := z
          rw [filter_yes] at hpw
          exact ⟨pw, ws, rfl, hw, by rw [← paired_len hpw]; exact nl, paired_mapL (F := fun u v => RowV K (Pr.brow u) v H4) hpw⟩
        · have kp : Kp H4 (upd H4 pl (.lst (zs ++ ws))) := Kp.upd h4
          refine ⟨Ex.mut (ex3.trans e4) npl, zs ++ ws, _, rfl, upd_same, ?_⟩
          rw [upto hu2]
          exact paired_app (Rows.kp ((Ex.kp e4).trans kp) hz) (Rows.kp kp hw)
      · rintro σ2 H3 ⟨ex3, zs, x4, rfl, hl3, hz⟩
        rw [← paired_len hys, List.take_length] at hz
        exact s_asg (ev_var rfl) fun H4 e4 => ⟨(ex.trans ex3).trans e4, pl, zs, _, _, _, rfl, e4 pl _ hl3, Rows.kp (Ex.kp e4) hz⟩
    · rintro σ' H' ⟨ex, p, ys, x2, x3, x4, rfl, hp, hys⟩
      rw [show ((n : Int)).toNat = n from Int.toNat_natCast n] at hys
      have hl := paired_len hys
      refine s_ret (ev_lenL (ev_var rfl) (sq_of hp)) fun H4 e4 => ?_
      rw [← hl]
      exact q H4 (ex.trans e4)
/-! ### law -/
def sp_law (K : PySem.W.Frag) : Sp := fun vs H Q _ => ∃ (a : Addr) (ns : List Int), vs = [.ref a] ∧ SqL K H a (ns.map V.int) ∧ ns.length ≤ 63 ∧ ∀ H', Q (.bl true) H'
theorem int_mod (x : Int) (m : Nat) (h : 0 < m) : ∃ r : Nat, x % (m : Int) = (r : Int) ∧ r < m := by
  have a1 : 0 ≤ x % (m : Int) := Int.emod_nonneg _ (by omega)
  have a2 : x % (m : Int) < (m : Int) := Int.emod_lt_of_pos _ (by omega)
  exact ⟨(x % (m : Int)).toNat, by omega, by omega⟩
theorem place_word : ¬ V.str "place" = V.str "word" := fun e => by
  have h := V.str.inj e
  exact absurd h (by decide +kernel)
def RowsW (K : PySem.W.Frag) (us : List (List Nat)) (ys : List V) (H : Hp) : Prop := Paired (fun u v => RowW K u v H) us ys
theorem RowsW.kp {K : PySem.W.Frag} {us : List (List Nat)} {ys : List V} {H H' : Hp} (e : Kp H H') (h : RowsW K us ys H) : RowsW K us ys H' := paired_mono h fun _ _ z => kp_w e z
theorem due_V (u : List Nat) (m : Nat) (hm : u.length ≤ m) : ((List.range (m + 4)).filter fun (i : Nat) => (Pr.lk (Pr.chL u) (-1 + (i : Int))).isSome).map (fun (i : Nat) => V.int (-1 + (i : Int))) = intV (Pr.intsL (Pr.nxL u)) := by
  rw [← Pr.due_nx hm]
  unfold intV
  rw [List.map_map]
  rfl
theorem ok_law (T : Tx mg) {f : Addr} {fd : FuncData} (F : Fun K "law" "law" s_law f fd) (c_count_rows : Cal P w K mg base 5 "count_rows" ["length"] (sp_count_rows K)) (c_l_mixed : Cal P w K mg base 2 "_law_mixed" ["_law_script", "_law_k"] (sp_l_mixed K)) (c_l_some : Cal P w K mg base 1 "_law_some" ["_law_row", "_law_word"] (sp_l_some K)) (c_l_words : Cal P w K mg base 1 "_law_words" ["_law_size"] (sp_l_words K)) (c_l_border_row : Cal P w K mg base 2 "_law_border_row" ["_law_word"] (sp_l_border_row K)) (c_word_of : Cal P w K mg base 3 "word_of" ["row"] (sp_word_of K)) (c_nexts : Cal P w K mg base 4 "nexts" ["row"] (sp_nexts K)) (c_l_text : Cal P w K mg base 2 "_law_text" ["_law_number", "_law_most"] (sp_l_text K)) : FnOk P w K mg base CX0 6 f fd ["_law_script"] (sp_law K) := by
  obtain ⟨f_count_rows, fd_count_rows, G_count_rows, m_count_rows, k_count_rows, b_count_rows⟩ := c_count_rows.ex
  obtain ⟨f_l_mixed, fd_l_mixed, G_l_mixed, m_l_mixed, k_l_mixed, b_l_mixed⟩ := c_l_mixed.ex
  obtain ⟨f_l_some, fd_l_some, G_l_some, m_l_some, k_l_some, b_l_some⟩ := c_l_some.ex
  obtain ⟨f_l_words, fd_l_words, G_l_words, m_l_words, k_l_words, b_l_words⟩ := c_l_words.ex
  obtain ⟨f_l_border_row, fd_l_border_row, G_l_border_row, m_l_border_row, k_l_border_row, b_l_border_row⟩ := c_l_border_row.ex
  obtain ⟨f_word_of, fd_word_of, G_word_of, m_word_of, k_word_of, b_word_of⟩ := c_word_of.ex
  obtain ⟨f_nexts, fd_nexts, G_nexts, m_nexts, k_nexts, b_nexts⟩ := c_nexts.ex
  obtain ⟨f_l_text, fd_l_text, G_l_text, m_l_text, k_l_text, b_l_text⟩ := c_l_text.ex
  refine F.ok sc_law (fun vs H Q E h => ?_) (fun cdv A outer s H vs Q E hr h => ?_)
  · obtain ⟨a, ns, rfl, hS, hlen, q⟩ := h
    rfl
  · have hu := hu_of hr
    obtain ⟨a, ns, rfl, hS, hlen, q⟩ := h
    refine ⟨_, (pss_cons (ps_set (i := 1) sc_law.nd rfl (Or.inl rfl) (pe_call G_l_text (hr.mono (by decide)) (by rfl) m_l_text k_l_text b_l_text .nil pass0 (pa_cons (pe_call G_l_mixed (hr.mono (by decide)) (by rfl) m_l_mixed k_l_mixed b_l_mixed .nil pass0 (pa_cons (pv 0) (pa_cons pe_int pa_nil))) (pa_cons pe_int pa_nil))))
      (pss_cons (ps_set (i := 2) sc_law.nd rfl (Or.inr rfl) (pe_call G_l_border_row (hr.mono (by decide)) (by rfl) m_l_border_row k_l_border_row b_l_border_row .nil pass0 (pa_cons (pv 1) pa_nil)))
      (pss_cons (ps_set (i := 3) sc_law.nd rfl (Or.inl rfl) (pe_call G_nexts (hr.mono (by decide)) (by rfl) m_nexts k_nexts b_nexts .nil pass0 (pa_cons (pv 2) pa_nil)))
      (pss_cons (ps_setLc (i := 4) (own := [("_law_number", 13)]) (g := gName 13) rfl sc_law.nd rfl rfl (sw_true rfl rfl rfl (by decide +kernel)) (pi_range2 (by rfl) T.m_range (pa_cons (pe_un un_neg pe_int) (pa_cons (pe_op oAdd (pe_callB (show CallR _ (.builtin "len") (rLenQ K) from cLenQ) (by rfl) T.m_len (by decide +kernel) (pa_cons (pv 2) pa_nil)) pe_int) pa_nil))) (blkOk_by (own := [("_law_number", 13)]) (N := N_law) (sc := defScope s_law) (by decide +kernel)) (fun _ _ _ _ _ => pg_name (i := 13) sc_law.nd rfl (by first | exact Or.inl rfl | exact Or.inr rfl)) (fun _ _ _ _ _ => pts_one (pt_cmpR oEq (pe_ix (show IxR _ (rIxT K) from ix_tup) (pe_call G_word_of (hr.mono (by decide)) (by rfl) m_word_of k_word_of b_word_of .nil pass0 (pa_cons (pe_op (show OpR _ (binaryOp .Add) (rCatA K) from oCatT) (pv 2) (pe_tup (pa_cons (pv 13) pa_nil))) pa_nil)) pe_int (fun _ _ => rfl)) pe_str (nomark _))) (fun _ _ _ _ _ => (pv 13)))
      (pss_cons (ps_if (PW.pt (pw_or (pt_cmpR (show OpR _ (compareOp .NotEq) (rNeD K) from (oNeD hr.units)) (pv 3) (pe_callTy (show CallR _ (.type "tuple") (rTupOf K) from cTupOf) (by rfl) T.m_tuple (by decide +kernel) (pa_cons (pv 4) pa_nil)) (nomark _)) (pw_or1 (pt_cmpR (show OpR _ (compareOp .NotEq) (rNeD K) from (oNeD hr.units)) (pe_lc (own := [("_law_number", 13)]) (g := gName 13) rfl sc_law.nd (pi_tup (pv 3)) (blkOk_by (own := [("_law_number", 13)]) (N := N_law) (sc := defScope s_law) (by decide +kernel)) (fun _ _ _ _ _ => pg_name (i := 13) sc_law.nd rfl (by first | exact Or.inl rfl | exact Or.inr rfl)) (fun _ _ _ _ _ => pts_one (pt_val (pe_callB (show CallR _ (.builtin "isinstance") (rIsi K) from call_isi) (by rfl) T.m_isinstance (by decide +kernel) (pa_cons (pv 13) (pa_cons (pe_bltn (v := .ty "bool") (by rfl) T.m_bool (by decide +kernel) rfl) pa_nil))))) (fun _ _ _ _ _ => (pv 13))) (pe_lst pa_nil) (nomark _))))) (pss_one (ps_ret pe_bl)) pss_nil)
      (pss_cons (ps_set (i := 5) sc_law.nd rfl (Or.inl rfl) (pe_op oMod (pe_call G_l_mixed (hr.mono (by decide)) (by rfl) m_l_mixed k_l_mixed b_l_mixed .nil pass0 (pa_cons (pv 0) (pa_cons pe_int pa_nil))) pe_int))
      (pss_cons (ps_set (i := 6) sc_law.nd rfl (Or.inl rfl) (pe_call G_count_rows hr (by rfl) m_count_rows k_count_rows b_count_rows .nil pass0 (pa_cons (pv 5) pa_nil)))
      (pss_cons (ps_if (PW.pt (pw_or (pt_val (pe_callB (show CallR _ (.builtin "isinstance") (rIsi K) from call_isi) (by rfl) T.m_isinstance (by decide +kernel) (pa_cons (pv 6) (pa_cons (pe_bltn (v := .ty "bool") (by rfl) T.m_bool (by decide +kernel) rfl) pa_nil)))) (pw_or1 (pt_cmpR oNe (pv 6) (pe_lenSetT rfl hr.units (by rfl) T.m_len (by rfl) T.m_set (pe_lc (own := [("_law_some_here", 12)]) (g := gName 12) rfl sc_law.nd (pi_list (pe_call G_l_words (hr.mono (by decide)) (by rfl) m_l_words k_l_words b_l_words .nil pass0 (pa_cons (pv 5) pa_nil))) (blkOk_by (own := [("_law_some_here", 12)]) (N := N_law) (sc := defScope s_law) (by decide +kernel)) (fun _ _ _ _ _ => pg_name (i := 12) sc_law.nd rfl (by first | exact Or.inl rfl | exact Or.inr rfl)) (fun _ _ _ _ _ => pts_nil) (fun _ _ _ _ _ => (pe_call G_l_border_row (hr.mono (by decide)) (by rfl) m_l_border_row k_l_border_row b_l_border_row .nil pass0 (pa_cons (pv 12) pa_nil))))) (nomark _))))) (pss_one (ps_ret pe_bl)) pss_nil)
      (pss_cons (ps_set (i := 7) sc_law.nd rfl (Or.inl rfl) (pe_lst (pa_cons (pe_tup (pa_cons (pe_tup pa_nil) (pa_cons pe_str pa_nil))) pa_nil)))
      (pss_cons (ps_for PassesOwn.never rfl (pi_range1 (by rfl) T.m_range (pa_cons (pe_op oMod (pe_call G_l_mixed (hr.mono (by decide)) (by rfl) m_l_mixed k_l_mixed b_l_mixed .nil pass0 (pa_cons (pv 0) (pa_cons pe_int pa_nil))) pe_int) pa_nil)) (pg_name (i := 8) sc_law.nd rfl (by first | exact Or.inl rfl | exact Or.inr rfl))
        (pss_cons (ps_set (i := 9) sc_law.nd rfl (Or.inl rfl) (pe_lst pa_nil))
        (pss_cons (ps_for PassesOwn.never rfl (pi_list (pv 7)) (pg_tup rfl (pgs_cons (pg_name (i := 10) sc_law.nd rfl (by first | exact Or.inl rfl | exact Or.inr rfl)) (pgs_cons (pg_name (i := 11) sc_law.nd rfl (by first | exact Or.inl rfl | exact Or.inr rfl)) pgs_nil)))
          (pss_cons (ps_set (i := 12) sc_law.nd rfl (Or.inr rfl) (pe_call G_l_some (hr.mono (by decide)) (by rfl) m_l_some k_l_some b_l_some .nil pass0 (pa_cons (pv 10) (pa_cons (pv 11) pa_nil))))
          (pss_one (ps_set (i := 9) sc_law.nd rfl (Or.inl rfl) (pe_op oCatL (pv 9) (pe_lock (pe_lc (own := [("_law_number", 13)]) (g := gName 13) rfl sc_law.nd (pi_keys (pv 12)) (blkOk_by (own := [("_law_number", 13)]) (N := N_law) (sc := defScope s_law) (by decide +kernel)) (fun _ _ _ _ _ => pg_name (i := 13) sc_law.nd rfl (by first | exact Or.inl rfl | exact Or.inr rfl)) (fun _ _ _ _ _ => pts_nil) (fun _ _ _ _ _ => (pe_tup (pa_cons (pe_op (show OpR _ (binaryOp .Add) (rCatA K) from oCatT) (pv 10) (pe_tup (pa_cons (pv 13) pa_nil))) (pa_cons (pe_op oCat (pv 11) (pe_dget hu (pv 12) (pv 13) (fun _ _ => rfl))) pa_nil)))))))))))
        (pss_one (ps_set (i := 7) sc_law.nd rfl (Or.inl rfl) (pv 9))))))
      (pss_one (ps_ret (pe_cmpR oEq (pe_call G_count_rows hr (by rfl) m_count_rows k_count_rows b_count_rows .nil pass0 (pa_cons (pe_op oMod (pe_call G_l_mixed (hr.mono (by decide)) (by rfl) m_l_mixed k_l_mixed b_l_mixed .nil pass0 (pa_cons (pv 0) (pa_cons pe_int pa_nil))) pe_int) pa_nil)) (pe_callB (show CallR _ (.builtin "len") (rLenQ K) from cLenQ) (by rfl) T.m_len (by decide +kernel) (pa_cons (pv 7) pa_nil)) (nomark _)))))))))))))), ?_⟩
    refine q_asgR (rg_call (ea_cons (ev_call (ea_cons (ev_var rfl) (ea_cons (ev_cn (n := 0)) ea_nil)) (sv_mixed hS (by omega))) (ea_cons (ev_cn (n := 13)) ea_nil)) (sv_text (by omega))) fun v H1 e1 p => ?_
    obtain ⟨w, rfl, hw, _⟩ := p
    refine q_asgR (rg_call (ea_cons (ev_var rfl) ea_nil) (sv_l_border_row (by omega))) fun v H2 e2 p => ?_
    obtain ⟨pr, rfl, hb⟩ := p
    obtain ⟨u, ht, hbu, _, _⟩ := Pr.tell_word w
    have hul : u.length = w.length := by rw [← Pr.brow_len u, ← Pr.brow_len w, hbu]
    have htold : Pr.told u := by
      unfold Pr.told
      rw [hbu]
      exact ht
    have hbl : (natV (Pr.brow w)).length = w.length := by rw [List.length_map, Pr.brow_len]
    refine q_asgR (rg_call (ea_cons (ev_var rfl) ea_nil) (sv_nexts (u := u) (by rw [hbu]; exact hb) htold (by omega))) fun v H3 e3 p => ?_
    obtain ⟨pf, rfl, hf⟩ := p
    have b3 := ex_t e3 hb
    refine q_asgR (rg_lcV (List.range (w.length + 4)) (fun (i : Nat) => V.int (-1 + (i : Int))) (fun i => (Pr.lk (Pr.chL u) (-1 + (i : Int))).isSome) (fun (i : Nat) => V.int (-1 + (i : Int)))
      (src_range2 (lo := -1) (hi := ((w.length : Nat) : Int) + 3) (n := w.length + 4) (ea_cons ev_negC (ea_cons (ev_add (ev_is (ev_lenT (ev_var rfl) b3) (by rw [hbl])) ev_c) ea_nil)) (by omega) (by omega)) (by rw [List.length_range]; omega) (fun x => rfl) (fun i hi H4 e4 => ?_) fun i hi _ H4 e4 => ev_var rfl) fun v H4 e4 p => ?_
    · have cat : ∀ {te tb : TE} {σ : L2.St}, Ev te σ H4 (.ref pr) → (∀ H5, Ex H4 H5 → Ev tb σ H5 (.int (-1 + (i : Int)))) → Rg (tOp (rCatA K) te (tTup (tCons tb tNil)) σ) H4 (isT K ((Pr.intsL (Pr.brow w) ++ [-1 + (i : Int)]).map V.int)) := fun h1 h2 => by
        have z := rg_catT (K := K) (isT_rg h1 (ex_t e4 b3)) (fun H5 e5 => rg_tup (ea_cons (h2 H5 e5) ea_nil) (show 1 ≤ 1000 by decide)) (by rw [hbl]; show _ + 1 ≤ _; omega)
        rw [natV_ints, ← List.map_singleton, ← List.map_append] at z
        exact z
      have ll : (Pr.intsL (Pr.brow w) ++ [-1 + (i : Int)]).length ≤ 14 := by
        unfold Pr.intsL
        rw [List.length_append, List.length_map, Pr.brow_len, List.length_singleton]
        omega
      cases hlk : Pr.lk (Pr.chL u) (-1 + (i : Int)) with
      | some c =>
        have tt : Pr.tell (Pr.intsL (Pr.brow w) ++ [-1 + (i : Int)]) [] = .inl (u ++ [c]) := by
          rw [Pr.tell_app_inl ht, Pr.tell_some hlk]
          rfl
        exact et_is (et_test (ev_op (ev_ixTR (rg_call1 (cat (ev_var rfl) fun H5 e5 => ev_var rfl) fun x H5 e5 p => by
          obtain ⟨p, rfl, hp⟩ := p
          exact sv_word_of hp ll tt) ev_c (atI_nat (j := 0) rfl)) ev_c (rv_eq rfl))) (decide_eq_true rfl)
      | none =>
        have tt : Pr.tell (Pr.intsL (Pr.brow w) ++ [-1 + (i : Int)]) [] = .inr u.length := by
          rw [Pr.tell_app_inl ht, Pr.tell_none hlk]
        exact et_is (et_test (ev_op (ev_ixTR (rg_call1 (cat (ev_var rfl) fun H5 e5 => ev_var rfl) fun x H5 e5 p => by
          obtain ⟨p, rfl, hp⟩ := p
          exact sv_place_of hp ll tt) ev_c (atI_nat (j := 0) rfl)) ev_c (rv_eq rfl))) (decide_eq_false place_word)
    obtain ⟨pd, rfl, _, hd⟩ := p
    rw [due_V u w.length (by omega)] at hd
    have f4 := ex_t e4 hf
    have nxl : (Pr.nxL u).length ≤ 14 := by
      have := Pr.keysL_len u
      unfold Pr.nxL
      rw [List.length_reverse]
      omega
    refine q_when (b := false) (et_is (et_or (et_test (ev_neTi (isT_ni (isT_rg (ev_var rfl) f4)) fun H5 e5 => (rg_tupOf (P := fun ys _ => ys = intV (Pr.intsL (Pr.nxL u))) ((isN_rg (ev_var rfl) (e5 pd _ hd)).imp fun v H6 _ ⟨p, e, h⟩ => ⟨p, _, e, h, rfl⟩) fun _ _ _ _ h => h).imp fun v H6 _ ⟨p, ys, e, h, hy⟩ => ⟨p, e, hy ▸ h⟩)) fun _ => et_test (ev_neNo (α := Nat) (l := Pr.nxL u) (inj := fun (m : Nat) => V.int (m : Int)) (src_tup (ev_var rfl) f4) (by omega) (fun x => rfl) fun m hm H5 e5 => et_B (ev_isi (t := "int") (c := "bool") (r := false) (ev_var rfl) rfl (by decide +kernel)))) (by rw [decide_eq_true rfl]; rfl)) (fun hb => absurd hb (by decide)) (fun _ H5 e5 => ?_)
    have E5 := (((e1.trans e2).trans e3).trans e4).trans e5
    obtain ⟨g1, hg1, hg1l⟩ := int_mod (mixZ ns 1) 7 (by omega)
    refine q_asg (ev_is (ev_mod (ev_call (ea_cons (ev_var rfl) (ea_cons (ev_cn (n := 1)) ea_nil)) (sv_mixed (ex_l E5 hS) (by omega))) ev_c (by omega)) (congrArg V.int hg1)) fun H6 e6 => ?_
    refine q_asg (ev_call (ea_cons (ev_var rfl) ea_nil) (sv_count_rows (n := g1) (by omega))) fun H7 e7 => ?_
    obtain ⟨rm1, rm2⟩ := rows_met g1 (by omega)
    refine q_when (b := false) (et_is (et_or (et_B (ev_isi (t := "int") (c := "bool") (r := false) (ev_var rfl) rfl (by decide +kernel))) fun _ => et_test (ev_neI (ev_var rfl) (ev_is (ev_lenSetT (ks := (wordsN g1).map Pr.brow) ((rg_lc (wordsN g1) (fun x => V.str (S x)) (fun _ => true) (fun x v H8 => RowV K (Pr.brow x) v H8) (src_listN (rg_call (ea_cons (ev_var rfl) ea_nil) (sv_l_words (n := g1) (by omega)))) (by have := wordsN_small g1 (by omega); omega) (fun x v H8 H9 e z => kp_t e z) (fun x => rfl) (fun x hx H8 e8 => et_yes) fun x hx _ H8 e8 => (rg_call (ea_cons (ev_var rfl) ea_nil) (sv_l_border_row (w := x) (by have := wordsN_len _ x hx; omega))).imp fun v H9 _ z => z).imp fun v H8 _ z => by
        obtain ⟨pw, ws, rfl, _, hw2, hpw⟩ := z
        rw [filter_yes] at hpw
        exact ⟨pw, ws, rfl, hw2, paired_mapL (F := fun k v => RowV K k v H8) hpw⟩) (by rw [rm1]; exact rm2)) (by rw [rm1])))) (by rw [decide_eq_true rfl]; rfl)) (fun hb => absurd hb (by decide)) (fun _ H8 e8 => ?_)
    have E8 := ((E5.trans e6).trans e7).trans e8
    refine q_asgR (rg_lst1 (P := fun v H9 => RowW K [] v H9) ((rg_tup2 (rg_tup ea_nil (show 0 ≤ 1000 by decide)) fun H9 e9 => ev_cS empty_S).imp fun v H9 _ z => z) fun v H9 H10 e z => kp_w (Ex.kp e) z) fun v H9 e9 p => ?_
    obtain ⟨p0, x0, rfl, h0, hx0⟩ := p
    have E9 := E8.trans e9
    obtain ⟨g2, hg2, hg2l⟩ := int_mod (mixZ ns 2) 10 (by omega)
    refine q_forR1 (n := (g2 : Int)) (ea_cons (ev_is (ev_mod (ev_call (ea_cons (ev_var rfl) (ea_cons (ev_cn (n := 2)) ea_nil)) (sv_mixed (ex_l E9 hS) (by omega))) ev_c (by omega)) (congrArg V.int hg2)) ea_nil) (by omega)
      (fun k σ' H' => Ex H H' ∧ ∃ (p : Addr) (ys : List V) (x8 x9 x10 x11 x12 : Option V), σ' = [some (.ref a), some (.str (S w)), some (.ref pr), some (.ref pf), some (.ref pd), some (.int (g1 : Int)), some (.int ((Pr.rowsU g1).length : Int)), some (.ref p), x8, x9, x10, x11, x12, none] ∧ H' p = some (.lst ys) ∧ RowsW K (Pr.rowsW k) ys H')
      (fun H10 e10 => ⟨E9.trans e10, p0, [x0], none, none, none, none, none, rfl, e10 p0 _ h0, .cons (kp_w (Ex.kp e10) hx0) .nil⟩) ?_ ?_
    · rintro k σ' H' hk ⟨ex, p, ys, x8, x9, x10, x11, x12, rfl, hp, hys⟩
      have hk9 : k < 9 := by omega
      have hf1 := Pr.rowsW_fct k
      have hf2 := Pr.fct_le (k := k + 1) (by omega)
      refine q_asgR rg_nil fun v H10 f1 p2 => ?_
      obtain ⟨pl0, rfl, hl0⟩ := p2
      refine q_forL (xs := ys) (ev_var rfl) (sq_of (f1 p _ hp)) (fun i σ2 H3 => Ex H10 H3 ∧ ∃ (pl : Addr) (zs : List V) (x10 x11 x12 : Option V), σ2 = [some (.ref a), some (.str (S w)), some (.ref pr), some (.ref pf), some (.ref pd), some (.int (g1 : Int)), some (.int ((Pr.rowsU g1).length : Int)), some (.ref p), some (.int (k : Int)), some (.ref pl), x10, x11, x12, none] ∧ H3 pl = some (.lst zs) ∧ RowsW K (((Pr.rowsW k).take i).flatMap Pr.exk) zs H3)
        (fun H3 f3 => ⟨f3, pl0, [], x10, x11, x12, rfl, f3 pl0 _ hl0, .nil⟩) (fun i σ2 H3 _ z => sq_of ((f1.trans z.1) p _ hp)) ?_ ?_
      · rintro i x σ2 H3 hxi ⟨ex3, pl, zs, x10, x11, x12, rfl, hl3, hz⟩
        obtain ⟨v, hv2, qx, rx, rfl, hq, hrx⟩ := paired_at hys hxi
        have vl := Pr.rowsW_len k v (List.mem_of_getElem? hv2)
        have t3 := f1.trans ex3
        have hq3 := ex_t t3 hq
        have hr3 := ex_t t3 hrx
        refine ⟨qx, _, rfl, hq3, rfl, _, _, rfl, _, _, rfl, rfl, ?_⟩
        refine q_asgR (rg_call (ea_cons (ev_var rfl) (ea_cons (ev_var rfl) ea_nil)) (sv_l_some (u := v) hr3 (by omega))) fun y H4 f4 p4 => ?_
        obtain ⟨dd, rfl, _, hdd⟩ := p4
        have hr4 := ex_t f4 hr3
        have zl : zs.length ≤ (k + 1) * Pr.fct k := by
          rw [← paired_len hz]
          refine Nat.le_trans (Pr.flat_le fun v hv => Pr.exk_len (Pr.rowsW_len k v (List.mem_of_mem_take hv))) (Nat.mul_le_mul_left _ ?_)
          rw [List.length_take]
          omega
        have zl2 : zs.length ≤ 362880 := Nat.le_trans zl hf2
        have kl := Pr.keysL_len v
        refine s_asgR (rg_catR (b := 14) (P := fun ys H5 => RowsW K (Pr.exk v) ys H5) (isN_rg (ev_var rfl) (f4 pl _ hl3)) (fun H5 f5 => rg_lockE (P := fun y H6 => ∃ p ys, y = .ref p ∧ H6 p = some (.lst ys) ∧ Paired (fun m y => RowW K (v ++ [Pr.ch1 v m]) y H6) (Pr.keysL v) ys) (f5 dd _ hdd) True.intro (fun od H6 f6 => ?_) fun od y H6 hd6 z => ?_) (fun ys H5 H6 e z => RowsW.kp (Ex.kp e) z) (by omega)) fun y H5 f5 z => ?_
        · have g6 := f5.trans f6
          have hd6 : (upd H6 dd (.frz od (.dK (dD (Pr.chL v))))) dd = some (.frz od (.dK (dD (Pr.chL v)))) := upd_same
          have hr6 : SqT K (upd H6 dd (.frz od (.dK (dD (Pr.chL v))))) rx (natV (Pr.brow v)) := sq_upd (ex_t g6 hr4) (nrd_dK (g6 dd _ hdd))
          refine (rg_lc (Pr.keysL v) (fun (m : Nat) => V.int (m : Int)) (fun _ => true) (fun m y H7 => RowW K (v ++ [Pr.ch1 v m]) y H7) (src_keys (ev_var rfl) hd6) (by omega) (fun m y H7 H8 e z => kp_w e z) (fun x => rfl) (fun m hm H7 e7 => et_yes) fun m hm _ H7 e7 => ?_).imp fun y H7 _ z => ?_
          · refine (rg_tup2 (K := K) (rg_catT (isT_rg (ev_var rfl) (ex_t e7 hr6)) (fun H8 e8 => rg_tup (ea_cons (ev_var rfl) ea_nil) (show 1 ≤ 1000 by decide)) (by rw [List.length_map, Pr.brow_len]; show _ + 1 ≤ _; omega)) fun H8 e8 => ev_cat (ev_var rfl) (ev_dgetF (ev_var rfl) (ev_var rfl) ((e7.trans e8) dd _ hd6) (Pr.ch1_lk hm)) (by show _ + 1 ≤ _; omega)).imp fun y H8 _ z => ?_
            rw [natV_row hm] at z
            exact z
          · obtain ⟨pw, ws, rfl, _, hw2, hpw⟩ := z
            rw [filter_yes] at hpw
            exact ⟨pw, ws, rfl, hw2, hpw⟩
        · obtain ⟨pw, ws, rfl, hw2, hpw⟩ := z
          have ne : pw ≠ dd := fun z => by
            rw [z, hd6] at hw2
            cases hw2
          refine ⟨pw, ws, rfl, by rw [upd_ne ne]; exact hw2, by rw [← paired_len hpw]; omega, paired_mapL (F := fun u y => RowW K u y _) (paired_mono hpw fun m y z => upd_w (nrd_frz hd6) z)⟩
        · obtain ⟨pw, ws, rfl, hw2, hpw⟩ := z
          refine ⟨(ex3.trans f4).trans f5, pw, zs ++ ws, _, _, _, rfl, hw2, ?_⟩
          rw [upto hv2]
          exact paired_app (RowsW.kp (Ex.kp (f4.trans f5)) hz) hpw
      · rintro σ2 H3 ⟨ex3, pl, zs, x10, x11, x12, rfl, hl3, hz⟩
        rw [← paired_len hys, List.take_length] at hz
        exact s_asg (ev_var rfl) fun H4 f4 => ⟨((ex.trans f1).trans ex3).trans f4, pl, zs, _, _, _, _, _, rfl, f4 pl _ hl3, RowsW.kp (Ex.kp f4) hz⟩
    · rintro σ' H' ⟨ex, p, ys, x8, x9, x10, x11, x12, rfl, hp, hys⟩
      rw [show ((g2 : Int)).toNat = g2 from Int.toNat_natCast g2] at hys
      have hl := paired_len hys
      refine s_ret (ev_eqI (ev_call (ea_cons (ev_is (ev_mod (ev_call (ea_cons (ev_var rfl) (ea_cons (ev_cn (n := 2)) ea_nil)) (sv_mixed (ex_l ex hS) (by omega))) ev_c (by omega)) (congrArg V.int hg2)) ea_nil) (sv_count_rows (n := g2) (by omega))) (ev_lenL (ev_var rfl) (sq_of hp))) fun H10 e10 => ?_
      rw [← hl, Pr.rows_same, decide_eq_true rfl]
      exact q _
end
theorem all_mk {l : PySem.W.OpenLaw} {w : World} {K : PySem.W.Frag} {h : Heap} {mg : Str → Option Value} {fa : Addr} (X : K.In h) (G : h.Ns mainGlobals mg) (hfa : mg "law" = some (.ref fa))
    {f0 : Addr} {od0 an0 : Option Addr} {sl0 : Array (Option Value)} {oc0 kV0 dc0 pm0 cd0 ct0 : Value}
    {f1 : Addr} {od1 an1 : Option Addr} {sl1 : Array (Option Value)} {oc1 kV1 dc1 pm1 cd1 ct1 : Value}
    {f2 : Addr} {od2 an2 : Option Addr} {sl2 : Array (Option Value)} {oc2 kV2 dc2 pm2 cd2 ct2 : Value}
    {f3 : Addr} {od3 an3 : Option Addr} {sl3 : Array (Option Value)} {oc3 kV3 dc3 pm3 cd3 ct3 : Value}
    {f4 : Addr} {od4 an4 : Option Addr} {sl4 : Array (Option Value)} {oc4 kV4 dc4 pm4 cd4 ct4 : Value}
    {f5 : Addr} {od5 an5 : Option Addr} {sl5 : Array (Option Value)} {oc5 kV5 dc5 pm5 cd5 ct5 : Value}
    {f6 : Addr} {od6 an6 : Option Addr} {sl6 : Array (Option Value)} {oc6 kV6 dc6 pm6 cd6 ct6 : Value}
    {f7 : Addr} {od7 an7 : Option Addr} {sl7 : Array (Option Value)} {oc7 kV7 dc7 pm7 cd7 ct7 : Value}
    {f8 : Addr} {od8 an8 : Option Addr} {sl8 : Array (Option Value)} {oc8 kV8 dc8 pm8 cd8 ct8 : Value}
    {f9 : Addr} {od9 an9 : Option Addr} {sl9 : Array (Option Value)} {oc9 kV9 dc9 pm9 cd9 ct9 : Value}
    {f10 : Addr} {od10 an10 : Option Addr} {sl10 : Array (Option Value)} {oc10 kV10 dc10 pm10 cd10 ct10 : Value}
    {f11 : Addr} {od11 an11 : Option Addr} {sl11 : Array (Option Value)} {oc11 kV11 dc11 pm11 cd11 ct11 : Value}
    {f12 : Addr} {od12 an12 : Option Addr} {sl12 : Array (Option Value)} {oc12 kV12 dc12 pm12 cd12 ct12 : Value}
    {f13 : Addr} {od13 an13 : Option Addr} {sl13 : Array (Option Value)} {oc13 kV13 dc13 pm13 cd13 ct13 : Value}
    (a0 : PySem.W.nsIn K mainGlobals "_law_cell_at" = some (some (.ref f0))) (l0 : K.lookup f0 = some ⟨oc0, od0, .func (PySem.W.fnOf "_law_cell_at" "_law_cell_at" (defArgs s_l_cell_at) (defBody s_l_cell_at) (defScope s_l_cell_at) .none kV0 dc0 pm0 an0 cd0 ct0), sl0⟩) (c0 : PySem.W.codeIn K cd0 "_law_cell_at" = true) (k0 : PySem.W.keepIn K (.ref f0) = true)
    (a1 : PySem.W.nsIn K mainGlobals "_law_drawn" = some (some (.ref f1))) (l1 : K.lookup f1 = some ⟨oc1, od1, .func (PySem.W.fnOf "_law_drawn" "_law_drawn" (defArgs s_l_drawn) (defBody s_l_drawn) (defScope s_l_drawn) .none kV1 dc1 pm1 an1 cd1 ct1), sl1⟩) (c1 : PySem.W.codeIn K cd1 "_law_drawn" = true) (k1 : PySem.W.keepIn K (.ref f1) = true)
    (a2 : PySem.W.nsIn K mainGlobals "_law_border" = some (some (.ref f2))) (l2 : K.lookup f2 = some ⟨oc2, od2, .func (PySem.W.fnOf "_law_border" "_law_border" (defArgs s_l_border) (defBody s_l_border) (defScope s_l_border) .none kV2 dc2 pm2 an2 cd2 ct2), sl2⟩) (c2 : PySem.W.codeIn K cd2 "_law_border" = true) (k2 : PySem.W.keepIn K (.ref f2) = true)
    (a3 : PySem.W.nsIn K mainGlobals "_law_some" = some (some (.ref f3))) (l3 : K.lookup f3 = some ⟨oc3, od3, .func (PySem.W.fnOf "_law_some" "_law_some" (defArgs s_l_some) (defBody s_l_some) (defScope s_l_some) .none kV3 dc3 pm3 an3 cd3 ct3), sl3⟩) (c3 : PySem.W.codeIn K cd3 "_law_some" = true) (k3 : PySem.W.keepIn K (.ref f3) = true)
    (a4 : PySem.W.nsIn K mainGlobals "_law_words" = some (some (.ref f4))) (l4 : K.lookup f4 = some ⟨oc4, od4, .func (PySem.W.fnOf "_law_words" "_law_words" (defArgs s_l_words) (defBody s_l_words) (defScope s_l_words) .none kV4 dc4 pm4 an4 cd4 ct4), sl4⟩) (c4 : PySem.W.codeIn K cd4 "_law_words" = true) (k4 : PySem.W.keepIn K (.ref f4) = true)
    (a5 : PySem.W.nsIn K mainGlobals "chain_of" = some (some (.ref f5))) (l5 : K.lookup f5 = some ⟨oc5, od5, .func (PySem.W.fnOf "chain_of" "chain_of" (defArgs s_chain_of) (defBody s_chain_of) (defScope s_chain_of) .none kV5 dc5 pm5 an5 cd5 ct5), sl5⟩) (c5 : PySem.W.codeIn K cd5 "chain_of" = true) (k5 : PySem.W.keepIn K (.ref f5) = true)
    (a6 : PySem.W.nsIn K mainGlobals "_law_mixed" = some (some (.ref f6))) (l6 : K.lookup f6 = some ⟨oc6, od6, .func (PySem.W.fnOf "_law_mixed" "_law_mixed" (defArgs s_l_mixed) (defBody s_l_mixed) (defScope s_l_mixed) .none kV6 dc6 pm6 an6 cd6 ct6), sl6⟩) (c6 : PySem.W.codeIn K cd6 "_law_mixed" = true) (k6 : PySem.W.keepIn K (.ref f6) = true)
    (a7 : PySem.W.nsIn K mainGlobals "_law_text" = some (some (.ref f7))) (l7 : K.lookup f7 = some ⟨oc7, od7, .func (PySem.W.fnOf "_law_text" "_law_text" (defArgs s_l_text) (defBody s_l_text) (defScope s_l_text) .none kV7 dc7 pm7 an7 cd7 ct7), sl7⟩) (c7 : PySem.W.codeIn K cd7 "_law_text" = true) (k7 : PySem.W.keepIn K (.ref f7) = true)
    (a8 : PySem.W.nsIn K mainGlobals "_law_border_row" = some (some (.ref f8))) (l8 : K.lookup f8 = some ⟨oc8, od8, .func (PySem.W.fnOf "_law_border_row" "_law_border_row" (defArgs s_l_border_row) (defBody s_l_border_row) (defScope s_l_border_row) .none kV8 dc8 pm8 an8 cd8 ct8), sl8⟩) (c8 : PySem.W.codeIn K cd8 "_law_border_row" = true) (k8 : PySem.W.keepIn K (.ref f8) = true)
    (a9 : PySem.W.nsIn K mainGlobals "choices" = some (some (.ref f9))) (l9 : K.lookup f9 = some ⟨oc9, od9, .func (PySem.W.fnOf "choices" "choices" (defArgs s_choices) (defBody s_choices) (defScope s_choices) .none kV9 dc9 pm9 an9 cd9 ct9), sl9⟩) (c9 : PySem.W.codeIn K cd9 "choices" = true) (k9 : PySem.W.keepIn K (.ref f9) = true)
    (a10 : PySem.W.nsIn K mainGlobals "word_of" = some (some (.ref f10))) (l10 : K.lookup f10 = some ⟨oc10, od10, .func (PySem.W.fnOf "word_of" "word_of" (defArgs s_word_of) (defBody s_word_of) (defScope s_word_of) .none kV10 dc10 pm10 an10 cd10 ct10), sl10⟩) (c10 : PySem.W.codeIn K cd10 "word_of" = true) (k10 : PySem.W.keepIn K (.ref f10) = true)
    (a11 : PySem.W.nsIn K mainGlobals "nexts" = some (some (.ref f11))) (l11 : K.lookup f11 = some ⟨oc11, od11, .func (PySem.W.fnOf "nexts" "nexts" (defArgs s_nexts) (defBody s_nexts) (defScope s_nexts) .none kV11 dc11 pm11 an11 cd11 ct11), sl11⟩) (c11 : PySem.W.codeIn K cd11 "nexts" = true) (k11 : PySem.W.keepIn K (.ref f11) = true)
    (a12 : PySem.W.nsIn K mainGlobals "count_rows" = some (some (.ref f12))) (l12 : K.lookup f12 = some ⟨oc12, od12, .func (PySem.W.fnOf "count_rows" "count_rows" (defArgs s_count_rows) (defBody s_count_rows) (defScope s_count_rows) .none kV12 dc12 pm12 an12 cd12 ct12), sl12⟩) (c12 : PySem.W.codeIn K cd12 "count_rows" = true) (k12 : PySem.W.keepIn K (.ref f12) = true)
    (a13 : PySem.W.nsIn K mainGlobals "law" = some (some (.ref f13))) (l13 : K.lookup f13 = some ⟨oc13, od13, .func (PySem.W.fnOf "law" "law" (defArgs s_law) (defBody s_law) (defScope s_law) .none kV13 dc13 pm13 an13 cd13 ct13), sl13⟩) (c13 : PySem.W.codeIn K cd13 "law" = true) (k13 : PySem.W.keepIn K (.ref f13) = true)
    {tg0 : Tok} (ag0 : PySem.W.nsIn K mainGlobals "LETTERS" = some (some (.str "abcdefghijklmnopqrstuvwxyz" tg0)))
    (z0 : PySem.W.nsIn K mainGlobals "bool" = some none)
    (z1 : PySem.W.nsIn K mainGlobals "enumerate" = some none)
    (z2 : PySem.W.nsIn K mainGlobals "isinstance" = some none)
    (z3 : PySem.W.nsIn K mainGlobals "len" = some none)
    (z4 : PySem.W.nsIn K mainGlobals "max" = some none)
    (z5 : PySem.W.nsIn K mainGlobals "range" = some none)
    (z6 : PySem.W.nsIn K mainGlobals "set" = some none)
    (z7 : PySem.W.nsIn K mainGlobals "sorted" = some none)
    (z8 : PySem.W.nsIn K mainGlobals "tuple" = some none)
    : ∃ fd : FuncData, (∀ (s : Shared) (v : Value), BindsTo s fd ⟨[v], []⟩ [("_law_script", v)]) ∧ ∀ base : Heap, K.In base → base.Ns mainGlobals mg → FnOk l.prog w K mg base CX0 6 fa fd ["_law_script"] (sp_law K) := by
  have e := hfa.symm.trans (PySem.W.mg_of X G a13)
  cases e
  have T : Tx mg := ⟨PySem.W.mg_none_of X G z0, PySem.W.mg_none_of X G z1, PySem.W.mg_none_of X G z2, PySem.W.mg_none_of X G z3, PySem.W.mg_none_of X G z4, PySem.W.mg_none_of X G z5, PySem.W.mg_none_of X G z6, PySem.W.mg_none_of X G z7, PySem.W.mg_none_of X G z8, ⟨tg0, PySem.W.mg_of X G ag0⟩⟩
  have F0 := fun_mk (st := s_l_cell_at) l0 c0 k0
  have b0 := F0.binds (ps := ["_law_script", "_law_k"]) fun _ _ _ _ _ _ us hl => match us, hl with | [_, _], _ => rfl
  have D_l_cell_at : Dfn K mg "_law_cell_at" s_l_cell_at ["_law_script", "_law_k"] := ⟨_, _, F0, PySem.W.mg_of X G a0, b0⟩
  have F1 := fun_mk (st := s_l_drawn) l1 c1 k1
  have b1 := F1.binds (ps := ["_law_number", "_law_k"]) fun _ _ _ _ _ _ us hl => match us, hl with | [_, _], _ => rfl
  have D_l_drawn : Dfn K mg "_law_drawn" s_l_drawn ["_law_number", "_law_k"] := ⟨_, _, F1, PySem.W.mg_of X G a1, b1⟩
  have F2 := fun_mk (st := s_l_border) l2 c2 k2
  have b2 := F2.binds (ps := ["_law_word"]) fun _ _ _ _ _ _ us hl => match us, hl with | [_], _ => rfl
  have D_l_border : Dfn K mg "_law_border" s_l_border ["_law_word"] := ⟨_, _, F2, PySem.W.mg_of X G a2, b2⟩
  have F3 := fun_mk (st := s_l_some) l3 c3 k3
  have b3 := F3.binds (ps := ["_law_row", "_law_word"]) fun _ _ _ _ _ _ us hl => match us, hl with | [_, _], _ => rfl
  have D_l_some : Dfn K mg "_law_some" s_l_some ["_law_row", "_law_word"] := ⟨_, _, F3, PySem.W.mg_of X G a3, b3⟩
  have F4 := fun_mk (st := s_l_words) l4 c4 k4
  have b4 := F4.binds (ps := ["_law_size"]) fun _ _ _ _ _ _ us hl => match us, hl with | [_], _ => rfl
  have D_l_words : Dfn K mg "_law_words" s_l_words ["_law_size"] := ⟨_, _, F4, PySem.W.mg_of X G a4, b4⟩
  have F5 := fun_mk (st := s_chain_of) l5 c5 k5
  have b5 := F5.binds (ps := ["row", "size"]) fun _ _ _ _ _ _ us hl => match us, hl with | [_, _], _ => rfl
  have D_chain_of : Dfn K mg "chain_of" s_chain_of ["row", "size"] := ⟨_, _, F5, PySem.W.mg_of X G a5, b5⟩
  have F6 := fun_mk (st := s_l_mixed) l6 c6 k6
  have b6 := F6.binds (ps := ["_law_script", "_law_k"]) fun _ _ _ _ _ _ us hl => match us, hl with | [_, _], _ => rfl
  have D_l_mixed : Dfn K mg "_law_mixed" s_l_mixed ["_law_script", "_law_k"] := ⟨_, _, F6, PySem.W.mg_of X G a6, b6⟩
  have F7 := fun_mk (st := s_l_text) l7 c7 k7
  have b7 := F7.binds (ps := ["_law_number", "_law_most"]) fun _ _ _ _ _ _ us hl => match us, hl with | [_, _], _ => rfl
  have D_l_text : Dfn K mg "_law_text" s_l_text ["_law_number", "_law_most"] := ⟨_, _, F7, PySem.W.mg_of X G a7, b7⟩
  have F8 := fun_mk (st := s_l_border_row) l8 c8 k8
  have b8 := F8.binds (ps := ["_law_word"]) fun _ _ _ _ _ _ us hl => match us, hl with | [_], _ => rfl
  have D_l_border_row : Dfn K mg "_law_border_row" s_l_border_row ["_law_word"] := ⟨_, _, F8, PySem.W.mg_of X G a8, b8⟩
  have F9 := fun_mk (st := s_choices) l9 c9 k9
  have b9 := F9.binds (ps := ["row", "word"]) fun _ _ _ _ _ _ us hl => match us, hl with | [_, _], _ => rfl
  have D_choices : Dfn K mg "choices" s_choices ["row", "word"] := ⟨_, _, F9, PySem.W.mg_of X G a9, b9⟩
  have F10 := fun_mk (st := s_word_of) l10 c10 k10
  have b10 := F10.binds (ps := ["row"]) fun _ _ _ _ _ _ us hl => match us, hl with | [_], _ => rfl
  have D_word_of : Dfn K mg "word_of" s_word_of ["row"] := ⟨_, _, F10, PySem.W.mg_of X G a10, b10⟩
  have F11 := fun_mk (st := s_nexts) l11 c11 k11
  have b11 := F11.binds (ps := ["row"]) fun _ _ _ _ _ _ us hl => match us, hl with | [_], _ => rfl
  have D_nexts : Dfn K mg "nexts" s_nexts ["row"] := ⟨_, _, F11, PySem.W.mg_of X G a11, b11⟩
  have F12 := fun_mk (st := s_count_rows) l12 c12 k12
  have b12 := F12.binds (ps := ["length"]) fun _ _ _ _ _ _ us hl => match us, hl with | [_], _ => rfl
  have D_count_rows : Dfn K mg "count_rows" s_count_rows ["length"] := ⟨_, _, F12, PySem.W.mg_of X G a12, b12⟩
  have F13 := fun_mk (st := s_law) l13 c13 k13
  refine ⟨PySem.W.fnOf "law" "law" (defArgs s_law) (defBody s_law) (defScope s_law) .none kV13 dc13 pm13 an13 cd13 ct13, fun s v => .of_eq rfl, fun base _ _ => ?_⟩
  have C_l_cell_at := ok_l_cell_at (P := l.prog) (w := w) (base := base) T D_l_cell_at 
  have C_l_drawn := ok_l_drawn (P := l.prog) (w := w) (base := base) T D_l_drawn 
  have C_l_border := ok_l_border (P := l.prog) (w := w) (base := base) T D_l_border 
  have C_l_some := ok_l_some (P := l.prog) (w := w) (base := base) T D_l_some 
  have C_l_words := ok_l_words (P := l.prog) (w := w) (base := base) T D_l_words 
  have C_chain_of := ok_chain_of (P := l.prog) (w := w) (base := base) T D_chain_of 
  have C_l_mixed := ok_l_mixed (P := l.prog) (w := w) (base := base) T D_l_mixed C_l_cell_at
  have C_l_text := ok_l_text (P := l.prog) (w := w) (base := base) T D_l_text C_l_drawn
  have C_l_border_row := ok_l_border_row (P := l.prog) (w := w) (base := base) T D_l_border_row C_l_border
  have C_choices := ok_choices (P := l.prog) (w := w) (base := base) T D_choices C_chain_of
  have C_word_of := ok_word_of (P := l.prog) (w := w) (base := base) T D_word_of C_choices
  have C_nexts := ok_nexts (P := l.prog) (w := w) (base := base) T D_nexts C_choices C_word_of
  have C_count_rows := ok_count_rows (P := l.prog) (w := w) (base := base) T D_count_rows C_nexts
  exact ok_law T F13 C_count_rows C_l_mixed C_l_some C_l_words C_l_border_row C_word_of C_nexts C_l_text
end BW
open PySem PySem.W PyProof.Rows
set_option maxRecDepth 100000 in
set_option maxHeartbeats 0 in
theorem PySem.Challenge.cw_borderrow_k22_whole_what_may_come_next_holds : PySem.Challenge.rw_borderrow_k22_whole_what_may_come_next.Holds := by
  w_on; o_law; k_head; (case hw => w_witness2)
  k_fill
  refine L2.walk_of (l := PySem.Challenge.rw_borderrow_k22_whole_what_may_come_next) (n := 63) (k := 6) (x := "_law_script") (CX := fun _ => L2.CX0) (sp := fun w => BW.sp_law _) rfl (by decide) rfl ⟨rfl, by decide, by decide⟩ (fun w h Y => PySem.W.kIn_of Y) ?F (fun _ _ a ns hl _ hS => ⟨a, ns, rfl, hS, hl, fun _ => rfl⟩) (fun _ _ _ _ _ h => h)
  case F =>
    intro w mg fa h KX G hmg
    refine' BW.all_mk KX G hmg ?a0 ?l0 ?c0 ?k0 ?a1 ?l1 ?c1 ?k1 ?a2 ?l2 ?c2 ?k2 ?a3 ?l3 ?c3 ?k3 ?a4 ?l4 ?c4 ?k4 ?a5 ?l5 ?c5 ?k5 ?a6 ?l6 ?c6 ?k6 ?a7 ?l7 ?c7 ?k7 ?a8 ?l8 ?c8 ?k8 ?a9 ?l9 ?c9 ?k9 ?a10 ?l10 ?c10 ?k10 ?a11 ?l11 ?c11 ?k11 ?a12 ?l12 ?c12 ?k12 ?a13 ?l13 ?c13 ?k13 ?ag0 ?z0 ?z1 ?z2 ?z3 ?z4 ?z5 ?z6 ?z7 ?z8
    (case a0 => k_is)
    (case l0 => k_is)
    (case c0 => k_is)
    (case k0 => k_is)
    (case a1 => k_is)
    (case l1 => k_is)
    (case c1 => k_is)
    (case k1 => k_is)
    (case a2 => k_is)
    (case l2 => k_is)
    (case c2 => k_is)
    (case k2 => k_is)
    (case a3 => k_is)
    (case l3 => k_is)
    (case c3 => k_is)
    (case k3 => k_is)
    (case a4 => k_is)
    (case l4 => k_is)
    (case c4 => k_is)
    (case k4 => k_is)
    (case a5 => k_is)
    (case l5 => k_is)
    (case c5 => k_is)
    (case k5 => k_is)
    (case a6 => k_is)
    (case l6 => k_is)
    (case c6 => k_is)
    (case k6 => k_is)
    (case a7 => k_is)
    (case l7 => k_is)
    (case c7 => k_is)
    (case k7 => k_is)
    (case a8 => k_is)
    (case l8 => k_is)
    (case c8 => k_is)
    (case k8 => k_is)
    (case a9 => k_is)
    (case l9 => k_is)
    (case c9 => k_is)
    (case k9 => k_is)
    (case a10 => k_is)
    (case l10 => k_is)
    (case c10 => k_is)
    (case k10 => k_is)
    (case a11 => k_is)
    (case l11 => k_is)
    (case c11 => k_is)
    (case k11 => k_is)
    (case a12 => k_is)
    (case l12 => k_is)
    (case c12 => k_is)
    (case k12 => k_is)
    (case a13 => k_is)
    (case l13 => k_is)
    (case c13 => k_is)
    (case k13 => k_is)
    (case ag0 => k_is)
    (case z0 => k_is)
    (case z1 => k_is)
    (case z2 => k_is)
    (case z3 => k_is)
    (case z4 => k_is)
    (case z5 => k_is)
    (case z6 => k_is)
    (case z7 => k_is)
    (case z8 => k_is)
