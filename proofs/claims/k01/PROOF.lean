import PyProof.Rows.All
import Wide.All
import OpenK.AllK
import Wide.FinOn
import HandS.ForMost
import HandS.ForExc
import HandS.Wide
import HandS.TupAny
import HandS.TupMul
import HandS.IsInst
import HandS.Small
import HandS.Deep
import HandS.Style
import HandS.Evl
import HandS.ReCall
import KE.KRevSl
import KE.LtData
import PySem.Challenge.RW_pourback_k01_parts_shares_rows_known
set_option Elab.async false
set_option linter.all false
set_option maxRecDepth 100000
set_option maxHeartbeats 4000000
/-! Fractions: sizes. -/
namespace PB
/-- top and bottom below 2 ^ n -/
def sz (x : Rat) (n : Nat) : Prop := x.den < 2 ^ n ∧ x.num.natAbs < 2 ^ n
theorem sz.mono {x : Rat} {n m : Nat} (h : sz x n) (l : n ≤ m) : sz x m :=
  ⟨Nat.lt_of_lt_of_le h.1 (Nat.pow_le_pow_right (by decide) l), Nat.lt_of_lt_of_le h.2 (Nat.pow_le_pow_right (by decide) l)⟩
theorem sz.pos {x : Rat} {n : Nat} (h : sz x n) : 0 < n := by
  cases n with
  | zero => have := h.1; have := x.den_pos; simp at *; omega
  | succ n => omega
theorem mkRat_den_le (t : Int) (n : Nat) (h : 0 < n) : (mkRat t n).den ≤ n := by
  rw [Rat.den_mkRat, if_neg (by omega)]
  exact Nat.div_le_self _ _
theorem mkRat_num_le (t : Int) (n : Nat) : (mkRat t n).num.natAbs ≤ t.natAbs := by
  rw [Rat.num_mkRat]
  split
  · simp
  · rw [Int.natAbs_ediv_of_dvd]
    · exact Nat.div_le_self _ _
    · exact Int.ofNat_dvd_left.mpr (Nat.gcd_dvd_right _ _)
theorem mul_lt_pow {a b n m : Nat} (h1 : a < 2 ^ n) (h2 : b < 2 ^ m) : a * b < 2 ^ (n + m) := by
  rw [Nat.pow_add]
  exact Nat.mul_lt_mul'' h1 h2
theorem sz_mul {x y : Rat} {n m : Nat} (hx : sz x n) (hy : sz y m) : sz (x * y) (n + m) := by
  rw [Rat.mul_def']
  refine ⟨Nat.lt_of_le_of_lt (mkRat_den_le _ _ (Nat.mul_pos x.den_pos y.den_pos)) (mul_lt_pow hx.1 hy.1), Nat.lt_of_le_of_lt (mkRat_num_le _ _) ?_⟩
  rw [Int.natAbs_mul]
  exact mul_lt_pow hx.2 hy.2
theorem addsz {x y : Rat} {n m : Nat} (hx : sz x n) (hy : sz y m) : x.num.natAbs * y.den + y.num.natAbs * x.den < 2 ^ (n + m + 1) := by
  have h1 := mul_lt_pow hx.2 hy.1
  have h2 := mul_lt_pow hy.2 hx.1
  rw [Nat.add_comm m n] at h2
  rw [Nat.pow_succ]
  omega
theorem sz_add {x y : Rat} {n m : Nat} (hx : sz x n) (hy : sz y m) : sz (x + y) (n + m + 1) := by
  rw [Rat.add_def']
  refine ⟨Nat.lt_of_le_of_lt (mkRat_den_le _ _ (Nat.mul_pos x.den_pos y.den_pos)) (Nat.lt_trans (mul_lt_pow hx.1 hy.1) (Nat.pow_lt_pow_right (by decide) (by omega))), Nat.lt_of_le_of_lt (mkRat_num_le _ _) ?_⟩
  refine Nat.lt_of_le_of_lt (Int.natAbs_add_le _ _) ?_
  rw [Int.natAbs_mul, Int.natAbs_mul, Int.natAbs_natCast, Int.natAbs_natCast]
  exact addsz hx hy
theorem natAbs_sub_le' (a b : Int) : (a - b).natAbs ≤ a.natAbs + b.natAbs := by omega
theorem sz_sub {x y : Rat} {n m : Nat} (hx : sz x n) (hy : sz y m) : sz (x - y) (n + m + 1) := by
  rw [Rat.sub_def']
  refine ⟨Nat.lt_of_le_of_lt (mkRat_den_le _ _ (Nat.mul_pos x.den_pos y.den_pos)) (Nat.lt_trans (mul_lt_pow hx.1 hy.1) (Nat.pow_lt_pow_right (by decide) (by omega))), Nat.lt_of_le_of_lt (mkRat_num_le _ _) ?_⟩
  refine Nat.lt_of_le_of_lt (natAbs_sub_le' _ _) ?_
  rw [Int.natAbs_mul, Int.natAbs_mul, Int.natAbs_natCast, Int.natAbs_natCast]
  exact addsz hx hy
theorem num_pos {y : Rat} (h : 0 < y) : 0 < y.num := by
  have h1 := (Rat.lt_iff 0 y).mp h
  simpa using h1
theorem div_def' {x y : Rat} (h : 0 < y) : x / y = mkRat (x.num * y.den) (x.den * y.num.toNat) := by
  have hp := num_pos h
  have e : ((y.num.toNat : Nat) : Int) = y.num := Int.toNat_of_nonneg (by omega)
  rw [Rat.div_def, Rat.inv_def]
  conv => lhs; lhs; rw [← Rat.num_divInt_den x]
  rw [Rat.divInt_mul_divInt, ← Rat.divInt_ofNat, Int.natCast_mul, e]
theorem sz_div {x y : Rat} {n m : Nat} (h : 0 < y) (hx : sz x n) (hy : sz y m) : sz (x / y) (n + m) := by
  have hp := num_pos h
  rw [div_def' h]
  have e : y.num.toNat = y.num.natAbs := by omega
  refine ⟨Nat.lt_of_le_of_lt (mkRat_den_le _ _ (Nat.mul_pos x.den_pos (by omega))) (mul_lt_pow hx.1 (by rw [e]; exact hy.2)), Nat.lt_of_le_of_lt (mkRat_num_le _ _) ?_⟩
  rw [Int.natAbs_mul, Int.natAbs_natCast]
  exact mul_lt_pow hx.2 hy.1
theorem sz_one : sz 1 1 := ⟨by decide, by decide⟩
theorem sz_zero : sz 0 1 := ⟨by decide, by decide⟩
/-- a share is small where its bottom is -/
theorem sz_unit {x : Rat} {n : Nat} (h0 : 0 ≤ x) (h1 : x ≤ 1) (h : x.den < 2 ^ n) : sz x n := by
  refine ⟨h, ?_⟩
  have h2 := (Rat.le_iff x 1).mp h1
  have h3 := Rat.num_nonneg.mpr h0
  simp at h2
  omega
/-! the bottom divides -/
theorem den_dvd {x : Rat} {N : Nat} {t : Int} (h : x * (N : Rat) = (t : Rat)) : x.den ∣ N := by
  have e : (x * (N : Rat)) = mkRat (x.num * N) x.den := by
    rw [Rat.mul_def']; simp
  rw [e] at h
  have e2 : mkRat (x.num * N) x.den = mkRat t 1 := by
    rw [h, Rat.mkRat_eq_div]
    have : ((1 : Nat) : Rat) = 1 := rfl
    rw [this]; grind
  rw [Rat.mkRat_eq_iff (by have := x.den_pos; omega) (by decide)] at e2
  have h3 : (x.den : Int) ∣ x.num * N := ⟨t, by rw [Int.mul_comm (x.den : Int) t]; simpa using e2⟩
  have h4 : x.den ∣ x.num.natAbs * N := by
    have := Int.natAbs_dvd_natAbs.mpr h3
    simpa [Int.natAbs_mul] using this
  exact Nat.Coprime.dvd_of_dvd_mul_left (Nat.Coprime.symm x.reduced) h4
theorem mul_den (x : Rat) : x * (x.den : Rat) = (x.num : Rat) := by
  have e := Rat.mkRat_self x
  rw [Rat.mkRat_eq_div] at e
  have h0 : (x.den : Rat) ≠ 0 := by
    intro c
    have := x.den_pos
    have h := Rat.natCast_eq_zero_iff.mp c
    omega
  conv => lhs; lhs; rw [← e]
  exact Rat.div_mul_cancel h0
end PB
/-! Tuples that are known to have no dict: the rules that make a tuple, each leaving HO.frz. -/
namespace DL
open PySem PySem.Spec PyProof.Rows L2
section
variable {X : Cx} {es : List Expr} {t : TA} {pos : Pos}
/-- a new tuple at p -/
def NewT (H : Hp) (xs : List V) (Q : VK) : Prop := ∀ p ob, H p = none → ob.dict = none → Q (.ref p) (upd H p (.frz ob (.tup xs)))
theorem lay_tup {pins : List (Addr × Obj)} {σ : L2.St} {H : Hp} {s : Shared} {xs : List V} {us : List Value} {Q : VK} (I : Inv X pins σ H s) (z : xs.length ≤ sizeLine) (r : Vals xs us) (q : NewT H xs Q) :
    EP X pins σ Q (.ref s.heap.objs.size) { s with heap := s.heap.push { cls := .type "tuple", data := .seq us.toArray } } := by
  have hn : H s.heap.objs.size = none := I.hok.fresh (Nat.le_refl _)
  refine ⟨.ref s.heap.objs.size, _, I.laid (t' := s.toks) (o := .frz { cls := .type "tuple", data := .seq us.toArray } (.tup xs)) (fun c oc e => Heap.get?_push_of_some _ e) (Nat.le_refl _) ?_, rfl, q _ _ hn rfl⟩
  exact ⟨Heap.get?_push_size _ rfl, z, us, r, ⟨_, Heap.get?_push_size _ rfl, rfl, _, rfl⟩⟩
def tTupN (t : TA) : TE := fun σ H Q => t σ H fun xs H1 => xs.length ≤ sizeLine ∧ NewT H1 xs Q
theorem pe_tupN {x1} (h : PA X es t) : PE X (.Tuple es x1 pos) (tTupN t) := by
  refine ⟨fun pins s σ H Q I hq => wpAny_Tuple_spliced (thn (h.run pos pins s σ H _ I hq) ?_)⟩
  rintro us s1 ⟨xs, H1, I1, r, z, q⟩
  exact ⟨by rw [← r.length]; exact z, lay_tup I1 z r q⟩
/-- t + u -/
def rCatN (K : PySem.W.Frag) : R2 := fun x y H Q => ∃ a b xs ys, x = .ref a ∧ y = .ref b ∧ SqT K H a xs ∧ SqT K H b ys ∧ xs.length + ys.length ≤ sizeLine ∧ (xs = [] → Q (.ref b) H) ∧ (xs ≠ [] → ys = [] → Q (.ref a) H) ∧ (xs ≠ [] → ys ≠ [] → NewT H (xs ++ ys) Q)
theorem op_catN : OpR X (binaryOp .Add) (rCatN X.K) := by
  intro pins s σ H x y v u Q I rx ry h
  obtain ⟨a, b, xs, ys, rfl, rfl, ha, hb, hz, q0, q1, q2⟩ := h
  cases rx
  cases ry
  obtain ⟨vs, r1, p1, _⟩ := I.tuple ha
  obtain ⟨ws, r2, p2, _⟩ := I.tuple hb
  by_cases hx : xs = []
  · subst hx
    cases r1
    exact cat_tup0 p1 p2 ⟨.ref b, H, I, rfl, q0 rfl⟩
  · refine HT.cat_tup p1 p2 (fun e => hx (r1.nil_iff.mp e)) (fun e => ⟨.ref a, H, I, rfl, q1 hx (r2.nil_iff.mp e)⟩) (fun e => ?_) (by rw [← r1.length, ← r2.length]; exact hz)
    have := lay_tup (us := vs ++ ws) I (by rw [List.length_append]; exact hz) (r1.append r2) (q2 hx fun e2 => e (r2.nil_iff.mpr e2))
    simpa using this
/-- t[lo:hi] -/
def rSlN (K : PySem.W.Frag) : V → Option Int → Option Int → Hp → VK → Prop := fun x lo hi H Q => ∃ a xs, x = .ref a ∧ SqT K H a xs ∧
  (HT.sIx xs.length 0 lo = 0 ∧ HT.sIx xs.length xs.length hi = xs.length → Q (.ref a) H) ∧ (¬ (HT.sIx xs.length 0 lo = 0 ∧ HT.sIx xs.length xs.length hi = xs.length) → NewT H (cutV xs lo hi) Q)
theorem sl_tupN : SlR X (rSlN X.K) := by
  intro pins s σ H x v vl vu lo hi sl Q I rx hs pl pu h
  obtain ⟨a, xs, rfl, hx, q1, q2⟩ := h
  cases rx
  obtain ⟨vs, r, ht, hz⟩ := I.tuple hx
  have hl : vs.toArray.size = xs.length := by rw [List.size_toArray]; exact r.length.symm
  refine ⟨"tuple", _, PyProof.Rows.slot_tuple_getitem.lookup, ht.typeIs, ?_⟩
  by_cases hw : HT.sIx xs.length 0 lo = 0 ∧ HT.sIx xs.length xs.length hi = xs.length
  · exact getItem_tuple_whole ht hs pl pu (by rw [hl]; exact hw) ⟨.ref a, H, I, rfl, q1 hw⟩
  · refine HT.getItem_tuple_cut ht hs pl pu (by rw [hl]; exact hw) ?_ (by rw [hl]; exact hz)
    rw [hl]
    exact lay_tup I (Nat.le_trans (cutV_length xs lo hi) hz) ((r.drop (HT.sIx xs.length 0 lo)).take (HT.sIx xs.length xs.length hi - HT.sIx xs.length 0 lo)) (q2 hw)
/-- tuple(xs) -/
theorem call_tupN : CallR X (.type "tuple") (fun xs H Q => ∃ p ys, xs = [.ref p] ∧ ((SqL X.K H p ys ∧ NewT H ys Q) ∨ (SqT X.K H p ys ∧ Q (.ref p) H))) := by
  intro pins s σ H xs us Q I r h
  obtain ⟨p, ys, rfl, h⟩ := h
  obtain ⟨u, rfl, rx⟩ := vals1 r
  cases rx
  rcases h with ⟨hq, q⟩ | ⟨hq, q⟩
  · obtain ⟨vs, r', pl, hz⟩ := I.list hq
    have hl := r'.length
    refine call_tuple_list pl.isList (fun h' kp => ?_) (by simp only [List.size_toArray] <;> omega)
    have I1 : Inv X pins σ H { s with heap := h' } := I.kept (t' := s.toks) kp
    exact lay_tup I1 hz r' q
  · obtain ⟨vs, r', pl, hz⟩ := I.tuple hq
    exact call_tuple_same pl ⟨.ref p, H, I, rfl, q⟩
/-! ### t * n -/
theorem mul_one_tup (l : Addr) (xs : Array Value) (n : Nat) (dd : Option Addr) (sl : Array (Option Value)) (u : Tok) :
    Meets (Builtin.«tuple.__mul__» ⟨[.ref l, .int 1 u], []⟩) (fun _ R s => s.heap.get? l = some { cls := .type "tuple", dict := dd, data := .seq xs n, slots := sl } ∧ R (.ok (.ret (.ref l))) s) :=
  .of_wp fun prog w A R s h => by
    obtain ⟨hp, g, d, tk, os⟩ := s
    obtain ⟨hl, h⟩ := h
    have f1 := AutoSeq1.idx_int
    have c1 : (xs.isEmpty || (1 : Int) == 1) = true := by simp
    wp_walk using wpAny_loadPart' hl
    exact ⟨_, rfl, h⟩
theorem mul_nil_tup (l : Addr) (xs : Array Value) (n : Nat) (dd : Option Addr) (sl : Array (Option Value)) (u : Tok) (hne : xs.isEmpty = false) :
    Meets (Builtin.«tuple.__mul__» ⟨[.ref l, .int 0 u], []⟩) (fun _ R s => s.heap.get? l = some { cls := .type "tuple", dict := dd, data := .seq xs n, slots := sl } ∧
      R (.ok (.ret (Value.ref s.heap.objs.size))) { s with heap := s.heap.push { cls := Value.type "tuple", data := Data.seq #[] }, toks := s.toks }) :=
  .of_wp fun prog w A R s h => by
    obtain ⟨hp, g, d, tk, os⟩ := s
    obtain ⟨hl, h⟩ := h
    have f1 := AutoSeq1.idx_int
    have c1 : (xs.isEmpty || (0 : Int) == 1) = false := by rw [hne]; rfl
    wp_walk using wpAny_loadPart' hl
    exact ⟨_, rfl, h⟩
def rRep (K : PySem.W.Frag) : R2 := fun x y H Q => ∃ l k xs, x = .ref l ∧ y = .int k ∧ SqT K H l xs ∧ xs ≠ [] ∧ 0 ≤ k ∧ k ≤ 1000 ∧ xs.length ≤ 1000 ∧ (k = 1 → Q (.ref l) H) ∧ (k ≠ 1 → NewT H (List.replicate k.toNat xs).flatten Q)
theorem op_rep : OpR X (binaryOp .Mult) (rRep X.K) := by
  intro pins s σ H x y v u Q I rx ry h
  obtain ⟨l, k, xs, rfl, rfl, hT, hne, h1, h2, hz, q1, q2⟩ := h
  cases rx
  obtain ⟨t, rfl⟩ := ry
  obtain ⟨vs, r, ⟨⟨cls, dd, data, sl⟩, ho, hc, n, hd⟩, hs⟩ := I.tuple hT
  simp only at hc hd
  subst hc hd
  have hv : vs.length = xs.length := r.length.symm
  have hn : vs ≠ [] := fun e => hne (by
    rw [e] at hv
    exact List.eq_nil_of_length_eq_zero hv.symm)
  have hi : vs.toArray.isEmpty = false := by
    cases vs with
    | nil => exact absurd rfl hn
    | cons z zs => rfl
  refine wpAny_binaryOp_repeat_ref (T := "tuple") (U := "int") (by decide) ⟨_, ho, rfl⟩ (fun s' => typeIs_int s' k t) noFill_tuple_mul F.fills_int_mul F.slot_int_rmul repeat_tuple F.slot_int_index.lookup
    (call_meets F.slot_int_rmul (typeIs_int s k t) F.entry_int_rmul (F.args_int_rmul_2 _ _) (int_rmul_tuple k t l vs.toArray n dd sl) ⟨ho, rfl, ⟨_, ho, rfl⟩, ?_⟩)
  by_cases c0 : k = 0
  · subst c0
    refine call_meets F.slot_tuple_mul ⟨_, ho, rfl⟩ F.entry_tuple_mul (F.args_tuple_mul_2 _ _) (mul_nil_tup l vs.toArray n dd sl t hi) ⟨ho, ?_⟩
    exact lay_tup (xs := []) (us := []) I (Nat.zero_le _) Paired.nil (q2 (by decide))
  by_cases c1 : k = 1
  · subst c1
    exact call_meets F.slot_tuple_mul ⟨_, ho, rfl⟩ F.entry_tuple_mul (F.args_tuple_mul_2 _ _) (mul_one_tup l vs.toArray n dd sl t) ⟨ho, ⟨.ref l, H, I, rfl, q1 rfl⟩⟩
  have hsz : vs.toArray.size = xs.length := by rw [List.size_toArray, hv]
  have hm : ((vs.toArray.size : Nat) : Int) * k ≤ 1000000 := by
    rw [hsz]
    have : ((xs.length : Nat) : Int) * k ≤ 1000 * k := Int.mul_le_mul_of_nonneg_right (by omega) (by omega)
    omega
  have hlen : k.toNat * xs.length ≤ 1000 * 1000 := Nat.mul_le_mul (by omega) hz
  have hfl : (List.replicate k.toNat xs).flatten.length ≤ sizeLine := by
    rw [PyProof.Rows.lm_len_rep_flat, sizeLine_eq]; omega
  refine call_meets F.slot_tuple_mul ⟨_, ho, rfl⟩ F.entry_tuple_mul (F.args_tuple_mul_2 _ _) (tuple_mulW l vs.toArray n dd sl k t ?_ ?_ ?_ ?_ ?_ ?_) ⟨ho, ?_⟩
  · rw [decide_eq_false (by omega), decide_eq_false (by omega)] <;> rfl
  · rw [hi, Bool.false_or]; exact beq_eq_false_iff_ne.mpr c1
  · rw [hi, Bool.or_false]; exact decide_eq_false (by omega)
  · omega
  · unfold Builtin.Tuple.tupleTooMany
    rw [sizeLine_eq]
    exact decide_eq_false (by omega)
  · rw [size_rep, List.size_toArray, PyProof.Rows.lm_len_rep_flat, hv, sizeLine_eq]; omega
  · rw [size_rep]
    exact lay_tup I hfl (r.rep k.toNat) (q2 c1)
/-! ### t.count(text) -/
def eqs (k : Str) (v : Value) : Bool := match v with
  | .str y _ => y.cps.toList == k.cps.toList
  | _ => false
theorem eqs_gives {k : Str} {t : Tok} : ∀ {us : List Value} {ss : List Str}, Vals (ss.map V.str) us → ∀ y ∈ us, MeetsSeq.EqGives y (.str k t) (eqs k y)
  | _, [], .nil => fun y hy => by cases hy
  | _, s :: ss, .cons r h => fun y hy => by
    obtain ⟨t', rfl⟩ := r
    rcases List.mem_cons.mp hy with e | e
    · rw [e]
      exact SeqRoads2.EqGives.str s k t' t
    · exact eqs_gives h y e
theorem eqs_count {k : Str} : ∀ {us : List Value} {ss : List Str}, Vals (ss.map V.str) us → us.countP (eqs k) = ss.countP (fun s => s.cps.toList == k.cps.toList)
  | _, [], .nil => rfl
  | _, s :: ss, .cons r h => by
    obtain ⟨t', rfl⟩ := r
    rw [List.countP_cons, List.countP_cons, eqs_count h]; rfl
def rCntS (K : PySem.W.Frag) : V → List V → Hp → VK → Prop := fun x xs H Q => ∃ (p : Addr) (ss : List Str) (k : Str), x = .ref p ∧ xs = [.str k] ∧ SqT K H p (ss.map V.str) ∧ Q (.int (ss.countP (fun s => s.cps.toList == k.cps.toList) : Nat)) H
theorem mt_tcount : MtR X "tuple.count" (rCntS X.K) := by
  intro pins s σ H x xs v us Q I rx rxs h
  obtain ⟨p, ss, k, rfl, rfl, hs, q⟩ := h
  cases rx
  obtain ⟨u, rfl, ru⟩ := rxs.one
  obtain ⟨t, rfl⟩ := ru
  obtain ⟨vs, rv, ⟨⟨cls, dd, data, sl⟩, ho, hc, n, hd⟩, hz⟩ := I.tuple hs
  simp only at hc hd
  subst hc hd
  refine call_meets PySem.F.slot_tuple_count ⟨_, ho, rfl⟩ PySem.F.entry_tuple_count (PySem.F.args_tuple_count_2 _ _) (SeqAt.tuple_countAt p vs.toArray n dd sl (.str k t) (eqs k)) ⟨ho, fun y hy => (eqs_gives rv y (by simpa using hy)).at _ _, ?_⟩
  have ec : vs.toArray.toList.countP (eqs k) = ss.countP (fun s => s.cps.toList == k.cps.toList) := eqs_count rv
  refine ⟨.int (ss.countP (fun s => s.cps.toList == k.cps.toList) : Nat), H, I.tok _, ⟨s.toks, ?_⟩, q⟩
  rw [ec]
/-- the tuple has no dict -/
def ND (K : PySem.W.Frag) (H : Hp) (a : Addr) : Prop := (∃ o u, H a = some (.frz o u) ∧ o.dict = none) ∨ ∃ o, K.lookup a = some o ∧ o.dict = none
def tyTup (K : PySem.W.Frag) (x : V) (H : Hp) : Prop := ∃ a xs, x = .ref a ∧ SqT K H a xs ∧ ND K H a
theorem ty_tup : TyOk X "tuple" (tyTup X.K) := by
  intro pins σ H s x v I r ty
  obtain ⟨a, xs, rfl, hT, nd⟩ := ty
  cases r
  obtain ⟨vs, _, ⟨ob, ho, hc, n, hd⟩, _⟩ := I.tuple hT
  refine ⟨⟨ob, ho, hc⟩, fun b e => ?_⟩
  cases e
  rcases nd with ⟨o, u, e1, e2⟩ | ⟨o, e1, e2⟩
  · obtain ⟨h1, _⟩ := (show ObjOk X.prog X.w H s.heap a (.frz o u) from I.hok a _ e1)
    exact ⟨o, h1, e2⟩
  · exact ⟨o, I.kIn _ _ e1, e2⟩
end
end DL
/-! A logic of plain data over the hand layer: what a slot holds is data (D), the heap is not seen. M: addresses that the code does not see (private lists, the bag); B: the bag's address. -/
namespace DL
open PySem PySem.Spec PyProof.Rows L2

inductive D where
  | non | bl (b : Bool) | int (i : Int) | str (x : Str) | lst (xs : List D) | tup (xs : List D) | bag | adr (p : Addr) | scr (ns : List Int) | ins (C : Addr) (fs : List Str) (xs : List D) | obj (P : Addr → HO → Prop)

abbrev Ex := Evl.Ex
/-- a tuple, without a dict -/
def SqD (K : PySem.W.Frag) (G : Hp) (a : Addr) (xs : List V) : Prop := SqT K G a xs ∧ ND K G a
theorem SqD.ex {K : PySem.W.Frag} {G G' : Hp} {a : Addr} {xs : List V} (e : Ex G G') (h : SqD K G a xs) : SqD K G' a xs := by
  refine ⟨Evl.ex_t e h.1, ?_⟩
  rcases h.2 with ⟨o, u, h1, h2⟩ | h1
  · exact .inl ⟨o, u, e _ _ h1, h2⟩
  · exact .inr h1
mutual
def RD (K : PySem.W.Frag) (B : Option Addr) (G : Hp) : D → V → Prop
  | .non, v => v = .non
  | .bl b, v => v = .bl b
  | .int i, v => v = .int i
  | .str x, v => v = .str x
  | .lst ds, v => ∃ a xs, v = .ref a ∧ G a = some (.lst xs) ∧ RDs K B G ds xs
  | .tup ds, v => ∃ a xs, v = .ref a ∧ SqD K G a xs ∧ RDs K B G ds xs
  | .bag, v => ∃ b, B = some b ∧ v = .ref b
  | .adr p, v => v = .ref p
  | .scr ns, v => ∃ a, v = .ref a ∧ SqL K G a (ns.map V.int)
  | .ins C fs ds, v => ∃ a dx xs, v = .ref a ∧ G a = some (.ins C dx (fs.zip xs)) ∧ RDs K B G ds xs
  | .obj P, v => ∃ a o, v = .ref a ∧ G a = some o ∧ P a o
def RDs (K : PySem.W.Frag) (B : Option Addr) (G : Hp) : List D → List V → Prop
  | [], xs => xs = []
  | d :: ds, xs => ∃ y ys, xs = y :: ys ∧ RD K B G d y ∧ RDs K B G ds ys
end
section
variable {K : PySem.W.Frag} {B : Option Addr} {G G' : Hp}
mutual
theorem RD.ex (e : Ex G G') : ∀ (d : D) (v : V), RD K B G d v → RD K B G' d v
  | .non, _, h => h
  | .bl _, _, h => h
  | .int _, _, h => h
  | .str _, _, h => h
  | .lst ds, _, ⟨a, xs, e1, e2, e3⟩ => ⟨a, xs, e1, e _ _ e2, RDs.ex e ds xs e3⟩
  | .tup ds, _, ⟨a, xs, e1, e2, e3⟩ => ⟨a, xs, e1, SqD.ex e e2, RDs.ex e ds xs e3⟩
  | .bag, _, h => h
  | .adr _, _, h => h
  | .scr _, _, ⟨a, e1, e2⟩ => ⟨a, e1, Evl.ex_l e e2⟩
  | .ins _ _ ds, _, ⟨a, dx, xs, e1, e2, e3⟩ => ⟨a, dx, xs, e1, e _ _ e2, RDs.ex e ds xs e3⟩
  | .obj _, _, ⟨a, o, e1, e2, e3⟩ => ⟨a, o, e1, e _ _ e2, e3⟩
theorem RDs.ex (e : Ex G G') : ∀ (ds : List D) (xs : List V), RDs K B G ds xs → RDs K B G' ds xs
  | [], _, h => h
  | d :: ds, _, ⟨y, ys, e1, e2, e3⟩ => ⟨y, ys, e1, RD.ex e d y e2, RDs.ex e ds ys e3⟩
end
theorem RDs.len : ∀ {ds : List D} {xs : List V}, RDs K B G ds xs → xs.length = ds.length
  | [], _, h => by rw [show _ = [] from h]; rfl
  | d :: ds, _, ⟨y, ys, e1, e2, e3⟩ => by rw [e1, List.length_cons, List.length_cons, RDs.len e3]
theorem RDs.get : ∀ {ds : List D} {xs : List V} {i : Nat} {x : V}, RDs K B G ds xs → xs[i]? = some x → ∃ d, ds[i]? = some d ∧ RD K B G d x
  | [], _, i, x, h, q => by rw [show _ = [] from h] at q; simp at q
  | d :: ds, _, 0, x, ⟨y, ys, e1, e2, e3⟩, q => by
    rw [e1] at q
    have e : y = x := Option.some.inj q
    exact ⟨d, rfl, e ▸ e2⟩
  | d :: ds, _, i + 1, x, ⟨y, ys, e1, e2, e3⟩, q => by
    rw [e1] at q
    exact RDs.get (i := i) e3 q
theorem RDs.gt : ∀ {ds : List D} {xs : List V} {i : Nat} {d : D}, RDs K B G ds xs → ds[i]? = some d → ∃ x, xs[i]? = some x ∧ RD K B G d x
  | [], _, i, x, h, q => by simp at q
  | d :: ds, _, 0, x, ⟨y, ys, e1, e2, e3⟩, q => by
    have e : d = x := Option.some.inj q
    exact ⟨y, by rw [e1]; rfl, e ▸ e2⟩
  | d :: ds, _, i + 1, x, ⟨y, ys, e1, e2, e3⟩, q => by
    obtain ⟨z, h1, h2⟩ := RDs.gt (i := i) e3 q
    exact ⟨z, by rw [e1]; exact h1, h2⟩
theorem RDs.app : ∀ {ds es : List D} {xs ys : List V}, RDs K B G ds xs → RDs K B G es ys → RDs K B G (ds ++ es) (xs ++ ys)
  | [], _, _, _, h, q => by rw [show _ = [] from h]; exact q
  | d :: ds, _, _, _, ⟨y, ys, e1, e2, e3⟩, q => by
    rw [e1]
    exact ⟨y, ys ++ _, rfl, e2, RDs.app e3 q⟩
theorem RDs.drop : ∀ {ds : List D} {xs : List V} (n : Nat), RDs K B G ds xs → RDs K B G (ds.drop n) (xs.drop n)
  | _, _, 0, h => h
  | [], _, n + 1, h => by rw [show _ = [] from h]; exact rfl
  | d :: ds, _, n + 1, ⟨y, ys, e1, e2, e3⟩ => by
    rw [e1]
    exact RDs.drop n e3
theorem RDs.take : ∀ {ds : List D} {xs : List V} (n : Nat), RDs K B G ds xs → RDs K B G (ds.take n) (xs.take n)
  | _, _, 0, h => rfl
  | [], _, n + 1, h => by rw [show _ = [] from h]; exact rfl
  | d :: ds, _, n + 1, ⟨y, ys, e1, e2, e3⟩ => by
    rw [e1]
    exact ⟨y, _, rfl, e2, RDs.take n e3⟩
theorem RDs.rev : ∀ {ds : List D} {xs : List V}, RDs K B G ds xs → RDs K B G ds.reverse xs.reverse
  | [], _, h => by rw [show _ = [] from h]; exact rfl
  | d :: ds, _, ⟨y, ys, e1, e2, e3⟩ => by
    rw [e1, List.reverse_cons, List.reverse_cons]
    exact RDs.app (RDs.rev e3) ⟨y, [], rfl, e2, rfl⟩
theorem RDs.nil {xs : List V} (h : RDs K B G [] xs) : xs = [] := h
theorem RDs.ints : ∀ (ns : List Int), RDs K B G (ns.map D.int) (ns.map V.int)
  | [] => rfl
  | n :: ns => ⟨_, _, rfl, rfl, RDs.ints ns⟩
theorem RDs.of_ints : ∀ (ns : List Int) (xs : List V), RDs K B G (ns.map D.int) xs → xs = ns.map V.int
  | [], _, h => h
  | n :: ns, _, ⟨y, ys, e1, e2, e3⟩ => by
    rw [e1, show y = V.int n from e2, RDs.of_ints ns ys e3]; rfl
theorem RDs.of_bls : ∀ (ns : List Bool) (xs : List V), RDs K B G (ns.map D.bl) xs → xs = ns.map V.bl
  | [], _, h => h
  | n :: ns, _, ⟨y, ys, e1, e2, e3⟩ => by
    rw [e1, show y = V.bl n from e2, RDs.of_bls ns ys e3]; rfl
end

/-! ### what is hidden -/
def hid (M : List Addr) (H : Hp) : Hp := fun a => if a ∈ M then none else H a
theorem hid_of {M : List Addr} {H : Hp} {a : Addr} {o : HO} (h : hid M H a = some o) : a ∉ M ∧ H a = some o := by
  unfold hid at h
  by_cases c : a ∈ M
  · rw [if_pos c] at h; cases h
  · rw [if_neg c] at h; exact ⟨c, h⟩
theorem hid_at {M : List Addr} {H : Hp} {a : Addr} {o : HO} (c : a ∉ M) (h : H a = some o) : hid M H a = some o := by
  unfold hid; rw [if_neg c]; exact h
theorem hid_ex (M : List Addr) (H : Hp) : Ex (hid M H) H := fun _ _ h => (hid_of h).2
theorem hid_sub {M M' : List Addr} (H : Hp) (h : ∀ a ∈ M, a ∈ M') : Ex (hid M' H) (hid M H) := fun a o e => hid_at (fun c => (hid_of e).1 (h a c)) (hid_of e).2
structure Bag (K : PySem.W.Frag) (M : List Addr) (b : Addr) (H : Hp) (dr : Addr) (n : Int) (ns : List Int) : Prop where
  mem : b ∈ M
  at_ : H b = some (.lst [.ref dr, .int n])
  dr_ : hid M H dr = some (.lst (ns.map V.int))
  len : ns.length = 400
  rng : ∀ x ∈ ns, 0 ≤ x ∧ x < 1000
/-- the heap is well: what is hidden is there, the bag is a bag -/
structure Ok (K : PySem.W.Frag) (B : Option Addr) (M : List Addr) (H : Hp) : Prop where
  all : ∀ a ∈ M, ∃ o, H a = some o
  bag : ∀ b, B = some b → ∃ dr n ns, Bag K M b H dr n ns
structure Stp (K : PySem.W.Frag) (B : Option Addr) (M : List Addr) (H H2 : Hp) : Prop where
  ex : Ex (hid M H) (hid M H2)
  pr : ∀ a ∈ M, B ≠ some a → H2 a = H a
  bg : ∀ b dr n ns, B = some b → Bag K M b H dr n ns → ∃ n', Bag K M b H2 dr n' ns
section
variable {K : PySem.W.Frag} {B : Option Addr} {M : List Addr} {H H1 H2 : Hp}
theorem Stp.refl : Stp K B M H H := ⟨fun _ _ h => h, fun _ _ _ => rfl, fun _ _ n _ _ w => ⟨n, w⟩⟩
theorem Stp.trans (a : Stp K B M H H1) (b : Stp K B M H1 H2) : Stp K B M H H2 :=
  ⟨fun c o h => b.ex c o (a.ex c o h), fun c m n => (b.pr c m n).trans (a.pr c m n), fun c dr n ns e w => by
    obtain ⟨n1, w1⟩ := a.bg c dr n ns e w
    exact b.bg c dr n1 ns e w1⟩
theorem Stp.ok (t : Stp K B M H H2) (k : Ok K B M H) : Ok K B M H2 := by
  refine ⟨fun a m => ?_, fun b e => ?_⟩
  · by_cases c : B = some a
    · obtain ⟨dr, n, ns, w⟩ := k.bag a c
      obtain ⟨n', w'⟩ := t.bg a dr n ns c w
      exact ⟨_, w'.at_⟩
    · obtain ⟨o, h⟩ := k.all a m
      exact ⟨o, (t.pr a m c).trans h⟩
  · obtain ⟨dr, n, ns, w⟩ := k.bag b e
    obtain ⟨n', w'⟩ := t.bg b dr n ns e w
    exact ⟨dr, n', ns, w'⟩
/-- a new object -/
theorem Ok.fresh (k : Ok K B M H) {p : Addr} (hp : H p = none) : p ∉ M := fun m => by
  obtain ⟨o, e⟩ := k.all p m
  rw [hp] at e; cases e
/-- nothing that stood has changed -/
theorem Stp.same (e : Ex H H2) (k : Ok K B M H) : Stp K B M H H2 := by
  have ex : Ex (hid M H) (hid M H2) := fun a o h => hid_at (hid_of h).1 (e _ _ (hid_of h).2)
  refine ⟨ex, fun a m _ => ?_, fun b dr n ns eb w => ⟨n, w.mem, e _ _ w.at_, ex _ _ w.dr_, w.len, w.rng⟩⟩
  obtain ⟨o, h⟩ := k.all a m
  rw [h]; exact e _ _ h
theorem Stp.new (k : Ok K B M H) {p : Addr} {o : HO} (hp : H p = none) : Stp K B M H (upd H p o) := .same (Evl.Ex.new hp) k
theorem new_tup (k : Ok K B M H) {p : Addr} {ob : Obj} {xs : List V} (hp : H p = none) (hd : ob.dict = none) : SqD K (hid M (upd H p (.frz ob (.tup xs)))) p xs := by
  have e : hid M (upd H p (.frz ob (.tup xs))) p = some (.frz ob (.tup xs)) := hid_at (k.fresh hp) upd_same
  exact ⟨.inl (.inr ⟨ob, e⟩), .inl ⟨ob, _, e, hd⟩⟩
theorem new_at (k : Ok K B M H) {p : Addr} {o : HO} (hp : H p = none) : hid M (upd H p o) p = some o := hid_at (k.fresh hp) upd_same
end

/-! ### states -/
abbrev Dst := List (Option D)
structure Rep (K : PySem.W.Frag) (B : Option Addr) (M : List Addr) (H : Hp) (σ : L2.St) (δ : Dst) : Prop where
  ok : Ok K B M H
  len : σ.length = δ.length
  at_ : ∀ (i : Nat) d, δ[i]? = some (some d) → ∃ v, σ[i]? = some (some v) ∧ RD K B (hid M H) d v
section
variable {K : PySem.W.Frag} {B : Option Addr} {M : List Addr} {H H1 H2 : Hp} {σ : L2.St} {δ : Dst}
theorem Rep.stp (r : Rep K B M H σ δ) (s : Stp K B M H H2) : Rep K B M H2 σ δ :=
  ⟨s.ok r.ok, r.len, fun i d e => by
    obtain ⟨v, h1, h2⟩ := r.at_ i d e
    exact ⟨v, h1, RD.ex s.ex d v h2⟩⟩
theorem Rep.set (r : Rep K B M H σ δ) {i : Nat} {d : D} {v : V} (h : RD K B (hid M H) d v) : Rep K B M H (σ.set i (some v)) (δ.set i (some d)) := by
  refine ⟨r.ok, by rw [List.length_set, List.length_set]; exact r.len, fun j e hj => ?_⟩
  by_cases c : i = j
  · subst c
    rw [List.getElem?_set_self' ] at hj
    cases q : δ[i]? with
    | none => rw [q] at hj; cases hj
    | some w =>
      rw [q] at hj
      have ed : d = e := by simpa using hj
      subst ed
      have li : i < δ.length := (List.getElem?_eq_some_iff.mp q).1
      refine ⟨v, ?_, h⟩
      rw [List.getElem?_set_self (by rw [r.len]; exact li)]
  · rw [List.getElem?_set_ne c] at hj
    obtain ⟨w, h1, h2⟩ := r.at_ j e hj
    exact ⟨w, by rw [List.getElem?_set_ne c]; exact h1, h2⟩
end

/-! ### readings of data -/
abbrev DE := Dst → (D → Prop) → (Addr → Prop) → Prop
abbrev DA := Dst → (List D → Prop) → (Addr → Prop) → Prop
abbrev DT := Dst → (Bool → Prop) → (Addr → Prop) → Prop
structure DN where
  nx : Dst → Prop
  rt : D → Prop
  ex : Addr → Prop
  bk : Dst → Prop := fun _ => False
  ct : Dst → Prop := fun _ => False
abbrev DS := DN → Dst → Prop
abbrev DG := D → Dst → (Dst → Prop) → Prop

def SE (K : PySem.W.Frag) (E : XK) (te : TE) (de : DE) : Prop := ∀ B M σ δ H k kx (Q : VK), Rep K B M H σ δ → de δ k kx →
  (∀ v d H2, Stp K B M H H2 → RD K B (hid M H2) d v → k d → Q v H2) → (∀ C H2, Stp K B M H H2 → kx C → E (.ref C) none H2) → te σ H Q
def SA (K : PySem.W.Frag) (E : XK) (te : TA) (de : DA) : Prop := ∀ B M σ δ H k kx (Q : List V → Hp → Prop), Rep K B M H σ δ → de δ k kx →
  (∀ vs ds H2, Stp K B M H H2 → RDs K B (hid M H2) ds vs → k ds → Q vs H2) → (∀ C H2, Stp K B M H H2 → kx C → E (.ref C) none H2) → te σ H Q
def ST (K : PySem.W.Frag) (E : XK) (te : TT) (de : DT) : Prop := ∀ B M σ δ H k kx (Q : Bool → Hp → Prop), Rep K B M H σ δ → de δ k kx →
  (∀ b H2, Stp K B M H H2 → k b → Q b H2) → (∀ C H2, Stp K B M H H2 → kx C → E (.ref C) none H2) → te σ H Q
structure Lk (K : PySem.W.Frag) (E : XK) (B : Option Addr) (M : List Addr) (H : Hp) (D0 : DN) (D1 : Ends) : Prop where
  nx : ∀ σ δ H2, Stp K B M H H2 → Rep K B M H2 σ δ → D0.nx δ → D1.nx σ H2
  rt : ∀ v d H2, Stp K B M H H2 → RD K B (hid M H2) d v → D0.rt d → D1.rt v H2
  ex : ∀ C H2, Stp K B M H H2 → D0.ex C → E (.ref C) none H2
  bk : ∀ σ δ H2, Stp K B M H H2 → Rep K B M H2 σ δ → D0.bk δ → D1.bk σ H2
  ct : ∀ σ δ H2, Stp K B M H H2 → Rep K B M H2 σ δ → D0.ct δ → D1.ct σ H2
def SS (K : PySem.W.Frag) (E : XK) (ts : TS) (ds : DS) : Prop := ∀ B M σ δ H D0 D1, Rep K B M H σ δ → ds D0 δ → Lk K E B M H D0 D1 → ts D1 σ H
def SG (K : PySem.W.Frag) (g : TG) (dg : DG) : Prop := ∀ B M σ δ H v d (k : Dst → Prop) (Q : L2.St → Hp → Prop), Rep K B M H σ δ → RD K B (hid M H) d v → dg d δ k →
  (∀ σ' δ', Rep K B M H σ' δ' → k δ' → Q σ' H) → g v σ H Q
theorem Lk.stp {K : PySem.W.Frag} {E : XK} {B : Option Addr} {M : List Addr} {H H2 : Hp} {D0 : DN} {D1 : Ends} (l : Lk K E B M H D0 D1) (s : Stp K B M H H2) : Lk K E B M H2 D0 D1 :=
  ⟨fun σ δ H3 t => l.nx σ δ H3 (s.trans t), fun v d H3 t => l.rt v d H3 (s.trans t), fun C H3 t => l.ex C H3 (s.trans t), fun σ δ H3 t => l.bk σ δ H3 (s.trans t), fun σ δ H3 t => l.ct σ δ H3 (s.trans t)⟩

/-! ### what the code is, with its reading of data -/
def PD (X : Cx) (E : XK) (e : Expr) (de : DE) : Prop := ∃ te, PE X e te ∧ SE X.K E te de
def PDA (X : Cx) (E : XK) (es : List Expr) (de : DA) : Prop := ∃ te, PA X es te ∧ SA X.K E te de
def PDT (X : Cx) (E : XK) (e : Expr) (de : DT) : Prop := ∃ te, PT X e te ∧ ST X.K E te de
def PDW (X : Cx) (E : XK) (e : Expr) (de : DT) : Prop := ∃ te, PW X e te ∧ ST X.K E te de
def PDS (X : Cx) (E : XK) (s : Stmt) (de : DS) : Prop := ∃ te, PS X s te ∧ SS X.K E te de
def PDB (X : Cx) (E : XK) (s : List Stmt) (de : DS) : Prop := ∃ te, PSs X s te ∧ SS X.K E te de
def PDG (X : Cx) (e : Expr) (de : DG) : Prop := ∃ te, PG X e te ∧ SG X.K te de

section
variable {X : Cx} {E : XK} {a b c e : Expr} {es : List Expr} {da db dc de : DE} {das : DA} {dt du : DT} {pos : Pos}
/-! ### names, constants -/
def dVar (i : Nat) : DE := fun δ k _ => match δ[i]? with
  | some (some d) => k d
  | _ => False
def dC (d : D) : DE := fun _ k _ => k d
theorem se_var {K : PySem.W.Frag} (i : Nat) : SE K E (tVar i) (dVar i) := by
  intro B M σ δ H k kx Q r h hq _
  unfold dVar at h
  cases q : δ[i]? with
  | none => rw [q] at h; exact h.elim
  | some o =>
    cases o with
    | none => rw [q] at h; exact h.elim
    | some d =>
      rw [q] at h
      obtain ⟨v, h1, h2⟩ := r.at_ i d q
      exact ⟨v, h1, hq v d H .refl h2 h⟩
theorem dv (i : Nat) {x : Str} (hN : X.N[i]? = some x := by rfl) (hv : Vis X.env.scope x := by first | exact Or.inl rfl | exact Or.inr (Or.inl rfl) | exact Or.inr (Or.inr rfl)) (hd : (x == ("__debug__" : Str)) = false := by decide)
    (hcd : (x == ("__classdict__" : Str)) = false := by decide) : PD X E (.Name x pos) (dVar i) := ⟨_, pe_var hN hv hd hcd, se_var i⟩
theorem se_c {K : PySem.W.Frag} {v : V} {d : D} (h : ∀ B G, RD K B G d v) : SE K E (tC v) (dC d) := fun B M σ δ H k kx Q r hd hq _ => hq v d H .refl (h _ _) hd
theorem d_int {i : Int} {j : Nat} : PD X E (.Constant (.int i) j pos) (dC (.int i)) := ⟨_, pe_int, se_c fun _ _ => rfl⟩
theorem d_bl {b : Bool} {j : Nat} : PD X E (.Constant (.bool b) j pos) (dC (.bl b)) := ⟨_, pe_bl, se_c fun _ _ => rfl⟩
theorem d_non {j : Nat} : PD X E (.Constant .none j pos) (dC .non) := ⟨_, pe_non, se_c fun _ _ => rfl⟩
theorem d_str {x : Str} {j : Nat} : PD X E (.Constant (.str x) j pos) (dC (.str x)) := ⟨_, pe_str, se_c fun _ _ => rfl⟩
/-- a constant of the module -/
theorem d_gint {x : Str} {i : Int} {t : Tok} (hg : Gl X x) (hm : X.mg x = some (.int i t)) (hd : (x == ("__debug__" : Str)) = false := by decide) : PD X E (.Name x pos) (dC (.int i)) := ⟨_, pe_glob (v := .int i) hg hm ⟨t, rfl⟩ hd, se_c fun _ _ => rfl⟩
theorem d_gref {x : Str} {p : Addr} (hg : Gl X x) (hm : X.mg x = some (.ref p)) (hd : (x == ("__debug__" : Str)) = false := by decide) : PD X E (.Name x pos) (dC (.adr p)) := ⟨_, pe_glob (v := .ref p) hg hm rfl hd, se_c fun _ _ => rfl⟩
/-! ### two values -/
/-- a two-place operation on data -/
abbrev DR := D → D → (D → Prop) → Prop
def SR (K : PySem.W.Frag) (r : R2) (dr : DR) : Prop := ∀ B M H x y v w k (Q : VK), Ok K B M H → RD K B (hid M H) x v → RD K B (hid M H) y w → dr x y k → (∀ u d H2, Stp K B M H H2 → RD K B (hid M H2) d u → k d → Q u H2) → r v w H Q
def dOp (dr : DR) (da db : DE) : DE := fun δ k kx => da δ (fun x => db δ (fun y => dr x y k) kx) kx
theorem se_op {K : PySem.W.Frag} {r : R2} {dr : DR} {ta tb : TE} (hr : SR K r dr) (ha : SE K E ta da) (hb : SE K E tb db) : SE K E (tOp r ta tb) (dOp dr da db) :=
  fun B M σ δ H k kx Q rp h hq hx => ha B M σ δ H _ kx _ rp h (fun v x H1 s1 r1 h1 => hb B M σ δ H1 _ kx _ (rp.stp s1) h1 (fun w y H2 s2 r2 h2 => hr B M H2 x y v w k Q (s2.ok (s1.ok rp.ok)) (RD.ex s2.ex _ _ r1) r2 h2
    (fun u d H3 s3 r3 h3 => hq u d H3 ((s1.trans s2).trans s3) r3 h3)) (fun C H2 s2 h2 => hx C H2 (s1.trans s2) h2)) hx
theorem d_op {op : Operator} {r : R2} {dr : DR} (ho : OpR X (binaryOp op) r) (hr : SR X.K r dr) : PD X E a da → PD X E b db → PD X E (.BinOp a op b pos) (dOp dr da db)
  | ⟨_, h1, s1⟩, ⟨_, h2, s2⟩ => ⟨_, pe_op ho h1 h2, se_op hr s1 s2⟩
theorem d_cmp {op : CmpOp} {r : R2} {dr : DR} (ho : OpR X (compareOp op) r) (hr : SR X.K r dr) (hm : behindInMarks op b = false) : PD X E a da → PD X E b db → PD X E (.Compare a [op] [b] pos) (dOp dr da db)
  | ⟨_, h1, s1⟩, ⟨_, h2, s2⟩ => ⟨_, pe_cmpR ho h1 h2 hm, se_op hr s1 s2⟩
/-- ints -/
def dI0 (g : Int → Int → D) : DR := fun x y k => match x, y with
  | .int i, .int j => k (g i j)
  | _, _ => False
def dI (C : Int → Int → Prop) (g : Int → Int → D) : DR := fun x y k => match x, y with
  | .int i, .int j => C i j ∧ k (g i j)
  | _, _ => False
theorem sr_I0 {K : PySem.W.Frag} {g : Int → Int → V} {h : Int → Int → D} (e : ∀ B G i j, RD K B G (h i j) (g i j)) : SR K (rI0 g) (dI0 h) := by
  intro B M H x y v w k Q ok hx hy hd hq
  cases x <;> try exact hd.elim
  cases y <;> try exact hd.elim
  rename_i i j
  exact ⟨i, j, hx, hy, hq _ _ H .refl (e _ _ i j) hd⟩
theorem sr_I {K : PySem.W.Frag} {C : Int → Int → Prop} {g : Int → Int → V} {h : Int → Int → D} (e : ∀ B G i j, RD K B G (h i j) (g i j)) : SR K (rI C g) (dI C h) := by
  intro B M H x y v w k Q ok hx hy hd hq
  cases x <;> try exact hd.elim
  cases y <;> try exact hd.elim
  rename_i i j
  exact ⟨i, j, hx, hy, hd.1, hq _ _ H .refl (e _ _ i j) hd.2⟩
abbrev dAdd := dOp (dI0 fun i j => .int (i + j))
abbrev dSub := dOp (dI0 fun i j => .int (i - j))
abbrev dMul := dOp (dI CMulW fun i j => .int (i * j))
abbrev dMulS := dOp (dI CMul fun i j => .int (i * j))
abbrev dDiv := dOp (dI CDivW fun i j => .int (i / j))
abbrev dMod := dOp (dI (fun _ j => 0 < j) fun i j => .int (i % j))
abbrev dPow := dOp (dI CPow fun i j => .int (i ^ j.toNat))
abbrev dLt := dOp (dI0 fun i j => .bl (decide (i < j)))
abbrev dLe := dOp (dI0 fun i j => .bl (decide (i ≤ j)))
abbrev dGt := dOp (dI0 fun i j => .bl (decide (j < i)))
abbrev dGe := dOp (dI0 fun i j => .bl (decide (j ≤ i)))
theorem d_add (ha : PD X E a da) (hb : PD X E b db) : PD X E (.BinOp a .Add b pos) (dAdd da db) := d_op op_add (sr_I0 fun _ _ _ _ => rfl) ha hb
theorem d_sub (ha : PD X E a da) (hb : PD X E b db) : PD X E (.BinOp a .Sub b pos) (dSub da db) := d_op op_sub (sr_I0 fun _ _ _ _ => rfl) ha hb
theorem d_mul (ha : PD X E a da) (hb : PD X E b db) : PD X E (.BinOp a .Mult b pos) (dMul da db) := d_op op_mulW (sr_I fun _ _ _ _ => rfl) ha hb
theorem d_mulS (ha : PD X E a da) (hb : PD X E b db) : PD X E (.BinOp a .Mult b pos) (dMulS da db) := d_op op_mul (sr_I fun _ _ _ _ => rfl) ha hb
theorem d_div (ha : PD X E a da) (hb : PD X E b db) : PD X E (.BinOp a .FloorDiv b pos) (dDiv da db) := d_op op_fdivW (sr_I fun _ _ _ _ => rfl) ha hb
theorem d_mod (ha : PD X E a da) (hb : PD X E b db) : PD X E (.BinOp a .Mod b pos) (dMod da db) := d_op op_mod (sr_I fun _ _ _ _ => rfl) ha hb
theorem d_pow (ha : PD X E a da) (hb : PD X E b db) : PD X E (.BinOp a .Pow b pos) (dPow da db) := d_op op_pow (sr_I fun _ _ _ _ => rfl) ha hb
theorem d_lt (ha : PD X E a da) (hb : PD X E b db) : PD X E (.Compare a [.Lt] [b] pos) (dLt da db) := d_cmp op_lt (sr_I0 fun _ _ _ _ => rfl) (nomark _) ha hb
theorem d_le (ha : PD X E a da) (hb : PD X E b db) : PD X E (.Compare a [.LtE] [b] pos) (dLe da db) := d_cmp op_le (sr_I0 fun _ _ _ _ => rfl) (nomark _) ha hb
theorem d_gt (ha : PD X E a da) (hb : PD X E b db) : PD X E (.Compare a [.Gt] [b] pos) (dGt da db) := d_cmp op_gt (sr_I0 fun _ _ _ _ => rfl) (nomark _) ha hb
theorem d_ge (ha : PD X E a da) (hb : PD X E b db) : PD X E (.Compare a [.GtE] [b] pos) (dGe da db) := d_cmp op_ge (sr_I0 fun _ _ _ _ => rfl) (nomark _) ha hb
/-! ### one value -/
def dNeg (da : DE) : DE := fun δ k kx => da δ (fun x => match x with
  | .int i => k (.int (-i))
  | _ => False) kx
theorem d_neg : PD X E a da → PD X E (.UnaryOp .USub a pos) (dNeg da)
  | ⟨_, h1, s1⟩ => ⟨_, pe_un un_neg h1, fun B M σ δ H k kx Q rp h hq hx => s1 B M σ δ H _ kx _ rp h (fun v x H1 t1 r1 h1 => by
      cases x <;> try exact h1.elim
      rename_i i
      exact ⟨i, r1, hq _ (.int (-i)) H1 t1 rfl h1⟩) hx⟩
/-! ### truth -/
def dB (da : DE) : DT := fun δ k kx => da δ (fun x => match x with
  | .bl b => k b
  | _ => False) kx
theorem t_val (h : PD X E e de) (he : ∀ whole, isTrue e X.env whole = (do let v ← whole; standAt e.pos; holding [v] (truthy v)) := by intro _; rfl) : PDT X E e (dB de) := by
  obtain ⟨te, h1, s1⟩ := h
  refine ⟨_, pt_val h1 he, fun B M σ δ H k kx Q rp h hq hx => s1 B M σ δ H _ kx _ rp h (fun v x H1 t1 r1 h1 => ?_) hx⟩
  cases x <;> try exact h1.elim
  exact ⟨_, r1, hq _ H1 t1 h1⟩
theorem t_cmp {op : CmpOp} {r : R2} {dr : DR} (ho : OpR X (compareOp op) r) (hr : SR X.K r dr) (hm : behindInMarks op b = false) (ha : PD X E a da) (hb : PD X E b db) : PDT X E (.Compare a [op] [b] pos) (dB (dOp dr da db)) := by
  obtain ⟨ta, h1, s1⟩ := ha
  obtain ⟨tb, h2, s2⟩ := hb
  refine ⟨_, pt_cmpR ho h1 h2 hm, fun B M σ δ H k kx Q rp h hq hx => (se_op hr s1 s2) B M σ δ H _ kx _ rp h (fun v x H1 t1 r1 h1 => ?_) hx⟩
  cases x <;> try exact h1.elim
  exact ⟨_, r1, hq _ H1 t1 h1⟩
theorem t_lt (ha : PD X E a da) (hb : PD X E b db) : PDT X E (.Compare a [.Lt] [b] pos) (dB (dLt da db)) := t_cmp op_lt (sr_I0 fun _ _ _ _ => rfl) (nomark _) ha hb
theorem t_le (ha : PD X E a da) (hb : PD X E b db) : PDT X E (.Compare a [.LtE] [b] pos) (dB (dLe da db)) := t_cmp op_le (sr_I0 fun _ _ _ _ => rfl) (nomark _) ha hb
theorem t_gt (ha : PD X E a da) (hb : PD X E b db) : PDT X E (.Compare a [.Gt] [b] pos) (dB (dGt da db)) := t_cmp op_gt (sr_I0 fun _ _ _ _ => rfl) (nomark _) ha hb
theorem t_ge (ha : PD X E a da) (hb : PD X E b db) : PDT X E (.Compare a [.GtE] [b] pos) (dB (dGe da db)) := t_cmp op_ge (sr_I0 fun _ _ _ _ => rfl) (nomark _) ha hb
def dAnd (t u : DT) : DT := fun δ k kx => t δ (fun c => if c = true then u δ k kx else k false) kx
def dOr (t u : DT) : DT := fun δ k kx => t δ (fun c => if c = true then k true else u δ k kx) kx
def dNot (t : DT) : DT := fun δ k kx => t δ (fun c => k (!c)) kx
theorem st_and {K : PySem.W.Frag} {t u : TT} (h1 : ST K E t dt) (h2 : ST K E u du) : ST K E (tAnd t u) (dAnd dt du) :=
  fun B M σ δ H k kx Q rp h hq hx => h1 B M σ δ H _ kx _ rp h (fun c H1 t1 q1 => by
    cases c with
    | true =>
      refine iteT (h2 B M σ δ H1 k kx Q (rp.stp t1) ?_ (fun b H2 t2 q2 => hq b H2 (t1.trans t2) q2) (fun C H2 t2 q2 => hx C H2 (t1.trans t2) q2))
      simpa using q1
    | false => exact iteF (hq false H1 t1 (by simpa using q1))) hx
theorem st_or {K : PySem.W.Frag} {t u : TT} (h1 : ST K E t dt) (h2 : ST K E u du) : ST K E (tOr t u) (dOr dt du) :=
  fun B M σ δ H k kx Q rp h hq hx => h1 B M σ δ H _ kx _ rp h (fun c H1 t1 q1 => by
    cases c with
    | true => exact iteT (hq true H1 t1 (by simpa using q1))
    | false =>
      refine iteF (h2 B M σ δ H1 k kx Q (rp.stp t1) ?_ (fun b H2 t2 q2 => hq b H2 (t1.trans t2) q2) (fun C H2 t2 q2 => hx C H2 (t1.trans t2) q2))
      simpa using q1) hx
theorem w_and1 : PDT X E a dt → PDW X E (.BoolOp .And [a] pos) dt
  | ⟨_, h, s⟩ => ⟨_, pw_and1 h, s⟩
theorem w_or1 : PDT X E a dt → PDW X E (.BoolOp .Or [a] pos) dt
  | ⟨_, h, s⟩ => ⟨_, pw_or1 h, s⟩
theorem w_and {rest : List Expr} : PDT X E a dt → PDW X E (.BoolOp .And (b :: rest) pos) du → PDW X E (.BoolOp .And (a :: b :: rest) pos) (dAnd dt du)
  | ⟨_, h1, s1⟩, ⟨_, h2, s2⟩ => ⟨_, pw_and h1 h2, st_and s1 s2⟩
theorem w_or {rest : List Expr} : PDT X E a dt → PDW X E (.BoolOp .Or (b :: rest) pos) du → PDW X E (.BoolOp .Or (a :: b :: rest) pos) (dOr dt du)
  | ⟨_, h1, s1⟩, ⟨_, h2, s2⟩ => ⟨_, pw_or h1 h2, st_or s1 s2⟩
theorem t_w : PDW X E a dt → PDT X E a dt
  | ⟨_, h, s⟩ => ⟨_, h.pt, s⟩
theorem t_not : PDT X E a dt → PDT X E (.UnaryOp .Not a pos) (dNot dt)
  | ⟨_, h, s⟩ => ⟨_, pt_not h, fun B M σ δ H k kx Q rp h hq hx => s B M σ δ H _ kx _ rp h (fun c H1 t1 q1 => hq _ H1 t1 q1) hx⟩
/-- as values -/
def dAndV (da db : DE) : DE := fun δ k kx => da δ (fun x => match x with
  | .bl c => if c = true then db δ k kx else k (.bl false)
  | _ => False) kx
def dOrV (da db : DE) : DE := fun δ k kx => da δ (fun x => match x with
  | .bl c => if c = true then k (.bl true) else db δ k kx
  | _ => False) kx
def dNotV (da : DE) : DE := fun δ k kx => da δ (fun x => match x with
  | .bl c => k (.bl (!c))
  | _ => False) kx
theorem d_one {op : BoolOp} : PD X E a da → PD X E (.BoolOp op [a] pos) da
  | ⟨_, h, s⟩ => ⟨_, pe_one h, s⟩
theorem d_and {rest : List Expr} : PD X E a da → PD X E (.BoolOp .And (b :: rest) pos) db → PD X E (.BoolOp .And (a :: b :: rest) pos) (dAndV da db)
  | ⟨_, h1, s1⟩, ⟨_, h2, s2⟩ => ⟨_, pe_and h1 h2, fun B M σ δ H k kx Q rp h hq hx => s1 B M σ δ H _ kx _ rp h (fun v x H1 t1 r1 q1 => by
      cases x <;> try exact q1.elim
      rename_i c
      refine ⟨c, r1, ?_⟩
      cases c with
      | true =>
        refine iteT (s2 B M σ δ H1 k kx Q (rp.stp t1) ?_ (fun u d H2 t2 r2 q2 => hq u d H2 (t1.trans t2) r2 q2) (fun C H2 t2 q2 => hx C H2 (t1.trans t2) q2))
        simpa using q1
      | false => exact iteF (hq _ (.bl false) H1 t1 rfl (by simpa using q1))) hx⟩
theorem d_or {rest : List Expr} : PD X E a da → PD X E (.BoolOp .Or (b :: rest) pos) db → PD X E (.BoolOp .Or (a :: b :: rest) pos) (dOrV da db)
  | ⟨_, h1, s1⟩, ⟨_, h2, s2⟩ => ⟨_, pe_or h1 h2, fun B M σ δ H k kx Q rp h hq hx => s1 B M σ δ H _ kx _ rp h (fun v x H1 t1 r1 q1 => by
      cases x <;> try exact q1.elim
      rename_i c
      refine ⟨c, r1, ?_⟩
      cases c with
      | true => exact iteT (hq _ (.bl true) H1 t1 rfl (by simpa using q1))
      | false =>
        refine iteF (s2 B M σ δ H1 k kx Q (rp.stp t1) ?_ (fun u d H2 t2 r2 q2 => hq u d H2 (t1.trans t2) r2 q2) (fun C H2 t2 q2 => hx C H2 (t1.trans t2) q2))
        simpa using q1) hx⟩
theorem d_not : PD X E a da → PD X E (.UnaryOp .Not a pos) (dNotV da)
  | ⟨_, h1, s1⟩ => ⟨_, pe_not h1, fun B M σ δ H k kx Q rp h hq hx => s1 B M σ δ H _ kx _ rp h (fun v x H1 t1 r1 q1 => by
      cases x <;> try exact q1.elim
      rename_i c
      exact ⟨c, r1, hq _ (.bl (!c)) H1 t1 rfl q1⟩) hx⟩
def dIf (t : DT) (da db : DE) : DE := fun δ k kx => t δ (fun c => if c = true then da δ k kx else db δ k kx) kx
theorem d_if : PDT X E c dt → PD X E a da → PD X E b db → PD X E (.IfExp c a b pos) (dIf dt da db)
  | ⟨_, h0, s0⟩, ⟨_, h1, s1⟩, ⟨_, h2, s2⟩ => ⟨_, pe_ifExp h0 h1 h2, fun B M σ δ H k kx Q rp h hq hx => s0 B M σ δ H _ kx _ rp h (fun c H1 t1 q1 => by
      cases c with
      | true =>
        refine iteT (s1 B M σ δ H1 k kx Q (rp.stp t1) ?_ (fun u d H2 t2 r2 q2 => hq u d H2 (t1.trans t2) r2 q2) (fun C H2 t2 q2 => hx C H2 (t1.trans t2) q2))
        simpa using q1
      | false =>
        refine iteF (s2 B M σ δ H1 k kx Q (rp.stp t1) ?_ (fun u d H2 t2 r2 q2 => hq u d H2 (t1.trans t2) r2 q2) (fun C H2 t2 q2 => hx C H2 (t1.trans t2) q2))
        simpa using q1) hx⟩
/-! ### is None -/
def D.isN : D → Bool
  | .non => true
  | _ => false
theorem RD.isN {K : PySem.W.Frag} {B : Option Addr} {G : Hp} {d : D} {v : V} (h : RD K B G d v) : decide (v = .non) = d.isN := by
  cases d with
  | non => rw [show v = .non from h]; rfl
  | bl b => rw [show v = .bl b from h]; rfl
  | int i => rw [show v = .int i from h]; rfl
  | str x => rw [show v = .str x from h]; rfl
  | lst ds => obtain ⟨a, xs, e, _⟩ := h; rw [e]; rfl
  | tup ds => obtain ⟨a, xs, e, _⟩ := h; rw [e]; rfl
  | bag => obtain ⟨b, _, e⟩ := h; rw [e]; rfl
  | adr p => rw [show v = .ref p from h]; rfl
  | scr ns => obtain ⟨a, e, _⟩ := h; rw [e]; rfl
  | ins C fs ds => obtain ⟨a, dx, xs, e, _⟩ := h; rw [e]; rfl
  | obj P => obtain ⟨a, o, e, _⟩ := h; rw [e]; rfl
def dIsN (da : DE) : DE := fun δ k kx => da δ (fun x => k (.bl x.isN)) kx
def dNotN (da : DE) : DE := fun δ k kx => da δ (fun x => k (.bl (!x.isN))) kx
theorem d_isN {j : Nat} {p : Pos} : PD X E a da → PD X E (.Compare a [.Is] [.Constant .none j p] pos) (dIsN da)
  | ⟨_, h1, s1⟩ => ⟨_, pe_cmp (pc_isN h1), fun B M σ δ H k kx Q rp h hq hx => s1 B M σ δ H _ kx _ rp h (fun v x H1 t1 r1 q1 => hq _ (.bl x.isN) H1 t1 (by rw [RD.isN r1]; exact rfl) q1) hx⟩
theorem d_notN {j : Nat} {p : Pos} : PD X E a da → PD X E (.Compare a [.IsNot] [.Constant .none j p] pos) (dNotN da)
  | ⟨_, h1, s1⟩ => ⟨_, pe_cmp (pc_notN h1), fun B M σ δ H k kx Q rp h hq hx => s1 B M σ δ H _ kx _ rp h (fun v x H1 t1 r1 q1 => hq _ (.bl (!x.isN)) H1 t1 (by rw [RD.isN r1]; exact rfl) q1) hx⟩
theorem t_isN {j : Nat} {p : Pos} : PD X E a da → PDT X E (.Compare a [.Is] [.Constant .none j p] pos) (dB (dIsN da))
  | ⟨_, h1, s1⟩ => ⟨_, pt_cmp (pc_isN h1), fun B M σ δ H k kx Q rp h hq hx => s1 B M σ δ H _ kx _ rp h (fun v x H1 t1 r1 q1 => ⟨_, rfl, hq _ H1 t1 (by rw [RD.isN r1]; exact q1)⟩) hx⟩
theorem t_notN {j : Nat} {p : Pos} : PD X E a da → PDT X E (.Compare a [.IsNot] [.Constant .none j p] pos) (dB (dNotN da))
  | ⟨_, h1, s1⟩ => ⟨_, pt_cmp (pc_notN h1), fun B M σ δ H k kx Q rp h hq hx => s1 B M σ δ H _ kx _ rp h (fun v x H1 t1 r1 q1 => ⟨_, rfl, hq _ H1 t1 (by rw [RD.isN r1]; exact q1)⟩) hx⟩
end
end DL
namespace DL
open PySem PySem.Spec PyProof.Rows L2
/-! ### argument lists, displays -/
def SAn (K : PySem.W.Frag) (E : XK) (n : Nat) (te : TA) (de : DA) : Prop := ∀ B M σ δ H k kx (Q : List V → Hp → Prop), Rep K B M H σ δ → de δ k kx →
  (∀ vs ds H2, ds.length = n → Stp K B M H H2 → RDs K B (hid M H2) ds vs → k ds → Q vs H2) → (∀ C H2, Stp K B M H H2 → kx C → E (.ref C) none H2) → te σ H Q
def PDL (X : Cx) (E : XK) (es : List Expr) (de : DA) : Prop := ∃ te, PA X es te ∧ SAn X.K E es.length te de
section
variable {X : Cx} {E : XK} {a b c e : Expr} {es : List Expr} {da db dc de : DE} {das : DA} {dt du : DT} {pos : Pos}
def dNil : DA := fun _ k _ => k []
def dCons (de : DE) (da : DA) : DA := fun δ k kx => de δ (fun d => da δ (fun ds => k (d :: ds)) kx) kx
theorem a_nil : PDL X E [] dNil := ⟨_, pa_nil, fun B M σ δ H k kx Q rp h hq hx => hq [] [] H rfl .refl rfl h⟩
theorem a_cons (h1 : PD X E e de) (h2 : PDL X E es das) (hs : starEach (e :: es) X.env = (false, eval e X.env) :: starEach es X.env := by rfl) : PDL X E (e :: es) (dCons de das) := by
  obtain ⟨te, p1, s1⟩ := h1
  obtain ⟨ts, p2, s2⟩ := h2
  refine ⟨_, pa_cons p1 p2 hs, fun B M σ δ H k kx Q rp h hq hx => s1 B M σ δ H _ kx _ rp h (fun v x H1 t1 r1 q1 => ?_) hx⟩
  refine s2 B M σ δ H1 _ kx _ (rp.stp t1) q1 (fun vs ds H2 hl t2 r2 q2 => ?_) (fun C H2 t2 q2 => hx C H2 (t1.trans t2) q2)
  exact hq (v :: vs) (x :: ds) H2 (by rw [List.length_cons, hl]; rfl) (t1.trans t2) ⟨v, vs, rfl, RD.ex t2.ex _ _ r1, r2⟩ q2
def dTup (da : DA) : DE := fun δ k kx => da δ (fun ds => k (.tup ds)) kx
def dLst (da : DA) : DE := fun δ k kx => da δ (fun ds => k (.lst ds)) kx
theorem line1000 {n : Nat} (h : n ≤ 1000) : n ≤ sizeLine := Nat.le_trans h (by rw [sizeLine_eq]; decide)
theorem line100k {n : Nat} (h : n ≤ 100000) : n ≤ sizeLine := Nat.le_trans h (by rw [sizeLine_eq]; decide)
theorem d_tup {x1} (h : PDL X E es das) (hl : es.length ≤ 1000 := by decide) : PD X E (.Tuple es x1 pos) (dTup das) := by
  obtain ⟨ts, p, s⟩ := h
  refine ⟨_, pe_tupN p, fun B M σ δ H k kx Q rp h hq hx => s B M σ δ H _ kx _ rp h (fun vs ds H1 hn t1 r1 q1 => ⟨line1000 (by rw [RDs.len r1, hn]; exact hl), fun p ob hp hob => ?_⟩) hx⟩
  have ok1 := t1.ok rp.ok
  have t2 : Stp X.K B M H1 (upd H1 p (.frz ob (.tup vs))) := .new ok1 hp
  exact hq _ (.tup ds) _ (t1.trans t2) ⟨p, vs, rfl, new_tup ok1 hp hob, RDs.ex t2.ex _ _ r1⟩ q1
theorem d_lst (h : PDL X E es das) (hl : es.length ≤ 1000 := by decide) : PD X E (.List es pos) (dLst das) := by
  obtain ⟨ts, p, s⟩ := h
  refine ⟨_, pe_lst p, fun B M σ δ H k kx Q rp h hq hx => s B M σ δ H _ kx _ rp h (fun vs ds H1 hn t1 r1 q1 => ⟨line1000 (by rw [RDs.len r1, hn]; exact hl), fun p hp => ?_⟩) hx⟩
  have ok1 := t1.ok rp.ok
  have t2 : Stp X.K B M H1 (upd H1 p (.lst vs)) := .new ok1 hp
  exact hq _ (.lst ds) _ (t1.trans t2) ⟨p, vs, rfl, new_at ok1 hp, RDs.ex t2.ex _ _ r1⟩ q1
/-! ### subscripts -/
theorem atI_rd {K : PySem.W.Frag} {B : Option Addr} {G : Hp} {ds : List D} {xs : List V} {i : Int} {d : D} (r : RDs K B G ds xs) (h : atI ds i = some d) : ∃ v, atI xs i = some v ∧ RD K B G d v := by
  unfold atI at h ⊢
  rw [RDs.len r]
  cases q : ixN ds.length i with
  | none => rw [q] at h; cases h
  | some j =>
    rw [q] at h
    exact RDs.gt r h
def dIx : DR := fun x y k => match x, y with
  | .tup ds, .int i => (match atI ds i with | some d => k d | none => False)
  | .lst ds, .int i => (match atI ds i with | some d => k d | none => False)
  | .scr ns, .int i => (match atI ns i with | some d => k (.int d) | none => False)
  | _, _ => False
theorem atI_map (ns : List Int) (i : Int) : atI (ns.map V.int) i = (atI ns i).map V.int := by
  unfold atI
  rw [List.length_map]
  cases ixN ns.length i with
  | none => rfl
  | some j =>
    show (ns.map V.int)[j]? = (ns[j]?).map V.int
    rw [List.getElem?_map]
theorem SqL.un {K : PySem.W.Frag} {M : List Addr} {H : Hp} {a : Addr} {xs : List V} (h : SqL K (hid M H) a xs) : SqL K H a xs := Evl.ex_l (hid_ex M H) h
theorem SqD.un {K : PySem.W.Frag} {M : List Addr} {H : Hp} {a : Addr} {xs : List V} (h : SqD K (hid M H) a xs) : SqT K H a xs := Evl.ex_t (hid_ex M H) h.1
theorem sr_ix {K : PySem.W.Frag} : SR K (rIx K) dIx := by
  intro B M H x y v w k Q ok hx hy hd hq
  cases x with
  | tup ds =>
    cases y <;> try exact hd.elim
    rename_i i
    obtain ⟨a, xs, rfl, e2, e3⟩ := hx
    have hd' : (match atI ds i with | some d => k d | none => False) := hd
    cases q : atI ds i with
    | none => rw [q] at hd'; exact hd'.elim
    | some d =>
      rw [q] at hd'
      obtain ⟨u, h1, h2⟩ := atI_rd e3 q
      exact .inr (.inl ⟨a, xs, i, u, rfl, hy, SqD.un e2, h1, hq u d H .refl h2 hd'⟩)
  | lst ds =>
    cases y <;> try exact hd.elim
    rename_i i
    obtain ⟨a, xs, rfl, e2, e3⟩ := hx
    have hd' : (match atI ds i with | some d => k d | none => False) := hd
    cases q : atI ds i with
    | none => rw [q] at hd'; exact hd'.elim
    | some d =>
      rw [q] at hd'
      obtain ⟨u, h1, h2⟩ := atI_rd e3 q
      exact .inl ⟨a, xs, i, u, rfl, hy, SqL.of (hid_of e2).2, h1, hq u d H .refl h2 hd'⟩
  | scr ns =>
    cases y <;> try exact hd.elim
    rename_i i
    obtain ⟨a, rfl, e2⟩ := hx
    have hd' : (match atI ns i with | some d => k (.int d) | none => False) := hd
    cases q : atI ns i with
    | none => rw [q] at hd'; exact hd'.elim
    | some d =>
      rw [q] at hd'
      exact .inl ⟨a, _, i, .int d, rfl, hy, SqL.un e2, by rw [atI_map, q]; rfl, hq _ (.int d) H .refl rfl hd'⟩
  | _ => exact hd.elim
theorem d_ix : PD X E a da → PD X E b db → (hs : PlainIx b) → PD X E (.Subscript a b pos) (dOp dIx da db)
  | ⟨_, h1, s1⟩, ⟨_, h2, s2⟩, hs => ⟨_, pe_ix ix_seq h1 h2 hs, se_op sr_ix s1 s2⟩
/-! ### slices -/
abbrev DO := Dst → (Option Int → Prop) → (Addr → Prop) → Prop
def SO (K : PySem.W.Frag) (E : XK) (te : TO) (de : DO) : Prop := ∀ B M σ δ H k kx (Q : Option Int → Hp → Prop), Rep K B M H σ δ → de δ k kx →
  (∀ o H2, Stp K B M H H2 → k o → Q o H2) → (∀ C H2, Stp K B M H H2 → kx C → E (.ref C) none H2) → te σ H Q
def PDO (X : Cx) (E : XK) (e : Option Expr) (de : DO) : Prop := ∃ te, PO X e te ∧ SO X.K E te de
def dNo : DO := fun _ k _ => k none
def dSome (de : DE) : DO := fun δ k kx => de δ (fun d => match d with
  | .int i => k (some i)
  | _ => False) kx
theorem o_none : PDO X E none dNo := ⟨_, po_none, fun B M σ δ H k kx Q rp h hq hx => hq none H .refl h⟩
theorem o_some : PD X E e de → PDO X E (some e) (dSome de)
  | ⟨_, h1, s1⟩ => ⟨_, po_some h1, fun B M σ δ H k kx Q rp h hq hx => s1 B M σ δ H _ kx _ rp h (fun v x H1 t1 r1 q1 => by
      cases x <;> try exact q1.elim
      rename_i i
      exact ⟨i, r1, hq _ H1 t1 q1⟩) hx⟩
@[irreducible] def cutD (xs : List D) (lo hi : Option Int) : List D := (xs.drop (HT.sIx xs.length 0 lo)).take (HT.sIx xs.length xs.length hi - HT.sIx xs.length 0 lo)
theorem cut_rd {K : PySem.W.Frag} {B : Option Addr} {G : Hp} {ds : List D} {xs : List V} (r : RDs K B G ds xs) (lo hi : Option Int) : RDs K B G (cutD ds lo hi) (cutV xs lo hi) := by
  unfold cutD cutV
  rw [RDs.len r]
  exact (r.drop _).take _
def dSl (da : DE) (dl dh : DO) : DE := fun δ k kx => da δ (fun x => dl δ (fun l => dh δ (fun h => match x with
  | .tup ds => k (.tup (cutD ds l h))
  | .lst ds => k (.lst (cutD ds l h))
  | _ => False) kx) kx) kx
theorem d_slT {lo hi : Option Expr} {dl dh : DO} {p2 : Pos} : PD X E e de → PDO X E lo dl → PDO X E hi dh → PD X E (.Subscript e (.Slice lo hi none p2) pos) (dSl de dl dh)
  | ⟨_, h0, s0⟩, ⟨_, h1, s1⟩, ⟨_, h2, s2⟩ => ⟨_, pe_slice (SlR.or sl_tupN sl_list) h0 h1 h2, fun B M σ δ H k kx Q rp h hq hx => s0 B M σ δ H _ kx _ rp h (fun v x H1 t1 r1 q1 =>
      s1 B M σ δ H1 _ kx _ (rp.stp t1) q1 (fun l H2 t2 q2 => s2 B M σ δ H2 _ kx _ ((rp.stp t1).stp t2) q2 (fun u H3 t3 q3 => by
        have t := (t1.trans t2).trans t3
        have ok := t.ok rp.ok
        have r3 := RD.ex t3.ex _ _ (RD.ex t2.ex _ _ r1)
        cases x with
        | tup ds =>
          obtain ⟨a, xs, rfl, e2, e3⟩ := r3
          refine .inl ⟨a, xs, rfl, SqD.un e2, fun c => ?_, fun c p ob hp hob => ?_⟩
          · refine hq _ (.tup (cutD ds l u)) H3 t ⟨a, xs, rfl, e2, ?_⟩ q3
            have hc : cutD ds l u = ds := by
              unfold cutD
              rw [← RDs.len e3, c.1, c.2, RDs.len e3]
              simp
            rw [hc]; exact e3
          · have t4 : Stp X.K B M H3 (upd H3 p (.frz ob (.tup (cutV xs l u)))) := .new ok hp
            exact hq _ (.tup (cutD ds l u)) _ (t.trans t4) ⟨p, _, rfl, new_tup ok hp hob, RDs.ex t4.ex _ _ (cut_rd e3 l u)⟩ q3
        | lst ds =>
          obtain ⟨a, xs, rfl, e2, e3⟩ := r3
          refine .inr ⟨a, xs, rfl, SqL.of (hid_of e2).2, fun p hp => ?_⟩
          have t4 : Stp X.K B M H3 (upd H3 p (.lst (cutV xs l u))) := .new ok hp
          exact hq _ (.lst (cutD ds l u)) _ (t.trans t4) ⟨p, _, rfl, new_at ok hp, RDs.ex t4.ex _ _ (cut_rd e3 l u)⟩ q3
        | _ => exact q3.elim) (fun C H3 t3 q3 => hx C H3 ((t1.trans t2).trans t3) q3)) (fun C H2 t2 q2 => hx C H2 (t1.trans t2) q2)) hx⟩
/-! ### t + u, xs + ys -/
def dCat : DR := fun x y k => match x, y with
  | .tup a, .tup b => a.length + b.length ≤ 100000 ∧ k (.tup (a ++ b))
  | .lst a, .lst b => a.length + b.length ≤ 100000 ∧ k (.lst (a ++ b))
  | _, _ => False
theorem sr_cat {K : PySem.W.Frag} : SR K (fun x y H Q => rCatN K x y H Q ∨ rCat x y H Q) dCat := by
  intro B M H x y v w k Q ok hx hy hd hq
  cases x with
  | tup ds =>
    cases y <;> try exact hd.elim
    rename_i es
    obtain ⟨a, xs, rfl, e2, e3⟩ := hx
    obtain ⟨b, ys, rfl, g2, g3⟩ := hy
    refine .inl ⟨a, b, xs, ys, rfl, rfl, SqD.un e2, SqD.un g2, line100k (by rw [RDs.len e3, RDs.len g3]; exact hd.1), fun c => ?_, fun c c2 => ?_, fun c c2 p ob hp hob => ?_⟩
    · subst c
      cases ds with
      | nil => exact hq _ (.tup es) H .refl ⟨b, ys, rfl, g2, g3⟩ hd.2
      | cons z zs => obtain ⟨_, _, q, _⟩ := e3; cases q
    · subst c2
      cases es with
      | nil => exact hq _ (.tup (ds ++ [])) H .refl ⟨a, xs, rfl, e2, by rw [List.append_nil]; exact e3⟩ hd.2
      | cons z zs => obtain ⟨_, _, q, _⟩ := g3; cases q
    · have t4 : Stp K B M H (upd H p (.frz ob (.tup (xs ++ ys)))) := .new ok hp
      exact hq _ (.tup (ds ++ es)) _ t4 ⟨p, _, rfl, new_tup ok hp hob, RDs.ex t4.ex _ _ (RDs.app e3 g3)⟩ hd.2
  | lst ds =>
    cases y <;> try exact hd.elim
    rename_i es
    obtain ⟨a, xs, rfl, e2, e3⟩ := hx
    obtain ⟨b, ys, rfl, g2, g3⟩ := hy
    refine .inr ⟨a, b, xs, ys, rfl, rfl, (hid_of e2).2, (hid_of g2).2, line100k (by rw [RDs.len e3, RDs.len g3]; exact hd.1), fun p hp => ?_⟩
    have t4 : Stp K B M H (upd H p (.lst (xs ++ ys))) := .new ok hp
    exact hq _ (.lst (ds ++ es)) _ t4 ⟨p, _, rfl, new_at ok hp, RDs.ex t4.ex _ _ (RDs.app e3 g3)⟩ hd.2
  | _ => exact hd.elim
theorem d_cat (ha : PD X E a da) (hb : PD X E b db) : PD X E (.BinOp a .Add b pos) (dOp dCat da db) := d_op (OpR.or op_catN op_cat) sr_cat ha hb
/-! ### == and != of data -/
mutual
def D.py : D → PyData
  | .non => .none
  | .bl b => .bool b
  | .int i => .int i
  | .str x => .str x
  | .lst ds => .list (pys ds)
  | .tup ds => .tuple (pys ds)
  | .bag => .none
  | .adr _ => .none
  | .scr _ => .none
  | .ins _ _ _ => .none
  | .obj _ => .none
def pys : List D → List PyData
  | [] => []
  | d :: ds => d.py :: pys ds
end
mutual
def D.plain : D → Bool
  | .lst ds => plains ds
  | .tup ds => plains ds
  | .bag => false
  | .adr _ => false
  | .scr _ => false
  | .ins _ _ _ => false
  | .obj _ => false
  | _ => true
def plains : List D → Bool
  | [] => true
  | d :: ds => d.plain && plains ds
end
mutual
theorem RD.dp {K : PySem.W.Frag} {B : Option Addr} {M : List Addr} {H : Hp} : ∀ (d : D) (v : V), d.plain = true → RD K B (hid M H) d v → Dp K H v d.py
  | .non, v, _, h => by rw [show v = .non from h]; exact .non
  | .bl b, v, _, h => by rw [show v = .bl b from h]; exact .bl b
  | .int i, v, _, h => by rw [show v = .int i from h]; exact .int i
  | .str x, v, _, h => by rw [show v = .str x from h]; exact .str x
  | .lst ds, v, p, ⟨a, xs, e1, e2, e3⟩ => by
    rw [e1]
    exact .lst (SqL.of (hid_of e2).2) (RDs.dp ds xs (by simpa [D.plain] using p) e3)
  | .tup ds, v, p, ⟨a, xs, e1, e2, e3⟩ => by
    rw [e1]
    exact .tup (SqD.un e2) (RDs.dp ds xs (by simpa [D.plain] using p) e3)
  | .bag, v, p, h => by simp [D.plain] at p
  | .adr _, v, p, h => by simp [D.plain] at p
  | .scr _, v, p, h => by simp [D.plain] at p
  | .ins _ _ _, v, p, h => by simp [D.plain] at p
  | .obj _, v, p, h => by simp [D.plain] at p
theorem RDs.dp {K : PySem.W.Frag} {B : Option Addr} {M : List Addr} {H : Hp} : ∀ (ds : List D) (xs : List V), plains ds = true → RDs K B (hid M H) ds xs → DpAll K H xs (pys ds)
  | [], xs, _, h => by rw [show xs = [] from h]; exact .nil
  | d :: ds, xs, p, ⟨y, ys, e1, e2, e3⟩ => by
    rw [e1]
    have p' : d.plain = true ∧ plains ds = true := by simpa [plains] using p
    exact .cons (RD.dp d y p'.1 e2) (RDs.dp ds ys p'.2 e3)
end
def D.shp (d : D) : Bool := d.plain && SeqAt.shaped d.py
@[irreducible] def eqD (x y : D) : Bool := PyData.eqv x.py y.py
@[irreducible] def dEq : DR := fun x y k => x.shp = true ∧ y.shp = true ∧ k (.bl (eqD x y))
@[irreducible] def dNe : DR := fun x y k => x.shp = true ∧ y.shp = true ∧ k (.bl (!eqD x y))
theorem sr_eq {K : PySem.W.Frag} : SR K (rEqD K) dEq := fun B M H x y v w k Q ok hx hy hd hq => by
  unfold dEq at hd
  obtain ⟨s1, s2, q⟩ := hd
  have p1 := Bool.and_eq_true_iff.mp s1
  have p2 := Bool.and_eq_true_iff.mp s2
  exact ⟨x.py, y.py, RD.dp x v p1.1 hx, RD.dp y w p2.1 hy, p1.2, p2.2, hq _ (.bl (eqD x y)) H .refl (by unfold eqD; exact rfl) q⟩
theorem sr_ne {K : PySem.W.Frag} : SR K (rNeD K) dNe := fun B M H x y v w k Q ok hx hy hd hq => by
  unfold dNe at hd
  obtain ⟨s1, s2, q⟩ := hd
  have p1 := Bool.and_eq_true_iff.mp s1
  have p2 := Bool.and_eq_true_iff.mp s2
  exact ⟨x.py, y.py, RD.dp x v p1.1 hx, RD.dp y w p2.1 hy, p1.2, p2.2, hq _ (.bl (!eqD x y)) H .refl (by unfold eqD; exact rfl) q⟩
theorem d_eq (hu : X.A.units + 64 < cLine) (ha : PD X E a da) (hb : PD X E b db) : PD X E (.Compare a [.Eq] [b] pos) (dOp dEq da db) := d_cmp (op_eqD hu) sr_eq (nomark _) ha hb
theorem d_ne (hu : X.A.units + 64 < cLine) (ha : PD X E a da) (hb : PD X E b db) : PD X E (.Compare a [.NotEq] [b] pos) (dOp dNe da db) := d_cmp (op_neD hu) sr_ne (nomark _) ha hb
theorem t_eq (hu : X.A.units + 64 < cLine) (ha : PD X E a da) (hb : PD X E b db) : PDT X E (.Compare a [.Eq] [b] pos) (dB (dOp dEq da db)) := t_cmp (op_eqD hu) sr_eq (nomark _) ha hb
theorem t_ne (hu : X.A.units + 64 < cLine) (ha : PD X E a da) (hb : PD X E b db) : PDT X E (.Compare a [.NotEq] [b] pos) (dB (dOp dNe da db)) := t_cmp (op_neD hu) sr_ne (nomark _) ha hb
/-! ### in, not in: flat things -/
def D.flat : D → Bool
  | .non => true
  | .bl _ => true
  | .int _ => true
  | .str _ => true
  | _ => false
def D.fv : D → V
  | .bl b => .bl b
  | .int i => .int i
  | .str x => .str x
  | _ => .non
theorem RD.fv {K : PySem.W.Frag} {B : Option Addr} {G : Hp} {d : D} {v : V} (f : d.flat = true) (h : RD K B G d v) : v = d.fv ∧ flatV d.fv = true := by
  cases d <;> simp [D.flat] at f <;> exact ⟨h, rfl⟩
theorem RDs.fv {K : PySem.W.Frag} {B : Option Addr} {G : Hp} : ∀ {ds : List D} {xs : List V}, ds.all D.flat = true → RDs K B G ds xs → xs = ds.map D.fv ∧ (ds.map D.fv).all flatV = true
  | [], xs, _, h => by rw [show xs = [] from h]; exact ⟨rfl, rfl⟩
  | d :: ds, xs, f, ⟨y, ys, e1, e2, e3⟩ => by
    have f' : d.flat = true ∧ ds.all D.flat = true := by simpa using f
    obtain ⟨h1, h2⟩ := RD.fv f'.1 e2
    obtain ⟨h3, h4⟩ := RDs.fv f'.2 e3
    rw [e1, h1, h3]
    refine ⟨rfl, ?_⟩
    rw [List.map_cons, List.all_cons, h2, h4]; rfl
def inD (x : D) (ds : List D) : Bool := inV x.fv (ds.map D.fv)
def dIn (neg : Bool) : DR := fun x y k => match y with
  | .tup ds => x.flat = true ∧ ds.all D.flat = true ∧ k (.bl (if neg then !inD x ds else inD x ds))
  | .lst ds => x.flat = true ∧ ds.all D.flat = true ∧ k (.bl (if neg then !inD x ds else inD x ds))
  | _ => False
theorem sr_in {K : PySem.W.Frag} {neg : Bool} : SR K (rIn K neg) (dIn neg) := by
  intro B M H x y v w k Q ok hx hy hd hq
  cases y with
  | tup ds =>
    obtain ⟨b, ys, rfl, g2, g3⟩ := hy
    obtain ⟨f1, f2, q⟩ := hd
    obtain ⟨rfl, h2⟩ := RD.fv f1 hx
    obtain ⟨rfl, h4⟩ := RDs.fv f2 g3
    exact ⟨b, _, rfl, .inr (SqD.un g2), h2, h4, hq _ (.bl (if neg then !inD x ds else inD x ds)) H .refl rfl q⟩
  | lst ds =>
    obtain ⟨b, ys, rfl, g2, g3⟩ := hy
    obtain ⟨f1, f2, q⟩ := hd
    obtain ⟨rfl, h2⟩ := RD.fv f1 hx
    obtain ⟨rfl, h4⟩ := RDs.fv f2 g3
    exact ⟨b, _, rfl, .inl (SqL.of (hid_of g2).2), h2, h4, hq _ (.bl (if neg then !inD x ds else inD x ds)) H .refl rfl q⟩
  | _ => exact hd.elim
theorem d_in (ha : PD X E a da) (hb : PD X E b db) (hm : behindInMarks .In b = false := by with_unfolding_all rfl) : PD X E (.Compare a [.In] [b] pos) (dOp (dIn false) da db) := d_cmp op_in_seq sr_in hm ha hb
theorem d_notIn (ha : PD X E a da) (hb : PD X E b db) (hm : behindInMarks .NotIn b = false := by with_unfolding_all rfl) : PD X E (.Compare a [.NotIn] [b] pos) (dOp (dIn true) da db) := d_cmp op_notIn_seq sr_in hm ha hb
/-! ### chains -/
def dChain (r r' : DR) (da db dc : DE) : DE := fun δ k kx => da δ (fun x => db δ (fun y => r x y (fun z => match z with
  | .bl t => if t = true then dc δ (fun w => r' y w k) kx else k (.bl false)
  | _ => False)) kx) kx
theorem d_chain {op op' : CmpOp} {r r' : R2} {dr dr' : DR} (ho : OpR X (compareOp op) r) (ho' : OpR X (compareOp op') r') (hr : SR X.K r dr) (hr' : SR X.K r' dr') (ha : PD X E a da) (hb : PD X E b db) (hc : PD X E c dc)
    (hm : lastMarks [op, op'] [b, c] = false := by with_unfolding_all rfl) : PD X E (.Compare a [op, op'] [b, c] pos) (dChain dr dr' da db dc) := by
  obtain ⟨ta, p1, s1⟩ := ha
  obtain ⟨tb, p2, s2⟩ := hb
  obtain ⟨tc, p3, s3⟩ := hc
  refine ⟨_, pe_chain ho ho' p1 p2 p3 hm, fun B M σ δ H k kx Q rp h hq hx => s1 B M σ δ H _ kx _ rp h (fun v x H1 t1 r1 q1 => ?_) hx⟩
  refine s2 B M σ δ H1 _ kx _ (rp.stp t1) q1 (fun w y H2 t2 r2 q2 => ?_) (fun C H2 t2 q2 => hx C H2 (t1.trans t2) q2)
  have t12 := t1.trans t2
  refine hr B M H2 x y v w _ _ (t12.ok rp.ok) (RD.ex t2.ex _ _ r1) r2 q2 (fun u d H3 t3 r3 q3 => ?_)
  cases d <;> try exact q3.elim
  rename_i t
  refine ⟨t, r3, ?_⟩
  have t13 := t12.trans t3
  cases t with
  | false => exact iteF (hq _ (.bl false) H3 t13 rfl (by simpa using q3))
  | true =>
    refine iteT (s3 B M σ δ H3 _ kx _ (rp.stp t13) (by simpa using q3) (fun u' z H4 t4 r4 q4 => ?_) (fun C H4 t4 q4 => hx C H4 (t13.trans t4) q4))
    exact hr' B M H4 y z w u' k Q ((t13.trans t4).ok rp.ok) (RD.ex t4.ex _ _ (RD.ex t3.ex _ _ r2)) r4 q4 (fun u2 d2 H5 t5 r5 q5 => hq u2 d2 H5 ((t13.trans t4).trans t5) r5 q5)
/-! ### built-in calls -/
def SC (K : PySem.W.Frag) (r : List V → Hp → VK → Prop) (dr : List D → (D → Prop) → Prop) : Prop := ∀ B M H ds vs k (Q : VK), Ok K B M H → RDs K B (hid M H) ds vs → dr ds k → (∀ u d H2, Stp K B M H H2 → RD K B (hid M H2) d u → k d → Q u H2) → r vs H Q
def dCB (dr : List D → (D → Prop) → Prop) (da : DA) : DE := fun δ k kx => da δ (fun ds => dr ds k) kx
theorem se_cb {K : PySem.W.Frag} {r : List V → Hp → VK → Prop} {dr : List D → (D → Prop) → Prop} {n : Nat} {ta : TA} (hr : SC K r dr) (ha : SAn K E n ta das) : SE K E (tCB r ta) (dCB dr das) :=
  fun B M σ δ H k kx Q rp h hq hx => ha B M σ δ H _ kx _ rp h (fun vs ds H1 _ t1 r1 q1 => hr B M H1 ds vs k Q (t1.ok rp.ok) r1 q1 (fun u d H2 t2 r2 q2 => hq u d H2 (t1.trans t2) r2 q2)) hx
theorem d_callB {id : String} {x : Str} {p : Pos} {r : List V → Hp → VK → Prop} {dr : List D → (D → Prop) → Prop} (hc : CallR X (.builtin id) r) (hr : SC X.K r dr) (hg : Gl X x) (hm : X.mg x = none) (hv : bootBuiltins x = some (.builtin id)) (ha : PDL X E (e :: es) das) (hn : x ≠ "__name__" := by decide) (hdb : (x == ("__debug__" : Str)) = false := by decide)
    (he : starEach (e :: es) X.env = (false, eval e X.env) :: starEach es X.env := by rfl) (hpl : (backTo pos (starEach es X.env)).any (·.1) = false := by rfl) : PD X E (.Call (.Name x p) (e :: es) [] pos) (dCB dr das) := by
  obtain ⟨ta, p1, s1⟩ := ha
  exact ⟨_, pe_callB hc hg hm hv p1 hn hdb he hpl, se_cb hr s1⟩
theorem d_callT {T : String} {x : Str} {p : Pos} {r : List V → Hp → VK → Prop} {dr : List D → (D → Prop) → Prop} (hc : CallR X (.type T) r) (hr : SC X.K r dr) (hg : Gl X x) (hm : X.mg x = none) (hv : bootBuiltins x = some (.type T)) (ha : PDL X E (e :: es) das) (hn : x ≠ "__name__" := by decide) (hdb : (x == ("__debug__" : Str)) = false := by decide)
    (he : starEach (e :: es) X.env = (false, eval e X.env) :: starEach es X.env := by rfl) (hpl : (backTo pos (starEach es X.env)).any (·.1) = false := by rfl) : PD X E (.Call (.Name x p) (e :: es) [] pos) (dCB dr das) := by
  obtain ⟨ta, p1, s1⟩ := ha
  exact ⟨_, pe_callTy hc hg hm hv p1 hn hdb he hpl, se_cb hr s1⟩
/-- one argument, two arguments -/
def SC1 (K : PySem.W.Frag) (r : List V → Hp → VK → Prop) (dr : D → (D → Prop) → Prop) : Prop := ∀ B M H d v k (Q : VK), Ok K B M H → RD K B (hid M H) d v → dr d k → (∀ u d H2, Stp K B M H H2 → RD K B (hid M H2) d u → k d → Q u H2) → r [v] H Q
def SC2 (K : PySem.W.Frag) (r : List V → Hp → VK → Prop) (dr : DR) : Prop := ∀ B M H d d' v v' k (Q : VK), Ok K B M H → RD K B (hid M H) d v → RD K B (hid M H) d' v' → dr d d' k → (∀ u d H2, Stp K B M H H2 → RD K B (hid M H2) d u → k d → Q u H2) → r [v, v'] H Q
def dC1 (dr : D → (D → Prop) → Prop) (da : DE) : DE := fun δ k kx => da δ (fun d => dr d k) kx
theorem se_c1 {K : PySem.W.Frag} {r : List V → Hp → VK → Prop} {dr : D → (D → Prop) → Prop} {ta : TE} (hr : SC1 K r dr) (ha : SE K E ta da) : SE K E (tCB r (tCons ta tNil)) (dC1 dr da) :=
  fun B M σ δ H k kx Q rp h hq hx => ha B M σ δ H _ kx _ rp h (fun v d H1 t1 r1 q1 => hr B M H1 d v k Q (t1.ok rp.ok) r1 q1 (fun u d H2 t2 r2 q2 => hq u d H2 (t1.trans t2) r2 q2)) hx
theorem se_c2 {K : PySem.W.Frag} {r : List V → Hp → VK → Prop} {dr : DR} {ta tb : TE} (hr : SC2 K r dr) (ha : SE K E ta da) (hb : SE K E tb db) : SE K E (tCB r (tCons ta (tCons tb tNil))) (dOp dr da db) :=
  fun B M σ δ H k kx Q rp h hq hx => ha B M σ δ H _ kx _ rp h (fun v d H1 t1 r1 q1 => hb B M σ δ H1 _ kx _ (rp.stp t1) q1 (fun w e H2 t2 r2 q2 => hr B M H2 d e v w k Q ((t1.trans t2).ok rp.ok) (RD.ex t2.ex _ _ r1) r2 q2 (fun u d H3 t3 r3 q3 => hq u d H3 ((t1.trans t2).trans t3) r3 q3))
    (fun C H2 t2 q2 => hx C H2 (t1.trans t2) q2)) hx
theorem d_c1 {id : String} {x : Str} {p : Pos} {r : List V → Hp → VK → Prop} {dr : D → (D → Prop) → Prop} (hc : CallR X (.builtin id) r) (hr : SC1 X.K r dr) (hm : X.mg x = none) (hv : bootBuiltins x = some (.builtin id)) (ha : PD X E a da) (hg : Gl X x := by rfl) (hn : x ≠ "__name__" := by decide) (hdb : (x == ("__debug__" : Str)) = false := by decide)
    (he : starEach [a] X.env = (false, eval a X.env) :: starEach [] X.env := by rfl) (hpl : (backTo pos (starEach [] X.env)).any (·.1) = false := by rfl) : PD X E (.Call (.Name x p) [a] [] pos) (dC1 dr da) := by
  obtain ⟨ta, p1, s1⟩ := ha
  exact ⟨_, pe_callB hc hg hm hv (pa_cons p1 pa_nil he) hn hdb he hpl, se_c1 hr s1⟩
theorem d_t1 {T : String} {x : Str} {p : Pos} {r : List V → Hp → VK → Prop} {dr : D → (D → Prop) → Prop} (hc : CallR X (.type T) r) (hr : SC1 X.K r dr) (hm : X.mg x = none) (hv : bootBuiltins x = some (.type T)) (ha : PD X E a da) (hg : Gl X x := by rfl) (hn : x ≠ "__name__" := by decide) (hdb : (x == ("__debug__" : Str)) = false := by decide)
    (he : starEach [a] X.env = (false, eval a X.env) :: starEach [] X.env := by rfl) (hpl : (backTo pos (starEach [] X.env)).any (·.1) = false := by rfl) : PD X E (.Call (.Name x p) [a] [] pos) (dC1 dr da) := by
  obtain ⟨ta, p1, s1⟩ := ha
  exact ⟨_, pe_callTy hc hg hm hv (pa_cons p1 pa_nil he) hn hdb he hpl, se_c1 hr s1⟩
theorem d_c2 {id : String} {x : Str} {p : Pos} {r : List V → Hp → VK → Prop} {dr : DR} (hc : CallR X (.builtin id) r) (hr : SC2 X.K r dr) (hm : X.mg x = none) (hv : bootBuiltins x = some (.builtin id)) (ha : PD X E a da) (hb : PD X E b db) (hg : Gl X x := by rfl) (hn : x ≠ "__name__" := by decide) (hdb : (x == ("__debug__" : Str)) = false := by decide)
    (he : starEach [a, b] X.env = (false, eval a X.env) :: starEach [b] X.env := by rfl) (he2 : starEach [b] X.env = (false, eval b X.env) :: starEach [] X.env := by rfl) (hpl : (backTo pos (starEach [b] X.env)).any (·.1) = false := by rfl) : PD X E (.Call (.Name x p) [a, b] [] pos) (dOp dr da db) := by
  obtain ⟨ta, p1, s1⟩ := ha
  obtain ⟨tb, p2, s2⟩ := hb
  exact ⟨_, pe_callB hc hg hm hv (pa_cons p1 (pa_cons p2 pa_nil he2) he) hn hdb he hpl, se_c2 hr s1 s2⟩
def cLen : D → (D → Prop) → Prop := fun d k => match d with
  | .tup xs => k (.int xs.length)
  | .lst xs => k (.int xs.length)
  | .scr xs => k (.int xs.length)
  | _ => False
theorem sc_len {K : PySem.W.Frag} : SC1 K (fun xs H Q => ∃ p ys, xs = [.ref p] ∧ (SqL K H p ys ∨ SqT K H p ys) ∧ Q (.int ys.length) H) cLen := by
  intro B M H d v k Q ok r h hq
  cases d with
  | tup es =>
    obtain ⟨a, xs, rfl, e3, e4⟩ := r
    exact ⟨a, xs, rfl, .inr (SqD.un e3), hq _ (.int es.length) H .refl (by rw [RDs.len e4]; exact rfl) h⟩
  | lst es =>
    obtain ⟨a, xs, rfl, e3, e4⟩ := r
    exact ⟨a, xs, rfl, .inl (SqL.of (hid_of e3).2), hq _ (.int es.length) H .refl (by rw [RDs.len e4]; exact rfl) h⟩
  | scr ns =>
    obtain ⟨a, rfl, e2⟩ := r
    exact ⟨a, _, rfl, .inl (SqL.un e2), hq _ (.int ns.length) H .refl (by rw [List.length_map]; exact rfl) h⟩
  | _ => exact h.elim
theorem d_len {p : Pos} (hm : X.mg "len" = none) (ha : PD X E a da) (hg : Gl X "len" := by rfl) (he : starEach [a] X.env = (false, eval a X.env) :: starEach [] X.env := by rfl) (hpl : (backTo pos (starEach [] X.env)).any (·.1) = false := by rfl) : PD X E (.Call (.Name "len" p) [a] [] pos) (dC1 cLen da) :=
  d_c1 call_len_seq sc_len hm (by decide +kernel) ha hg (by decide) (by decide) he hpl
def cAbs : D → (D → Prop) → Prop := fun d k => match d with
  | .int i => k (.int (if i < 0 then -i else i))
  | _ => False
theorem sc_abs {K : PySem.W.Frag} : SC1 K (fun xs H Q => ∃ i, xs = [.int i] ∧ Q (.int (if i < 0 then -i else i)) H) cAbs := by
  intro B M H d v k Q ok r h hq
  cases d with
  | int i => exact ⟨i, by rw [show v = .int i from r], hq _ (.int (if i < 0 then -i else i)) H .refl rfl h⟩
  | _ => exact h.elim
theorem d_abs {p : Pos} (hm : X.mg "abs" = none) (ha : PD X E a da) (hg : Gl X "abs" := by rfl) (he : starEach [a] X.env = (false, eval a X.env) :: starEach [] X.env := by rfl) (hpl : (backTo pos (starEach [] X.env)).any (·.1) = false := by rfl) : PD X E (.Call (.Name "abs" p) [a] [] pos) (dC1 cAbs da) :=
  d_c1 call_abs sc_abs hm (by decide +kernel) ha hg (by decide) (by decide) he hpl
def cInt : D → (D → Prop) → Prop := fun d k => match d with
  | .bl b => k (.int (if b then 1 else 0))
  | _ => False
theorem sc_int {K : PySem.W.Frag} : SC1 K (fun xs H Q => (∃ i, xs = [.int i] ∧ Q (.int i) H) ∨ ∃ k, xs = [.bl k] ∧ Q (.int (if k then 1 else 0)) H) cInt := by
  intro B M H d v k Q ok r h hq
  cases d with
  | bl i => exact .inr ⟨i, by rw [show v = .bl i from r], hq _ (.int (if i then 1 else 0)) H .refl rfl h⟩
  | _ => exact h.elim
theorem d_intb {p : Pos} (hm : X.mg "int" = none) (ha : PD X E a da) (hg : Gl X "int" := by rfl) (he : starEach [a] X.env = (false, eval a X.env) :: starEach [] X.env := by rfl) (hpl : (backTo pos (starEach [] X.env)).any (·.1) = false := by rfl) : PD X E (.Call (.Name "int" p) [a] [] pos) (dC1 cInt da) :=
  d_t1 call_int1 sc_int hm (by decide +kernel) ha hg (by decide) (by decide) he hpl
def cMax : DR := dI0 fun i j => .int (if j > i then j else i)
def cMin : DR := dI0 fun i j => .int (if j < i then j else i)
theorem sc_max {K : PySem.W.Frag} : SC2 K (fun xs H Q => ∃ i j, xs = [.int i, .int j] ∧ Q (.int (if j > i then j else i)) H) cMax := by
  intro B M H d d' v v' k Q ok r r' h hq
  cases d <;> try exact h.elim
  cases d' <;> try exact h.elim
  rename_i i j
  exact ⟨i, j, by rw [show v = .int i from r, show v' = .int j from r'], hq _ (.int (if j > i then j else i)) H .refl rfl h⟩
theorem sc_min {K : PySem.W.Frag} : SC2 K (fun xs H Q => ∃ i j, xs = [.int i, .int j] ∧ Q (.int (if j < i then j else i)) H) cMin := by
  intro B M H d d' v v' k Q ok r r' h hq
  cases d <;> try exact h.elim
  cases d' <;> try exact h.elim
  rename_i i j
  exact ⟨i, j, by rw [show v = .int i from r, show v' = .int j from r'], hq _ (.int (if j < i then j else i)) H .refl rfl h⟩
theorem d_max {p : Pos} (hc : X.calm = true) (hm : X.mg "max" = none) (ha : PD X E a da) (hb : PD X E b db) (hg : Gl X "max" := by rfl) (he : starEach [a, b] X.env = (false, eval a X.env) :: starEach [b] X.env := by rfl) (he2 : starEach [b] X.env = (false, eval b X.env) :: starEach [] X.env := by rfl) (hpl : (backTo pos (starEach [b] X.env)).any (·.1) = false := by rfl) :
    PD X E (.Call (.Name "max" p) [a, b] [] pos) (dOp cMax da db) := d_c2 (call_max2 hc) sc_max hm (by decide +kernel) ha hb hg (by decide) (by decide) he he2 hpl
theorem d_min {p : Pos} (hc : X.calm = true) (hm : X.mg "min" = none) (ha : PD X E a da) (hb : PD X E b db) (hg : Gl X "min" := by rfl) (he : starEach [a, b] X.env = (false, eval a X.env) :: starEach [b] X.env := by rfl) (he2 : starEach [b] X.env = (false, eval b X.env) :: starEach [] X.env := by rfl) (hpl : (backTo pos (starEach [b] X.env)).any (·.1) = false := by rfl) :
    PD X E (.Call (.Name "min" p) [a, b] [] pos) (dOp cMin da db) := d_c2 (call_min2 hc) sc_min hm (by decide +kernel) ha hb hg (by decide) (by decide) he he2 hpl
def cTup : D → (D → Prop) → Prop := fun d k => match d with
  | .lst xs => k (.tup xs)
  | .tup xs => k (.tup xs)
  | _ => False
theorem sc_tup {K : PySem.W.Frag} : SC1 K (fun xs H Q => ∃ p ys, xs = [.ref p] ∧ ((SqL K H p ys ∧ NewT H ys Q) ∨ (SqT K H p ys ∧ Q (.ref p) H))) cTup := by
  intro B M H d v k Q ok r h hq
  cases d with
  | tup es =>
    obtain ⟨a, xs, rfl, e3, e4⟩ := r
    exact ⟨a, xs, rfl, .inr ⟨SqD.un e3, hq _ (.tup es) H .refl ⟨a, xs, rfl, e3, e4⟩ h⟩⟩
  | lst es =>
    obtain ⟨a, xs, rfl, e3, e4⟩ := r
    refine ⟨a, xs, rfl, .inl ⟨SqL.of (hid_of e3).2, fun l ob hl hob => ?_⟩⟩
    have t4 : Stp K B M H (upd H l (.frz ob (.tup xs))) := .new ok hl
    exact hq _ (.tup es) _ t4 ⟨l, xs, rfl, new_tup ok hl hob, RDs.ex t4.ex _ _ e4⟩ h
  | _ => exact h.elim
theorem d_tuple {p : Pos} (hm : X.mg "tuple" = none) (ha : PD X E a da) (hg : Gl X "tuple" := by rfl) (he : starEach [a] X.env = (false, eval a X.env) :: starEach [] X.env := by rfl) (hpl : (backTo pos (starEach [] X.env)).any (·.1) = false := by rfl) : PD X E (.Call (.Name "tuple" p) [a] [] pos) (dC1 cTup da) :=
  d_t1 call_tupN sc_tup hm (by decide +kernel) ha hg (by decide) (by decide) he hpl
def cLst : D → (D → Prop) → Prop := fun d k => match d with
  | .lst xs => k (.lst xs)
  | .tup xs => k (.lst xs)
  | _ => False
theorem sc_lst {K : PySem.W.Frag} : SC1 K (fun xs H Q => ∃ p ys, xs = [.ref p] ∧ (SqL K H p ys ∨ SqT K H p ys) ∧ ∀ l, H l = none → Q (.ref l) (upd H l (.lst ys))) cLst := by
  intro B M H d v k Q ok r h hq
  cases d with
  | tup es =>
    obtain ⟨a, xs, rfl, e3, e4⟩ := r
    refine ⟨a, xs, rfl, .inr (SqD.un e3), fun l hl => ?_⟩
    have t4 : Stp K B M H (upd H l (.lst xs)) := .new ok hl
    exact hq _ (.lst es) _ t4 ⟨l, xs, rfl, new_at ok hl, RDs.ex t4.ex _ _ e4⟩ h
  | lst es =>
    obtain ⟨a, xs, rfl, e3, e4⟩ := r
    refine ⟨a, xs, rfl, .inl (SqL.of (hid_of e3).2), fun l hl => ?_⟩
    have t4 : Stp K B M H (upd H l (.lst xs)) := .new ok hl
    exact hq _ (.lst es) _ t4 ⟨l, xs, rfl, new_at ok hl, RDs.ex t4.ex _ _ e4⟩ h
  | _ => exact h.elim
theorem d_list {p : Pos} (hm : X.mg "list" = none) (ha : PD X E a da) (hg : Gl X "list" := by rfl) (he : starEach [a] X.env = (false, eval a X.env) :: starEach [] X.env := by rfl) (hpl : (backTo pos (starEach [] X.env)).any (·.1) = false := by rfl) : PD X E (.Call (.Name "list" p) [a] [] pos) (dC1 cLst da) :=
  d_t1 call_list_of sc_lst hm (by decide +kernel) ha hg (by decide) (by decide) he hpl
def cAll : D → (D → Prop) → Prop := fun d k => match d with
  | .lst xs => ∃ bs : List Bool, xs = bs.map D.bl ∧ k (.bl (bs.all id))
  | _ => False
theorem sc_all {K : PySem.W.Frag} : SC1 K (rAll K) cAll := by
  intro B M H d v k Q ok r h hq
  cases d with
  | lst es =>
    obtain ⟨a, xs, rfl, e3, e4⟩ := r
    obtain ⟨bs, rfl, h⟩ := h
    have e := RDs.of_bls bs xs e4
    subst e
    exact ⟨a, bs, rfl, SqL.of (hid_of e3).2, hq _ (.bl (bs.all id)) H .refl rfl h⟩
  | _ => exact h.elim
theorem d_all {p : Pos} (hc : X.calm = true) (hm : X.mg "all" = none) (ha : PD X E a da) (hg : Gl X "all" := by rfl) (he : starEach [a] X.env = (false, eval a X.env) :: starEach [] X.env := by rfl) (hpl : (backTo pos (starEach [] X.env)).any (·.1) = false := by rfl) : PD X E (.Call (.Name "all" p) [a] [] pos) (dC1 cAll da) :=
  d_c1 (cr_all hc) sc_all hm (by decide +kernel) ha hg (by decide) (by decide) he hpl
/-! ### isinstance(x, T) -/
def D.ty : D → Option String
  | .non => some "NoneType"
  | .bl _ => some "bool"
  | .int _ => some "int"
  | .str _ => some "str"
  | .lst _ => some "list"
  | .tup _ => some "tuple"
  | _ => none
theorem RD.tyx {K : PySem.W.Frag} {B : Option Addr} {M : List Addr} {H : Hp} {d : D} {v : V} {t : String} (h : RD K B (hid M H) d v) (ht : d.ty = some t) : TyX K H v (.type t) := by
  cases d with
  | non => cases ht; rw [show v = .non from h]; exact .base .non
  | bl b => cases ht; rw [show v = .bl b from h]; exact .base (.bl b)
  | int i => cases ht; rw [show v = .int i from h]; exact .base (.int i)
  | str x => cases ht; rw [show v = .str x from h]; exact .base (.str x)
  | lst ds => cases ht; obtain ⟨a, xs, rfl, e, _⟩ := h; exact .base (.lst (hid_of e).2)
  | tup ds =>
    cases ht
    obtain ⟨a, xs, rfl, e, _⟩ := h
    rcases e.1 with (e | ⟨o, e⟩) | ⟨o, its, n, e1, e2, _⟩
    · exact .base (.tup (hid_of e).2)
    · exact .fTuple (hid_of e).2
    · exact .kTuple e1 e2
  | bag => cases ht
  | adr p => cases ht
  | scr ns => cases ht
  | ins C fs ds => cases ht
  | obj P => cases ht
def D.isi (T : String) (d : D) : Option Bool := d.ty.bind fun t => kitB t T
@[irreducible] def isiK (o : Option Bool) (k : D → Prop) : Prop := match o with
  | some b => k (.bl b)
  | none => False
def dIsi (T : String) (da : DE) : DE := fun δ k kx => da δ (fun d => isiK (d.isi T) k) kx
theorem d_isi {T : String} {x : Str} {p p2 : Pos} (hm : X.mg "isinstance" = none) (hm2 : X.mg x = none) (hv : bootBuiltins x = some (.type T)) (ha : PD X E a da) (hg2 : Gl X x := by rfl) (hg : Gl X "isinstance" := by rfl) (hn : x ≠ "__name__" := by decide) (hd : (x == ("__debug__" : Str)) = false := by decide)
    (hs : starEach [a, .Name x p2] X.env = (false, eval a X.env) :: starEach [.Name x p2] X.env := by rfl) (hs2 : starEach [.Name x p2] X.env = (false, eval (.Name x p2) X.env) :: starEach [] X.env := by rfl) (hpl : (backTo pos (starEach [.Name x p2] X.env)).any (·.1) = false := by rfl) :
    PD X E (.Call (.Name "isinstance" p) [a, .Name x p2] [] pos) (dIsi T da) := by
  obtain ⟨ta, p1, s1⟩ := ha
  refine ⟨_, pe_callB call_isi hg hm (by decide +kernel) (pa_cons p1 (pa_cons (pe_bltn (v := .ty T) hg2 hm2 hv rfl hn hd) pa_nil hs2) hs) (by decide) (by decide) hs hpl, fun B M σ δ H k kx Q rp h hq hx => s1 B M σ δ H _ kx _ rp h (fun v d H1 t1 r1 q1 => ?_) hx⟩
  unfold D.isi isiK at q1
  cases q : d.ty with
  | none => rw [q] at q1; exact q1.elim
  | some t =>
    rw [q] at q1
    cases q' : kitB t T with
    | none => rw [show (some t).bind (fun t => kitB t T) = kitB t T from rfl, q'] at q1; exact q1.elim
    | some b =>
      rw [show (some t).bind (fun t => kitB t T) = kitB t T from rfl, q'] at q1
      exact ⟨v, .ty T, .type t, .type T, b, rfl, .ty T, RD.tyx r1 q, kit_ty q', hq _ (.bl b) H1 t1 rfl q1⟩
end
end DL
namespace DL
open PySem PySem.Spec PyProof.Rows L2
/-! ### what is walked -/
abbrev DI := Dst → (List D → Prop) → (Addr → Prop) → Prop
/-- J gives these items, as long as G stands -/
def Walks (K : PySem.W.Frag) (B : Option Addr) (G : Hp) (J : It) (items : List D) : Prop := ∀ M H, Ex G (hid M H) → Ok K B M H →
  (∀ i d, items[i]? = some d → J.go i H ∧ ∀ y H', J.yld i H y H' → Ex H H' ∧ RD K B (hid M H') d y) ∧ J.stop items.length H
def SI (K : PySem.W.Frag) (E : XK) (wi : TI) (di : DI) : Prop := ∀ B M σ δ H k kx (R : It → Hp → Prop), Rep K B M H σ δ → di δ k kx →
  (∀ J items H2, Stp K B M H H2 → Walks K B (hid M H2) J items → k items → R J H2) → (∀ C H2, Stp K B M H H2 → kx C → E (.ref C) none H2) → wi σ H R
def PDI (X : Cx) (E : XK) (tg e : Expr) (di : DI) : Prop := ∃ wi, PI X tg e wi ∧ SI X.K E wi di
section
variable {X : Cx} {E : XK} {a b c e tg : Expr} {es : List Expr} {da db dc de : DE} {das : DA} {dt du : DT} {pos : Pos}
theorem walks_tup {K : PySem.W.Frag} {B : Option Addr} {G : Hp} {a : Addr} {xs : List V} {ds : List D} (h : SqT K G a xs) (r : RDs K B G ds xs) (inj : ∀ H ys, Ex G H → SqT K H a ys → ys = xs) : Walks K B G (Itt K a) ds := by
  intro M H ex ok
  have exH : Ex G H := fun c o q => hid_ex M H _ _ (ex c o q)
  have h' := Evl.ex_t exH h
  refine ⟨fun i d hd => ?_, xs, h', by rw [RDs.len r]; exact Nat.le_refl _⟩
  obtain ⟨x, h1, h2⟩ := RDs.gt r hd
  refine ⟨⟨xs, x, h', h1⟩, fun y H' hy => ?_⟩
  obtain ⟨rfl, hy⟩ := hy
  have e := hy xs h'
  rw [h1] at e
  cases e
  exact ⟨fun _ _ h => h, RD.ex ex _ _ h2⟩
def dItT (da : DE) : DI := fun δ k kx => da δ (fun d => match d with
  | .tup ds => k ds
  | _ => False) kx
def dItL (da : DE) : DI := fun δ k kx => da δ (fun d => match d with
  | .lst ds => k ds
  | _ => False) kx
theorem i_tup : PD X E a da → PDI X E tg a (dItT da)
  | ⟨_, h1, s1⟩ => ⟨_, pi_tup h1, fun B M σ δ H k kx R rp h hq hx => s1 B M σ δ H _ kx _ rp h (fun v d H1 t1 r1 q1 => by
      cases d with
      | tup ds =>
        obtain ⟨p, xs, rfl, e3, e4⟩ := r1
        refine ⟨p, rfl, ⟨xs, SqD.un e3⟩, hq _ ds H1 t1 (fun M' H' ex ok => ?_) q1⟩
        have exH : Ex (hid M H1) H' := fun c o q => hid_ex M' H' _ _ (ex c o q)
        have h' := Evl.ex_t exH e3.1
        refine ⟨fun i d hd => ?_, xs, h', by rw [RDs.len e4]; exact Nat.le_refl _⟩
        obtain ⟨x, h1, h2⟩ := RDs.gt e4 hd
        refine ⟨⟨xs, x, h', h1⟩, fun y H2 hy => ?_⟩
        obtain ⟨rfl, hy⟩ := hy
        have e := hy xs h'
        rw [h1] at e
        cases e
        exact ⟨fun _ _ h => h, RD.ex ex _ _ h2⟩
      | _ => exact q1.elim) hx⟩
theorem i_lst : PD X E a da → PDI X E tg a (dItL da)
  | ⟨_, h1, s1⟩ => ⟨_, pi_list h1, fun B M σ δ H k kx R rp h hq hx => s1 B M σ δ H _ kx _ rp h (fun v d H1 t1 r1 q1 => by
      cases d with
      | lst ds =>
        obtain ⟨p, xs, rfl, e3, e4⟩ := r1
        refine ⟨p, rfl, ⟨xs, SqL.of (hid_of e3).2⟩, hq _ ds H1 t1 (fun M' H' ex ok => ?_) q1⟩
        have h' : SqL X.K H' p xs := SqL.of (hid_of (ex _ _ e3)).2
        refine ⟨fun i d hd => ?_, xs, h', by rw [RDs.len e4]; exact Nat.le_refl _⟩
        obtain ⟨x, h1, h2⟩ := RDs.gt e4 hd
        refine ⟨⟨xs, x, h', h1⟩, fun y H2 hy => ?_⟩
        obtain ⟨rfl, hy⟩ := hy
        have e := hy xs h'
        rw [h1] at e
        cases e
        exact ⟨fun _ _ h => h, RD.ex ex _ _ h2⟩
      | _ => exact q1.elim) hx⟩
theorem walks_rng {K : PySem.W.Frag} {B : Option Addr} {G : Hp} {lo : Int} {n : Nat} : Walks K B G (Itr lo n) ((List.range n).map fun (i : Nat) => D.int (lo + (i : Int))) := by
  intro M H ex ok
  refine ⟨fun i d hd => ?_, by show n ≤ _; rw [List.length_map, List.length_range]; exact Nat.le_refl _⟩
  rw [List.getElem?_map] at hd
  cases q : (List.range n)[i]? with
  | none => rw [q] at hd; cases hd
  | some j =>
    rw [q] at hd
    have hlt : i < n := by
      have := (List.getElem?_eq_some_iff.mp q).1
      rwa [List.length_range] at this
    have hj : j = i := by
      rw [List.getElem?_range hlt] at q
      exact (Option.some.inj q).symm
    subst hj
    cases hd
    exact ⟨hlt, fun y H' hy => by obtain ⟨rfl, rfl⟩ := hy; exact ⟨fun _ _ h => h, rfl⟩⟩
def rngD (lo : Int) (n : Nat) : List D := (List.range n).map fun (i : Nat) => D.int (lo + (i : Int))
def dItR1 (da : DE) : DI := fun δ k kx => da δ (fun d => match d with
  | .int j => (-(2 ^ 62) ≤ j ∧ j < 2 ^ 62) ∧ k (rngD 0 j.toNat)
  | _ => False) kx
def dItR2 (da db : DE) : DI := fun δ k kx => da δ (fun d => db δ (fun e => match d, e with
  | .int i, .int j => (-(2 ^ 62) ≤ i ∧ i < 2 ^ 62 ∧ -(2 ^ 62) ≤ j ∧ j < 2 ^ 62) ∧ k (rngD i (j - i).toNat)
  | _, _ => False) kx) kx
theorem i_rng1 {p : Pos} (hm : X.mg "range" = none) (ha : PD X E a da) (hg : Gl X "range" := by rfl) (hs : starEach [a] X.env = [(false, eval a X.env)] := by rfl) (he : starEach [a] X.env = (false, eval a X.env) :: starEach [] X.env := by rfl) :
    PDI X E tg (.Call (.Name "range" p) [a] [] pos) (dItR1 da) := by
  obtain ⟨ta, p1, s1⟩ := ha
  refine ⟨_, pi_range1 hg hm (pa_cons p1 pa_nil he) hs, fun B M σ δ H k kx R rp h hq hx => s1 B M σ δ H _ kx _ rp h (fun v d H1 t1 r1 q1 => ?_) hx⟩
  cases d <;> try exact q1.elim
  rename_i j
  exact ⟨j, by rw [show v = .int j from r1], q1.1.1, q1.1.2, hq _ _ H1 t1 walks_rng q1.2⟩
theorem i_rng2 {p : Pos} (hm : X.mg "range" = none) (ha : PD X E a da) (hb : PD X E b db) (hg : Gl X "range" := by rfl) (hs : starEach [a, b] X.env = [(false, eval a X.env), (false, eval b X.env)] := by rfl) (hs2 : starEach [b] X.env = [(false, eval b X.env)] := by rfl)
    (he : starEach [a, b] X.env = (false, eval a X.env) :: starEach [b] X.env := by rfl) (he2 : starEach [b] X.env = (false, eval b X.env) :: starEach [] X.env := by rfl) :
    PDI X E tg (.Call (.Name "range" p) [a, b] [] pos) (dItR2 da db) := by
  obtain ⟨ta, p1, s1⟩ := ha
  obtain ⟨tb, p2, s2⟩ := hb
  refine ⟨_, pi_range2 hg hm (pa_cons p1 (pa_cons p2 pa_nil he2) he) hs hs2, fun B M σ δ H k kx R rp h hq hx => s1 B M σ δ H _ kx _ rp h (fun v d H1 t1 r1 q1 => ?_) hx⟩
  refine s2 B M σ δ H1 _ kx _ (rp.stp t1) q1 (fun w e H2 t2 r2 q2 => ?_) (fun C H2 t2 q2 => hx C H2 (t1.trans t2) q2)
  cases d <;> try exact q2.elim
  cases e <;> try exact q2.elim
  rename_i i j
  exact ⟨i, j, by rw [show v = .int i from r1, show w = .int j from r2], q2.1, hq _ _ H2 (t1.trans t2) walks_rng q2.2⟩
/-! ### targets -/
def gN (i : Nat) : DG := fun d δ k => k (δ.set i (some d))
theorem g_name {i : Nat} {x : Str} (hN : X.N.Nodup) (hi : X.N[i]? = some x) (hx : Loc X.env.scope x) (hf : X.fn x = true ∨ X.env.scope.names.lookup x = some .local := by first | exact .inl rfl | exact .inr rfl | assumption) : PDG X (.Name x pos) (gN i) :=
  ⟨_, pg_name hN hi hx hf, fun B M σ δ H v d k Q rp r h hq => hq _ _ (rp.set r) h⟩
abbrev DGs := List D → Dst → (Dst → Prop) → Prop
def SGs (K : PySem.W.Frag) (g : TGs) (dg : DGs) : Prop := ∀ B M σ δ H vs ds (k : Dst → Prop) (Q : L2.St → Hp → Prop), Rep K B M H σ δ → RDs K B (hid M H) ds vs → dg ds δ k →
  (∀ σ' δ', Rep K B M H σ' δ' → k δ' → Q σ' H) → g vs σ H Q
def PDGs (X : Cx) (es : List Expr) (dg : DGs) : Prop := ∃ g, PGs X es g ∧ SGs X.K g dg
def gNl : DGs := fun ds δ k => match ds with
  | [] => k δ
  | _ => False
def gCn (g : DG) (gs : DGs) : DGs := fun ds δ k => match ds with
  | d :: r => g d δ (fun δ' => gs r δ' k)
  | _ => False
theorem gs_nil : PDGs X [] gNl := ⟨_, pgs_nil, fun B M σ δ H vs ds k Q rp r h hq => by
  cases ds with
  | nil => rw [show vs = [] from r]; exact ⟨rfl, hq _ _ rp h⟩
  | cons d ds => exact h.elim⟩
theorem gs_cons {dg : DG} {dgs : DGs} (h1 : PDG X e dg) (h2 : PDGs X es dgs) (hs : (assignEach (e :: es) X.env).map (·.2) = assign e X.env :: (assignEach es X.env).map (·.2) := by rfl) : PDGs X (e :: es) (gCn dg dgs) := by
  obtain ⟨g, p1, s1⟩ := h1
  obtain ⟨gs, p2, s2⟩ := h2
  refine ⟨_, pgs_cons p1 p2 hs, fun B M σ δ H vs ds k Q rp r h hq => ?_⟩
  cases ds with
  | nil => exact h.elim
  | cons d ds =>
    obtain ⟨y, ys, rfl, e2, e3⟩ := r
    exact ⟨y, ys, rfl, s1 B M σ δ H y d _ _ rp e2 h (fun σ' δ' rp' h' => s2 B M σ' δ' H ys ds k Q rp' e3 h' hq)⟩
def gTp (n : Nat) (gs : DGs) : DG := fun d δ k => match d with
  | .tup ds => ds.length = n ∧ gs ds δ k
  | _ => False
theorem g_tup {dgs : DGs} {k n : Nat} (hc : X.calm = true) (h : PDGs X es dgs) (hn : (assignEach es X.env).length = n := by rfl) (hst : (assignEach es X.env).findIdx? (·.1) = none := by rfl) : PDG X (.Tuple es k pos) (gTp n dgs) := by
  obtain ⟨g, p, s⟩ := h
  refine ⟨_, pg_tup hc p hn hst, fun B M σ δ H v d k Q rp r h hq => ?_⟩
  cases d <;> try exact h.elim
  obtain ⟨a, xs, rfl, e2, e3⟩ := r
  exact ⟨a, xs, rfl, SqD.un e2, by rw [RDs.len e3]; exact h.1, s B M σ δ H xs _ k Q rp e3 h.2 hq⟩
/-! ### statements -/
variable {st : Stmt} {rest sb se : List Stmt} {s1 s2 s3 : DS}
def dNext : DS := fun D δ => D.nx δ
def dSeq (t u : DS) : DS := fun D δ => t { D with nx := u D } δ
theorem b_nil : PDB X E [] dNext := ⟨_, pss_nil, fun B M σ δ H D0 D1 rp h l => l.nx σ δ H .refl rp h⟩
theorem b_one : PDS X E st s1 → PDB X E [st] s1
  | ⟨_, p, s⟩ => ⟨_, pss_one p, s⟩
theorem b_cons : PDS X E st s1 → PDB X E rest s2 → PDB X E (st :: rest) (dSeq s1 s2)
  | ⟨_, p1, q1⟩, ⟨_, p2, q2⟩ => ⟨_, pss_cons p1 p2, fun B M σ δ H D0 D1 rp h l => q1 B M σ δ H _ _ rp h
      ⟨fun σ' δ' H2 t r h2 => q2 B M σ' δ' H2 D0 D1 r h2 (l.stp t), l.rt, l.ex, l.bk, l.ct⟩⟩
/-- what follows is shown once, from Mid -/
def dCut (t u : DS) : DS := fun D δ => ∃ Mid : Dst → Prop, t { D with nx := Mid } δ ∧ ∀ δ', Mid δ' → u D δ'
theorem b_cut : PDS X E st s1 → PDB X E rest s2 → PDB X E (st :: rest) (dCut s1 s2)
  | ⟨_, p1, q1⟩, ⟨_, p2, q2⟩ => ⟨_, pss_cons p1 p2, fun B M σ δ H D0 D1 rp h l => by
      obtain ⟨Mid, h1, h2⟩ := h
      exact q1 B M σ δ H { D0 with nx := Mid } _ rp h1 ⟨fun σ' δ' H2 t r h3 => q2 B M σ' δ' H2 D0 D1 r (h2 δ' h3) (l.stp t), l.rt, l.ex, l.bk, l.ct⟩⟩
def dAsg (de : DE) (g : DG) : DS := fun D δ => de δ (fun d => g d δ D.nx) D.ex
abbrev dSet (i : Nat) (de : DE) : DS := dAsg de (gN i)
theorem s_set {i : Nat} {x : Str} {pos' : Pos} (hN : X.N.Nodup) (hi : X.N[i]? = some x) (hx : Loc X.env.scope x) (he : PD X E e de) (hs : swapsWith e (some (.Name x pos')) pos.line X.env = pure false := by rfl) (hf : X.fn x = true ∨ X.env.scope.names.lookup x = some .local := by first | exact .inl rfl | exact .inr rfl | assumption) :
    PDS X E (.Assign [.Name x pos'] e pos) (dSet i de) := by
  obtain ⟨te, p, s⟩ := he
  refine ⟨_, ps_set hN hi hx p hs hf, fun B M σ δ H D0 D1 rp h l => s B M σ δ H _ _ _ rp h (fun v d H2 t r q => ?_) l.ex⟩
  exact l.nx _ _ H2 t ((rp.stp t).set r) q
theorem s_asg {g : DG} (he : PD X E e de) (hg : PDG X tg g) (hs : swapsWithSole [tg] e pos.line X.env = pure false := by rfl) (hw : swappedStores [tg] e X.env = pure none := by rfl)
    (h1 : (assignEach [tg] X.env).map (·.2) = [assign tg X.env] := by rfl) : PDS X E (.Assign [tg] e pos) (dAsg de g) := by
  obtain ⟨te, p, s⟩ := he
  obtain ⟨g, p2, q2⟩ := hg
  refine ⟨_, ps_asg p p2 hs hw h1, fun B M σ δ H D0 D1 rp h l => s B M σ δ H _ _ _ rp h (fun v d H2 t r q => ?_) l.ex⟩
  exact q2 B M σ δ H2 v d _ _ (rp.stp t) r q (fun σ' δ' rp' h' => l.nx _ _ H2 t rp' h')
/-- a, b = x, y -/
def dPar (i j : Nat) (da db : DE) : DS := fun D δ => da δ (fun x => db δ (fun y => D.nx ((δ.set i (some x)).set j (some y))) D.ex) D.ex
theorem s_par {i j : Nat} {x y : Str} {px py pt : Pos} {kt k2 pt2} (hc : X.calm = true) (hN : X.N.Nodup) (hi : X.N[i]? = some x) (hj : X.N[j]? = some y) (hij : i ≠ j)
    (hx : X.env.scope.names.lookup x = some .local) (hy : X.env.scope.names.lookup y = some .local) (ha : PD X E a da) (hb : PD X E b db)
    (hw : swappedStores [.Tuple [.Name x px, .Name y py] kt pt] (.Tuple [a, b] k2 pt2) X.env = pure (some [x, y]) := by rfl)
    (hs : swapsWithSole [.Tuple [.Name x px, .Name y py] kt pt] (.Tuple [a, b] k2 pt2) pos.line X.env = pure false := by rfl)
    (he : starEach [a, b] X.env = (false, eval a X.env) :: starEach [b] X.env := by rfl) (he2 : starEach [b] X.env = (false, eval b X.env) :: starEach [] X.env := by rfl) :
    PDS X E (.Assign [.Tuple [.Name x px, .Name y py] kt pt] (.Tuple [a, b] k2 pt2) pos) (dPar i j da db) := by
  obtain ⟨ta, p1, q1⟩ := ha
  obtain ⟨tb, p2, q2⟩ := hb
  refine ⟨_, ps_par hc hN hi hj hij hx hy (pa_cons p1 (pa_cons p2 pa_nil he2) he) hw hs, fun B M σ δ H D0 D1 rp h l => q1 B M σ δ H _ _ _ rp h (fun v d H1 t1 r1 h1 => ?_) l.ex⟩
  refine q2 B M σ δ H1 _ _ _ (rp.stp t1) h1 (fun w e H2 t2 r2 h2 => ?_) (fun C H2 t2 h2 => l.ex C H2 (t1.trans t2) h2)
  exact ⟨v, w, rfl, l.nx _ _ H2 (t1.trans t2) ((((rp.stp t1).stp t2).set (RD.ex t2.ex _ _ r1)).set r2) h2⟩
def dPar3 (i j m : Nat) (da db dc : DE) : DS := fun D δ => da δ (fun x => db δ (fun y => dc δ (fun z => D.nx (((δ.set i (some x)).set j (some y)).set m (some z))) D.ex) D.ex) D.ex
theorem s_par3 {i j m : Nat} {x y z : Str} {px py pz pt : Pos} {kt k2 pt2} (hc : X.calm = true) (hN : X.N.Nodup) (hi : X.N[i]? = some x) (hj : X.N[j]? = some y) (hl : X.N[m]? = some z) (hij : i ≠ j) (hil : i ≠ m) (hjl : j ≠ m)
    (hx : X.env.scope.names.lookup x = some .local) (hy : X.env.scope.names.lookup y = some .local) (hz : X.env.scope.names.lookup z = some .local) (ha : PD X E a da) (hb : PD X E b db) (hcc : PD X E c dc)
    (hw : swappedStores [.Tuple [.Name x px, .Name y py, .Name z pz] kt pt] (.Tuple [a, b, c] k2 pt2) X.env = pure (some [x, y, z]) := by rfl)
    (hs : swapsWithSole [.Tuple [.Name x px, .Name y py, .Name z pz] kt pt] (.Tuple [a, b, c] k2 pt2) pos.line X.env = pure false := by rfl)
    (he : starEach [a, b, c] X.env = (false, eval a X.env) :: starEach [b, c] X.env := by rfl) (he2 : starEach [b, c] X.env = (false, eval b X.env) :: starEach [c] X.env := by rfl) (he3 : starEach [c] X.env = (false, eval c X.env) :: starEach [] X.env := by rfl) :
    PDS X E (.Assign [.Tuple [.Name x px, .Name y py, .Name z pz] kt pt] (.Tuple [a, b, c] k2 pt2) pos) (dPar3 i j m da db dc) := by
  obtain ⟨ta, p1, q1⟩ := ha
  obtain ⟨tb, p2, q2⟩ := hb
  obtain ⟨tc, p3, q3⟩ := hcc
  refine ⟨_, ps_par3 hc hN hi hj hl hij hil hjl hx hy hz (pa_cons p1 (pa_cons p2 (pa_cons p3 pa_nil he3) he2) he) hw hs, fun B M σ δ H D0 D1 rp h l => q1 B M σ δ H _ _ _ rp h (fun v d H1 t1 r1 h1 => ?_) l.ex⟩
  refine q2 B M σ δ H1 _ _ _ (rp.stp t1) h1 (fun w e H2 t2 r2 h2 => ?_) (fun C H2 t2 h2 => l.ex C H2 (t1.trans t2) h2)
  refine q3 B M σ δ H2 _ _ _ ((rp.stp t1).stp t2) h2 (fun w3 e3 H3 t3 r3 h3 => ?_) (fun C H3 t3 h3 => l.ex C H3 ((t1.trans t2).trans t3) h3)
  exact ⟨v, w, w3, rfl, l.nx _ _ H3 ((t1.trans t2).trans t3) ((((((rp.stp t1).stp t2).stp t3).set (RD.ex t3.ex _ _ (RD.ex t2.ex _ _ r1))).set (RD.ex t3.ex _ _ r2)).set r3) h3⟩
def dDrop (de : DE) : DS := fun D δ => de δ (fun _ => D.nx δ) D.ex
theorem s_expr (he : PD X E e de) (hs : swapsWith e none pos.line X.env = pure false := by rfl) : PDS X E (.Expr e pos) (dDrop de) := by
  obtain ⟨te, p, s⟩ := he
  exact ⟨_, ps_expr p hs, fun B M σ δ H D0 D1 rp h l => s B M σ δ H _ _ _ rp h (fun v d H2 t r q => l.nx _ _ H2 t (rp.stp t) q) l.ex⟩
def dRet (de : DE) : DS := fun D δ => de δ D.rt D.ex
theorem s_ret : PD X E e de → PDS X E (.Return (some e) pos) (dRet de)
  | ⟨_, p, s⟩ => ⟨_, ps_ret p, fun B M σ δ H D0 D1 rp h l => s B M σ δ H _ _ _ rp h (fun v d H2 t r q => l.rt v d H2 t r q) l.ex⟩
def dIfS (t : DT) (u v : DS) : DS := fun D δ => t δ (fun b => if b = true then u D δ else v D δ) D.ex
theorem s_if : PDT X E c dt → PDB X E sb s1 → PDB X E se s2 → PDS X E (.If c sb se pos) (dIfS dt s1 s2)
  | ⟨_, p0, q0⟩, ⟨_, p1, q1⟩, ⟨_, p2, q2⟩ => ⟨_, ps_if p0 p1 p2, fun B M σ δ H D0 D1 rp h l => q0 B M σ δ H _ _ _ rp h (fun b H2 t q => by
      cases b with
      | true => exact iteT (q1 B M σ δ H2 D0 D1 (rp.stp t) (by simpa using q) (l.stp t))
      | false => exact iteF (q2 B M σ δ H2 D0 D1 (rp.stp t) (by simpa using q) (l.stp t))) l.ex⟩
/-! ### loops -/
def dFor (di : DI) (g : DG) (tb : DS) : DS := fun D δ => di δ (fun items => ∃ Pv : Nat → Dst → Prop, Pv 0 δ ∧
  (∀ i d δ', items[i]? = some d → Pv i δ' → g d δ' (fun δ2 => tb { D with nx := Pv (i + 1), ct := Pv (i + 1), bk := D.nx } δ2)) ∧ ∀ δ', Pv items.length δ' → D.nx δ') D.ex
theorem s_for {iter : Expr} {body : List Stmt} {di : DI} {g : DG} (hp : PassesOwn (model X.prog X.w) X.A X.env X.xe) (hc : X.calm = true) (hi : PDI X E tg iter di) (hg : PDG X tg g) (hb : PDB X E body s1)
    (hs : ∀ x, foldedSetIterable iter X.env x = pure x := by intro _; rfl) : PDS X E (.For tg iter body [] pos) (dFor di g s1) := by
  obtain ⟨wi, p1, q1⟩ := hi
  obtain ⟨tg', p2, q2⟩ := hg
  obtain ⟨tb, p3, q3⟩ := hb
  refine ⟨_, ps_for hp hc p1 p2 p3 hs, fun B M σ δ H D0 D1 rp h l => q1 B M σ δ H _ _ _ rp h (fun J items H1 t1 wk hk => ?_) l.ex⟩
  obtain ⟨Pv, h0, hst, hd⟩ := hk
  refine ⟨fun i m σ' H' => i + m = items.length ∧ Stp X.K B M H1 H' ∧ ∃ δ', Rep X.K B M H' σ' δ' ∧ Pv i δ', ⟨items.length, by omega, .refl, δ, rp.stp t1, h0⟩, fun i m σ' H' hW => ?_⟩
  obtain ⟨em, t2, δ', rp', hpv⟩ := hW
  obtain ⟨go, stop⟩ := wk M H' t2.ex rp'.ok
  by_cases c : i = items.length
  · subst c
    exact .inl ⟨stop, l.nx _ _ H' (t1.trans t2) rp' (hd _ hpv)⟩
  · have hi : i < items.length := by omega
    obtain ⟨hg, hy⟩ := go i _ (List.getElem?_eq_getElem hi)
    refine .inr ⟨hg, fun σ2 H2 => Stp X.K B M H1 H2 ∧ ∃ δ2, Rep X.K B M H2 σ2 δ2 ∧ Pv (i + 1) δ2, fun σ2 H2 hN => ⟨m - 1, by omega, by omega, hN⟩, fun x H2 hyl => ?_⟩
    obtain ⟨ex2, rx⟩ := hy x H2 hyl
    have t3 : Stp X.K B M H' H2 := .same ex2 rp'.ok
    refine q2 B M σ' δ' H2 x _ _ _ (rp'.stp t3) rx (hst i _ δ' (List.getElem?_eq_getElem hi) hpv) (fun σ3 δ3 rp3 h3 => ?_)
    refine q3 B M σ3 δ3 H2 _ _ rp3 h3 ⟨fun σ4 δ4 H4 t4 rp4 h4 => ⟨(t2.trans t3).trans t4, δ4, rp4, h4⟩, fun v d H4 t4 r4 h4 => l.rt v d H4 (((t1.trans t2).trans t3).trans t4) r4 h4,
      fun C H4 t4 h4 => l.ex C H4 (((t1.trans t2).trans t3).trans t4) h4, fun σ4 δ4 H4 t4 rp4 h4 => l.nx σ4 δ4 H4 (((t1.trans t2).trans t3).trans t4) rp4 h4, fun σ4 δ4 H4 t4 rp4 h4 => ⟨(t2.trans t3).trans t4, δ4, rp4, h4⟩⟩
def dWhile (t : DT) (tb : DS) : DS := fun D δ => ∃ Pv : Nat → Dst → Prop, (∃ m, Pv m δ) ∧ ∀ m δ', Pv m δ' → t δ' (fun b => if b = true then tb { D with nx := fun δ2 => ∃ m', m' < m ∧ Pv m' δ2, ct := fun δ2 => ∃ m', m' < m ∧ Pv m' δ2, bk := D.nx } δ' else D.nx δ') D.ex
theorem s_while {body : List Stmt} (hp : PassesOwn (model X.prog X.w) X.A X.env X.xe) (hc : PDT X E c dt) (hb : PDB X E body s1) : PDS X E (.While c body [] pos) (dWhile dt s1) := by
  obtain ⟨tc, p1, q1⟩ := hc
  obtain ⟨tb, p2, q2⟩ := hb
  refine ⟨_, ps_while hp p1 p2, fun B M σ δ H D0 D1 rp h l => ?_⟩
  obtain ⟨Pv, ⟨m0, h0⟩, hst⟩ := h
  refine ⟨fun m σ' H' => Stp X.K B M H H' ∧ ∃ δ', Rep X.K B M H' σ' δ' ∧ Pv m δ', ⟨m0, .refl, δ, rp, h0⟩, fun m σ' H' hW => ?_⟩
  obtain ⟨t1, δ', rp', hpv⟩ := hW
  refine q1 B M σ' δ' H' _ _ _ rp' (hst m δ' hpv) (fun b H2 t2 q => ?_) (fun C H2 t2 q => l.ex C H2 (t1.trans t2) q)
  cases b with
  | false => exact iteF (l.nx _ _ H2 (t1.trans t2) (rp'.stp t2) (by simpa using q))
  | true =>
    refine iteT ⟨fun σ2 H3 => Stp X.K B M H H3 ∧ ∃ δ2, Rep X.K B M H3 σ2 δ2 ∧ ∃ m', m' < m ∧ Pv m' δ2, fun σ2 H3 hN => ?_, ?_⟩
    · obtain ⟨t3, δ2, rp2, m', hm, hp'⟩ := hN
      exact ⟨m', hm, t3, δ2, rp2, hp'⟩
    · rw [if_pos rfl] at q
      refine q2 B M σ' δ' H2 _ _ (rp'.stp t2) q ⟨fun σ4 δ4 H4 t4 rp4 h4 => ⟨(t1.trans t2).trans t4, δ4, rp4, h4⟩, fun v d H4 t4 r4 h4 => l.rt v d H4 ((t1.trans t2).trans t4) r4 h4,
        fun C H4 t4 h4 => l.ex C H4 ((t1.trans t2).trans t4) h4, fun σ4 δ4 H4 t4 rp4 h4 => l.nx σ4 δ4 H4 ((t1.trans t2).trans t4) rp4 h4, fun σ4 δ4 H4 t4 rp4 h4 => ⟨(t1.trans t2).trans t4, δ4, rp4, h4⟩⟩
/-! ### calls of defs -/
abbrev DSp := List D → (D → Prop) → (Addr → Prop) → Prop
def spD (K : PySem.W.Frag) (dsp : DSp) : Sp := fun vs H Q E => ∃ B M ds k kx, Ok K B M H ∧ RDs K B (hid M H) ds vs ∧ dsp ds k kx ∧ (∀ v d H2, Stp K B M H H2 → RD K B (hid M H2) d v → k d → Q v H2) ∧ (∀ C H2, Stp K B M H H2 → kx C → E (.ref C) none H2)
abbrev CXL (X : Cx) : CXT := L2.CX X.prog X.w
def dCall (dsp : DSp) (da : DA) : DE := fun δ k kx => da δ (fun ds => dsp ds k kx) kx
theorem se_call {K : PySem.W.Frag} {dsp : DSp} {n : Nat} {ta : TA} (ha : SAn K E n ta das) : SE K E (tCall (spD K dsp) [] E ta) (dCall dsp das) :=
  fun B M σ δ H k kx Q rp h hq hx => ha B M σ δ H _ kx _ rp h (fun vs ds H1 _ t1 r1 q1 => ⟨B, M, ds, k, kx, t1.ok rp.ok, by rw [List.append_nil]; exact r1, q1, fun v d H2 t2 r2 q2 => hq v d H2 (t1.trans t2) r2 q2, fun C H2 t2 q2 => hx C H2 (t1.trans t2) q2⟩) hx
theorem d_call {k : Nat} {f : Addr} {fd : FuncData} {ps : List Str} {dsp : DSp} {x : Str} {p : Pos} (hx : Passes (CXL X) X E) (hr : Room k X.A) (F : FnOk X.prog X.w X.K X.mg X.base (CXL X) k f fd ps (spD X.K dsp)) (hm : X.mg x = some (.ref f)) (hk : PySem.W.keepIn X.K (.ref f) = true) (hb : Binds X.K fd ps [])
    (ha : PDL X E (e :: es) das) (hg : Gl X x := by rfl) (hdb : (x == ("__debug__" : Str)) = false := by decide) (he : starEach (e :: es) X.env = (false, eval e X.env) :: starEach es X.env := by rfl) (hpl : (backTo pos (starEach es X.env)).any (·.1) = false := by rfl) :
    PD X E (.Call (.Name x p) (e :: es) [] pos) (dCall dsp das) := by
  obtain ⟨ta, p1, s1⟩ := ha
  exact ⟨_, pe_call F hr hg hm hk hb .nil hx p1 hdb he hpl, se_call s1⟩
/-! ### a def keeps its promise -/
def dstart (N : List Str) (ds : List D) : Dst := ds.map some ++ List.replicate (N.length - ds.length) none
theorem rep_start {K : PySem.W.Frag} {B : Option Addr} {M : List Addr} {H : Hp} {N : List Str} {ds : List D} {vs : List V} (ok : Ok K B M H) (r : RDs K B (hid M H) ds vs) : Rep K B M H (L2.start N vs) (dstart N ds) := by
  have hl := RDs.len r
  refine ⟨ok, ?_, fun i d h => ?_⟩
  · unfold L2.start dstart
    rw [List.length_append, List.length_append, List.length_map, List.length_map, List.length_replicate, List.length_replicate, hl]
  · unfold dstart at h
    unfold L2.start
    by_cases c : i < ds.length
    · rw [List.getElem?_append_left (by rw [List.length_map]; exact c), List.getElem?_map] at h
      cases q : ds[i]? with
      | none => rw [q] at h; cases h
      | some e =>
        rw [q] at h
        cases h
        obtain ⟨v, h1, h2⟩ := RDs.gt r q
        refine ⟨v, ?_, h2⟩
        rw [List.getElem?_append_left (by rw [List.length_map, hl]; exact c), List.getElem?_map, h1]
        rfl
    · rw [List.getElem?_append_right (by rw [List.length_map]; omega)] at h
      rw [List.getElem?_replicate] at h
      split at h <;> cases h
end
section
variable {P : Program} {w : World} {K : PySem.W.Frag} {mg : Str → Option Value} {base : Heap}
theorem fn_D {x qual : Str} {st : Stmt} {f : Addr} {fd : FuncData} {N ps : List Str} {k : Nat} {dsp : DSp} (F : Fun K x qual st f fd) (S : FnScope N ps (defScope st)) (hlen : ∀ ds k kx, dsp ds k kx → ds.length = ps.length)
    (hbody : ∀ (cdv : Value) (A : Around) (outer : List Env) (s : Shared) (H : Hp) (E : XK), Room k (A.deeper (envOfC qual (defScope st) s.heap.objs.size f cdv)) →
      ∃ t, PDB (cxOf (L2.CX P w) P w K mg base N qual (defScope st) f cdv A outer s H E) E (defBody st) t ∧ ∀ ds k kx, dsp ds k kx → t { nx := fun _ => k .non, rt := k, ex := kx } (dstart N ds)) : FnOk P w K mg base (L2.CX P w) (k + 1) f fd ps (spD K dsp) := by
  refine F.okX S (fun vs H Q E h => ?_) (fun cdv A outer s H vs Q E hr h => ?_)
  · obtain ⟨B, M, ds, k, kx, _, r, hd, _⟩ := h
    rw [RDs.len r]; exact hlen _ _ _ hd
  · obtain ⟨t, ⟨ts, p, q⟩, ht⟩ := hbody cdv A outer s H E hr
    obtain ⟨B, M, ds, k, kx, ok, r, hd, hq, hx⟩ := h
    refine ⟨ts, p, q B M _ _ H _ _ (rep_start ok r) (ht ds k kx hd) ⟨fun σ δ H2 t _ h2 => hq .non .non H2 t rfl h2, hq, hx, fun _ _ _ _ _ h => h.elim, fun _ _ _ _ _ h => h.elim⟩⟩
end
section
variable {X : Cx} {E : XK}
/-- a def's own exceptions pass -/
theorem passO (hs : X.stack = X.env :: X.outer := by rfl) (hf : X.env.frame = some X.env.locals := by rfl) (hex : X.ex = [] := by rfl) {E₁ : Value → Shared → Prop}
    (hx : X.xe = fun e s' => wpAny (model X.prog X.w) X.A (leaving X.env e) (fun _ s'' => L2.CX X.prog X.w X.outer X.H_0 X.s_0 E e s'') E₁ s' := by rfl) : Passes (CXL X) X E :=
  passes_call (takes_of hs hf hex hx) (fun _ _ _ _ h => h)
/-! ### raise C() -/
theorem pmk_own0 {C : Addr} {bmB : List Value} {B newId initId : String} {x : Str} {p pos : Pos} (F : ExcBaseFacts B newId initId bmB) (q : PySem.W.excIn X.K C bmB newId = true) (gC : X.mg x = some (.ref C))
    (kC : PySem.W.keepIn X.K (.ref C) = true) (r : Raises X (.ref C)) (hg : Gl X x) (hdb : (x == ("__debug__" : Str)) = false := by decide) :
    PMk X (.Call (.Name x p) [] [] pos) (fun _ H Q => Q (.ref C) none H) := by
  intro pins s σ H Q I h
  refine wpAny_Call_Name_kw (ld_glob I hg gC ?_ hdb)
  refine PySem.W.callWith_K0 I.kIn kC ?_
  obtain ⟨bm, N, nm, qn, bs, hdct, sn, sub, ab, col, dd, k0, k1, k2, k3, k5, mN, hC, hN, hni, T⟩ := exc_obj I.kIn q
  exact wpAny_call_exc_subT F T hC hN hni (fun h' e hm => mk_of I hm r h (I.hok.gone hm.new)) (Nat.zero_le _)
/-- what the text says of an own refusal -/
structure Ref (K : PySem.W.Frag) (mg : Str → Option Value) (x : Str) (C : Addr) : Prop where
  exc : PySem.W.excIn K C [.type "ValueError", .type "Exception", .type "BaseException", .type "object"] "ValueError.__new__" = true
  g : mg x = some (.ref C)
  kp : PySem.W.keepIn K (.ref C) = true
  sub : PySem.W.subIn K (.ref C) (.type "BaseException") = some true
  ty : PySem.W.typeIn K (.ref C) = some (.type "type")
def dRaise (C : Addr) : DS := fun D _ => D.ex C
theorem s_raise {x : Str} {C : Addr} {p pos pos2 : Pos} (T : Ref X.K X.mg x C) (hc : X.calm = true := by rfl) (hg : Gl X x := by rfl) (hdb : (x == ("__debug__" : Str)) = false := by decide)
    (hs : X.stack = X.env :: X.outer := by rfl) (hf : X.env.frame = some X.env.locals := by rfl) (hex : X.ex = [] := by rfl) {E₁ : Value → Shared → Prop}
    (hx : X.xe = fun e s' => wpAny (model X.prog X.w) X.A (leaving X.env e) (fun _ s'' => L2.CX X.prog X.w X.outer X.H_0 X.s_0 E e s'') E₁ s' := by rfl) :
    PDS X E (.Raise (some (.Call (.Name x p) [] [] pos)) none pos2) (dRaise C) :=
  ⟨_, ps_raise hc (takes_of hs hf hex hx) (pmk_own0 PySem.F.excBase_ValueError T.exc T.g T.kp (raises_own T.sub T.ty) hg hdb), fun B M σ δ H D0 D1 rp h l => l.ex C H .refl h⟩
end
end DL
namespace DL
open PySem PySem.Spec PyProof.Rows L2
/-! ### comprehensions -/
def wipeD (δ : Dst) : List Nat → Dst
  | [] => δ
  | v :: vs => (wipeD δ vs).set v none
section
variable {K : PySem.W.Frag} {B : Option Addr} {M : List Addr} {H H1 H2 : Hp} {σ : L2.St} {δ : Dst}
theorem Rep.unset (r : Rep K B M H σ δ) (i : Nat) : Rep K B M H (σ.set i none) (δ.set i none) := by
  refine ⟨r.ok, by rw [List.length_set, List.length_set]; exact r.len, fun j e hj => ?_⟩
  by_cases c : i = j
  · subst c
    rw [List.getElem?_set_self'] at hj
    cases q : δ[i]? with
    | none => rw [q] at hj; cases hj
    | some w => rw [q] at hj; cases hj
  · rw [List.getElem?_set_ne c] at hj
    obtain ⟨w, h1, h2⟩ := r.at_ j e hj
    exact ⟨w, by rw [List.getElem?_set_ne c]; exact h1, h2⟩
theorem Rep.wipe (r : Rep K B M H σ δ) : ∀ vs, Rep K B M H (L2.wipe σ vs) (wipeD δ vs)
  | [] => r
  | v :: vs => (Rep.wipe r vs).unset v
end
/-- a target of a comprehension: it stores in the slots vs alone -/
def SGk (K : PySem.W.Frag) (g : TG) (dg : DG) (vs : List Nat) : Prop := ∀ B M σ δ H v d (k : Dst → Prop) (Q : L2.St → Hp → Prop), Rep K B M H (L2.wipe σ vs) δ → RD K B (hid M H) d v → dg d δ k →
  (∀ σ' δ', Rep K B M H σ' δ' → L2.wipe σ' vs = L2.wipe σ vs → k δ' → Q σ' H) → g v (L2.wipe σ vs) H Q
theorem sgk_name {K : PySem.W.Frag} (j : Nat) : SGk K (gName j) (gN j) [j] := fun B M σ δ H v d k Q rp r h hq => hq _ _ (rp.set r) (by
  show ((σ.set j none).set j (some v)).set j none = σ.set j none
  rw [List.set_set, List.set_set]) h
theorem wipe_two {σ : L2.St} {i j : Nat} {v w : V} (hij : i ≠ j) : L2.wipe (((L2.wipe σ [i, j]).set i (some v)).set j (some w)) [i, j] = L2.wipe σ [i, j] := by
  show (((((σ.set j none).set i none).set i (some v)).set j (some w)).set j none).set i none = (σ.set j none).set i none
  rw [List.set_set, List.set_set, List.set_comm _ _ hij, List.set_set, List.set_set]
theorem RDs.two {K : PySem.W.Frag} {B : Option Addr} {G : Hp} {x y : D} {xs : List V} (h : RDs K B G [x, y] xs) : ∃ v w, xs = [v, w] ∧ RD K B G x v ∧ RD K B G y w := by
  obtain ⟨v, vs, rfl, rx, w, ws, rfl, ry, en⟩ := h
  rw [show ws = [] from en]
  exact ⟨v, w, rfl, rx, ry⟩
theorem sgk_two {K : PySem.W.Frag} {i j : Nat} (hij : i ≠ j) : SGk K (gTup K 2 (gCons (gName i) (gCons (gName j) gNil))) (gTp 2 (gCn (gN i) (gCn (gN j) gNl))) [i, j] := by
  intro B M σ δ H v d k Q rp r h hq
  cases d <;> try exact h.elim
  rename_i ds
  obtain ⟨a, xs, rfl, e2, e3⟩ := r
  obtain ⟨hl, h⟩ := h
  cases ds with
  | nil => cases hl
  | cons x ds =>
    cases ds with
    | nil => cases hl
    | cons y ds =>
      cases ds with
      | cons z ds => simp at hl
      | nil =>
        obtain ⟨v, w, rfl, rx, ry⟩ := RDs.two e3
        exact ⟨a, [v, w], rfl, SqD.un e2, rfl, v, [w], rfl, w, [], rfl, rfl, hq _ _ ((rp.set rx).set ry) (wipe_two hij) h⟩
def dLc (di : DI) (dg : DG) (dt : DT) (de : DE) (vs : List Nat) : DE := fun δ k kx => di δ (fun items => items.length ≤ 100000 ∧ ∃ Iv : Nat → List D → Prop, Iv 0 [] ∧
  (∀ i acc d, items[i]? = some d → Iv i acc → dg d (wipeD δ vs) (fun δ2 => dt δ2 (fun b => if b = true then de δ2 (fun y => Iv (i + 1) (acc ++ [y])) (fun _ => False) else Iv (i + 1) acc) (fun _ => False))) ∧
  ∀ acc, Iv items.length acc → k (.lst acc)) kx
section
variable {K : PySem.W.Frag} {B : Option Addr} {M : List Addr} {H H1 H2 : Hp} {L : Addr}
theorem hid_upd_in {xs : List V} : hid (L :: M) (upd H L (.lst xs)) = hid (L :: M) H := by
  funext a
  unfold hid
  by_cases c : a ∈ L :: M
  · rw [if_pos c, if_pos c]
  · rw [if_neg c, if_neg c]
    exact upd_ne (fun e => c (e ▸ List.mem_cons_self))
theorem Bag.upd_in {xs : List V} {b dr : Addr} {n : Int} {ns : List Int} (w : Bag K (L :: M) b H dr n ns) (nb : b ≠ L) : Bag K (L :: M) b (upd H L (.lst xs)) dr n ns :=
  ⟨w.mem, (upd_ne nb).trans w.at_, by rw [hid_upd_in]; exact w.dr_, w.len, w.rng⟩
theorem Ok.upd_in {xs : List V} (ok : Ok K B (L :: M) H) (nb : B ≠ some L) : Ok K B (L :: M) (upd H L (.lst xs)) := by
  refine ⟨fun a m => ?_, fun b e => ?_⟩
  · by_cases c : a = L
    · exact ⟨_, by rw [c]; exact upd_same⟩
    · obtain ⟨o, h⟩ := ok.all a m
      exact ⟨o, (upd_ne c).trans h⟩
  · obtain ⟨dr, n, ns, w⟩ := ok.bag b e
    exact ⟨dr, n, ns, w.upd_in (fun c => nb (by rw [← c]; exact e))⟩
theorem ex_start {xs : List V} (hL : H L = none) : Ex (hid M H) (hid (L :: M) (upd H L (.lst xs))) := fun a o e => by
  have h3 := hid_of e
  have ndL : a ≠ L := ne_of_none h3.2 hL
  exact hid_at (fun m => by
      rcases List.mem_cons.mp m with c | c
      · exact ndL c
      · exact h3.1 c) ((upd_ne ndL).trans h3.2)
theorem Bag.start {xs : List V} {b dr : Addr} {n : Int} {ns : List Int} (w : Bag K M b H dr n ns) (hL : H L = none) : Bag K (L :: M) b (upd H L (.lst xs)) dr n ns :=
  ⟨List.mem_cons_of_mem _ w.mem, (upd_ne (ne_of_none w.at_ hL)).trans w.at_, ex_start hL _ _ w.dr_, w.len, w.rng⟩
theorem Ok.start {xs : List V} (ok : Ok K B M H) (hL : H L = none) : Ok K B (L :: M) (upd H L (.lst xs)) ∧ B ≠ some L := by
  have nL := ok.fresh hL
  have nb : B ≠ some L := fun e => by
    obtain ⟨dr, n, ns, w⟩ := ok.bag L e
    exact nL w.mem
  refine ⟨⟨fun a m => ?_, fun b e => ?_⟩, nb⟩
  · rcases List.mem_cons.mp m with c | c
    · exact ⟨_, by rw [c]; exact upd_same⟩
    · obtain ⟨o, h⟩ := ok.all a c
      exact ⟨o, (upd_ne (fun (q : a = L) => nL (by rw [← q]; exact c))).trans h⟩
  · obtain ⟨dr, n, ns, w⟩ := ok.bag b e
    exact ⟨dr, n, ns, w.start hL⟩
theorem Bag.unpriv {b dr : Addr} {n : Int} {ns : List Int} (w : Bag K (L :: M) b H dr n ns) (hb : b ∈ M) : Bag K M b H dr n ns :=
  ⟨hb, w.at_, hid_sub H (fun a m => List.mem_cons_of_mem _ m) _ _ w.dr_, w.len, w.rng⟩
end
theorem se_lc {K : PySem.W.Frag} {E : XK} {wi : TI} {g : TG} {tt : TT} {te : TE} {di : DI} {dg : DG} {dt : DT} {de : DE} {vs : List Nat} (hi : SI K E wi di) (sg : SGk K g dg vs) (st : ST K E0 tt dt) (se : SE K E0 te de) : SE K E (tLc wi g tt te vs) (dLc di dg dt de vs) := by
  intro B M σ δ H k kx Q rp h hq hx
  refine hi B M σ δ H _ kx _ rp h (fun J items H1 t1 wk hk => ?_) hx
  obtain ⟨hn, Iv, i0, hst, hd⟩ := hk
  intro L hL
  have ok1 := t1.ok rp.ok
  obtain ⟨okS, nb⟩ := Ok.start (xs := []) ok1 hL
  have nL := ok1.fresh hL
  refine ⟨fun i m H' => i + m = items.length ∧ Ok K B (L :: M) H' ∧ Ex (hid M H1) (hid (L :: M) H') ∧ (∀ a ∈ M, B ≠ some a → H' a = H1 a) ∧ (∀ b dr n ns, B = some b → Bag K M b H1 dr n ns → ∃ n', Bag K (L :: M) b H' dr n' ns) ∧ ∃ acc xs, H' L = some (.lst xs) ∧ RDs K B (hid (L :: M) H') acc xs ∧ acc.length ≤ i ∧ Iv i acc,
    ⟨items.length, by omega, okS, ex_start hL, fun a m _ => upd_ne (fun q => nL (q ▸ m)), fun b dr n ns _ w => ⟨n, w.start hL⟩, [], [], upd_same, rfl, Nat.le_refl _, i0⟩, fun i m H' hW => ?_⟩
  obtain ⟨em, ok', ex', pr', bg', acc, xs, hL', ra, la, hI⟩ := hW
  obtain ⟨go, stop⟩ := wk (L :: M) H' ex' ok'
  by_cases c : i = items.length
  · subst c
    refine .inl ⟨stop, ?_⟩
    have ex2 : Ex (hid M H1) (hid M H') := fun a o e => hid_sub H' (fun b mb => List.mem_cons_of_mem _ mb) _ _ (ex' a o e)
    have tf : Stp K B M H1 H' := ⟨ex2, pr', fun b dr n ns e w => by
      obtain ⟨n', w'⟩ := bg' b dr n ns e w
      exact ⟨n', w'.unpriv w.mem⟩⟩
    exact hq _ (.lst acc) H' (t1.trans tf) ⟨L, xs, rfl, hid_at nL hL', RDs.ex (hid_sub H' (fun b mb => List.mem_cons_of_mem _ mb)) _ _ ra⟩ (hd acc hI)
  · have hi : i < items.length := by omega
    obtain ⟨hg, hy⟩ := go i _ (List.getElem?_eq_getElem hi)
    refine .inr ⟨hg, fun H2 => Ok K B (L :: M) H2 ∧ Ex (hid M H1) (hid (L :: M) H2) ∧ (∀ a ∈ M, B ≠ some a → H2 a = H1 a) ∧ (∀ b dr n ns, B = some b → Bag K M b H1 dr n ns → ∃ n', Bag K (L :: M) b H2 dr n' ns) ∧ ∃ acc xs, H2 L = some (.lst xs) ∧ RDs K B (hid (L :: M) H2) acc xs ∧ acc.length ≤ i + 1 ∧ Iv (i + 1) acc, fun H2 hN => ⟨m - 1, by omega, by omega, hN⟩, fun x H2 hyl => ?_⟩
    obtain ⟨ex2, rx⟩ := hy x H2 hyl
    have t2 : Stp K B (L :: M) H' H2 := .same ex2 ok'
    have ok2 := t2.ok ok'
    have rpw := rp.wipe vs
    have exw : Ex (hid M H) (hid (L :: M) H2) := fun a o e => t2.ex _ _ (ex' _ _ (t1.ex a o e))
    have rp2 : Rep K B (L :: M) H2 (L2.wipe σ vs) (wipeD δ vs) := ⟨ok2, rpw.len, fun j d hj => by
      obtain ⟨v, h1, h2⟩ := rpw.at_ j d hj
      exact ⟨v, h1, RD.ex exw _ _ h2⟩⟩
    refine sg B (L :: M) σ (wipeD δ vs) H2 x _ _ _ rp2 rx (hst i acc _ (List.getElem?_eq_getElem hi) hI) (fun σ3 δ3 rp3 hw h3 => ⟨hw, ?_⟩)
    refine st B (L :: M) σ3 δ3 H2 _ _ _ rp3 h3 (fun b H3 t3 q3 => ?_) (fun C H3 t3 q3 => q3.elim)
    have t23 := t2.trans t3
    cases b with
    | false =>
      refine iteF ⟨t23.ok ok', fun a o e => t23.ex _ _ (ex' a o e), fun a m n => (t23.pr a (List.mem_cons_of_mem _ m) n).trans (pr' a m n), fun b dr n ns e w => by
        obtain ⟨n', w'⟩ := bg' b dr n ns e w
        exact t23.bg b dr n' ns e w', acc, xs, (t23.pr L List.mem_cons_self nb).trans hL', RDs.ex t23.ex _ _ ra, by omega, by simpa using q3⟩
    | true =>
      refine iteT (se B (L :: M) σ3 δ3 H3 (fun y => Iv (i + 1) (acc ++ [y])) (fun _ => False) _ (rp3.stp t3) (by simpa using q3) (fun y d H4 t4 r4 q4 => ?_) (fun C H4 t4 q4 => q4.elim))
      have t24 := t23.trans t4
      have hl4 : H4 L = some (.lst xs) := (t24.pr L List.mem_cons_self nb).trans hL'
      refine ⟨xs, hl4, Nat.lt_of_le_of_lt (m := items.length) ?_ (Nat.lt_of_le_of_lt hn (by rw [sizeLine_eq]; decide)), Ok.upd_in (t24.ok ok') nb, ?_, fun a m n => ?_, fun b dr n ns e w => ?_, acc ++ [d], xs ++ [y], upd_same, ?_, by rw [List.length_append]; exact Nat.add_le_add la (Nat.le_refl _), q4⟩
      · rw [RDs.len ra]; omega
      · rw [hid_upd_in]
        exact fun a o e => t24.ex _ _ (ex' a o e)
      · rw [upd_ne (fun (q : a = L) => nL (by rw [← q]; exact m))]
        exact (t24.pr a (List.mem_cons_of_mem _ m) n).trans (pr' a m n)
      · obtain ⟨n', w'⟩ := bg' b dr n ns e w
        obtain ⟨n2, w2⟩ := t24.bg b dr n' ns e w'
        exact ⟨n2, w2.upd_in (fun c => nb (by rw [← c]; exact e))⟩
      · rw [hid_upd_in]
        exact RDs.app (RDs.ex t24.ex _ _ ra) ⟨y, [], rfl, r4, rfl⟩
def dYes : DT := fun _ k _ => k true
theorem st_yes {K : PySem.W.Frag} {E : XK} : ST K E tYes dYes := fun B M σ δ H k kx Q rp h hq hx => hq true H .refl h
section
variable {X : Cx} {E : XK}
theorem d_lc {elt tg iter : Expr} {ifs : List Expr} {scope : Scope} {own : List (Str × Nat)} {pos : Pos} {g : TG} {tt : TT} {te : TE} {di : DI} {dg : DG} {dt : DT} {de : DE} (hc : X.calm = true) (hN : X.N.Nodup) (hi : PDI X E tg iter di) (ok : BlkOk X.N X.env.scope scope own)
    (hg : ∀ (s : Shared) (H : Hp) (C : Addr) (cl : List (Str × Addr)) (fp : List Addr), PG (X.blk s H scope (compEnvC scope cl C X.env) fp) tg g) (ht : ∀ (s : Shared) (H : Hp) (C : Addr) (cl : List (Str × Addr)) (fp : List Addr), PTs (X.blk s H scope (compEnvC scope cl C X.env) fp) ifs tt)
    (he : ∀ (s : Shared) (H : Hp) (C : Addr) (cl : List (Str × Addr)) (fp : List Addr), PE (X.blk s H scope (compEnvC scope cl C X.env) fp) elt te) (sg : SGk X.K g dg (own.map (·.2))) (st : ST X.K E0 tt dt) (se : SE X.K E0 te de) (hs : ∀ x, foldedSetIterable iter X.env x = pure x := by intro _; rfl) :
    PD X E (.ListComp elt [⟨tg, iter, ifs, 0⟩] scope pos) (dLc di dg dt de (own.map (·.2))) := by
  obtain ⟨wi, p1, q1⟩ := hi
  exact ⟨_, pe_lc hc hN p1 ok hg ht he hs, se_lc q1 sg st se⟩
theorem s_setLc {i : Nat} {y : Str} {py spos : Pos} {elt tg iter : Expr} {ifs : List Expr} {scope : Scope} {own : List (Str × Nat)} {pos : Pos} {g : TG} {tt : TT} {te : TE} {di : DI} {dg : DG} {dt : DT} {de : DE} (hc : X.calm = true) (hN : X.N.Nodup) (hy : X.N[i]? = some y) (hyl : X.env.scope.names.lookup y = some .local)
    (hsw : swapsWith (.ListComp elt [⟨tg, iter, ifs, 0⟩] scope pos) (some (.Name y py)) spos.line X.env = pure true) (hi : PDI X E tg iter di) (ok : BlkOk X.N X.env.scope scope own)
    (hg : ∀ (s : Shared) (H : Hp) (C : Addr) (cl : List (Str × Addr)) (fp : List Addr), PG (X.blk s H scope (compEnvC scope cl C X.env) fp) tg g) (ht : ∀ (s : Shared) (H : Hp) (C : Addr) (cl : List (Str × Addr)) (fp : List Addr), PTs (X.blk s H scope (compEnvC scope cl C X.env) fp) ifs tt)
    (he : ∀ (s : Shared) (H : Hp) (C : Addr) (cl : List (Str × Addr)) (fp : List Addr), PE (X.blk s H scope (compEnvC scope cl C X.env) fp) elt te) (sg : SGk X.K g dg (own.map (·.2))) (st : ST X.K E0 tt dt) (se : SE X.K E0 te de) (hs : ∀ x, foldedSetIterable iter X.env x = pure x := by intro _; rfl) :
    PDS X E (.Assign [.Name y py] (.ListComp elt [⟨tg, iter, ifs, 0⟩] scope pos) spos) (dSet i (dLc di dg dt de (own.map (·.2)))) := by
  obtain ⟨wi, p1, q1⟩ := hi
  refine ⟨_, ps_setLc hc hN hy hyl hsw p1 ok hg ht he hs, fun B M σ δ H D0 D1 rp h l => (se_lc q1 sg st se) B M σ δ H _ _ _ rp h (fun v d H2 t r q => ?_) l.ex⟩
  exact l.nx _ _ H2 t ((rp.stp t).set r) q
end
end DL
namespace DL
open PySem PySem.Spec PyProof.Rows L2
/-- the def x of the text, as it stands behind the top -/
def DefT (K : PySem.W.Frag) (mg : Str → Option Value) (x : Str) (st : Stmt) : Prop := ∃ f fd, Fun K x x st f fd ∧ mg x = some (.ref f)
/-- the def x keeps its promise -/
def Def (P : Program) (w : World) (K : PySem.W.Frag) (mg : Str → Option Value) (base : Heap) (k : Nat) (x : Str) (ps : List Str) (dsp : DSp) : Prop :=
  ∃ f fd, FnOk P w K mg base (L2.CX P w) k f fd ps (spD K dsp) ∧ mg x = some (.ref f) ∧ PySem.W.keepIn K (.ref f) = true ∧ Binds K fd ps []
/-- the built-in names -/
structure Bl (mg : Str → Option Value) : Prop where
  abs : mg "abs" = none
  all : mg "all" = none
  bool : mg "bool" = none
  enumerate : mg "enumerate" = none
  int : mg "int" = none
  isinstance : mg "isinstance" = none
  len : mg "len" = none
  list : mg "list" = none
  max : mg "max" = none
  min : mg "min" = none
  range : mg "range" = none
  repr : mg "repr" = none
  str : mg "str" = none
  tuple : mg "tuple" = none
  zip : mg "zip" = none
  verr : mg "ValueError" = none
section
variable {P : Program} {w : World} {K : PySem.W.Frag} {mg : Str → Option Value} {base : Heap}
theorem def_mk {x : Str} {st : Stmt} {N ps : List Str} {k : Nat} {dsp : DSp} (T : DefT K mg x st) (S : FnScope N ps (defScope st))
    (hb : ∀ (kV doc pm : Value) (an : Option Addr) (cdv ct : Value) (us : List Value), us.length = ps.length → bindArgs (PySem.W.fnOf x x (defArgs st) (defBody st) (defScope st) .none kV doc pm an cdv ct) ⟨us, []⟩ = pure (ps.zip us))
    (hlen : ∀ ds k kx, dsp ds k kx → ds.length = ps.length)
    (hbody : ∀ (f : Addr) (cdv : Value) (A : Around) (outer : List Env) (s : Shared) (H : Hp) (E : XK), Room k (A.deeper (envOfC x (defScope st) s.heap.objs.size f cdv)) →
      ∃ t, PDB (cxOf (L2.CX P w) P w K mg base N x (defScope st) f cdv A outer s H E) E (defBody st) t ∧ ∀ ds k kx, dsp ds k kx → t { nx := fun _ => k .non, rt := k, ex := kx } (dstart N ds)) :
    Def P w K mg base (k + 1) x ps dsp := by
  obtain ⟨f, fd, F, hm⟩ := T
  exact ⟨f, fd, fn_D F S hlen (hbody f), hm, F.kp, F.binds hb⟩
theorem Def.mono {x : Str} {ps : List Str} {j k : Nat} {dsp : DSp} (d : Def P w K mg base j x ps dsp) (h : j ≤ k) : Def P w K mg base k x ps dsp := by
  obtain ⟨f, fd, F, a, b, c⟩ := d
  exact ⟨f, fd, F.mono h, a, b, c⟩
theorem Def.imp {x : Str} {ps : List Str} {k : Nat} {dsp dsp' : DSp} (d : Def P w K mg base k x ps dsp) (h : ∀ ds k kx, dsp' ds k kx → dsp ds k kx) : Def P w K mg base k x ps dsp' := by
  obtain ⟨f, fd, F, a, b, c⟩ := d
  refine ⟨f, fd, F.imp (fun vs H Q E hs => ?_), a, b, c⟩
  obtain ⟨B, M, ds, k, kx, h1, h2, h3, h4, h5⟩ := hs
  exact ⟨B, M, ds, k, kx, h1, h2, h _ _ _ h3, h4, h5⟩
end
section
variable {X : Cx} {E : XK} {e : Expr} {es : List Expr} {das : DA} {pos : Pos}
/-- f(e, ..) -/
theorem d_fn {k j : Nat} {ps : List Str} {dsp : DSp} {x : Str} {p : Pos} (hx : Passes (CXL X) X E) (hr : Room j X.A) (D : Def X.prog X.w X.K X.mg X.base k x ps dsp) (ha : PDL X E (e :: es) das) (hkj : k ≤ j := by decide)
    (hg : Gl X x := by rfl) (hdb : (x == ("__debug__" : Str)) = false := by decide) (he : starEach (e :: es) X.env = (false, eval e X.env) :: starEach es X.env := by rfl) (hpl : (backTo pos (starEach es X.env)).any (·.1) = false := by rfl) :
    PD X E (.Call (.Name x p) (e :: es) [] pos) (dCall dsp das) := by
  obtain ⟨f, fd, F, hm, hk, hb⟩ := D
  exact d_call hx (hr.mono hkj) F hm hk hb ha hg hdb he hpl
/-- .. in a comprehension: the raw form, one for all its blocks -/
theorem pe_fn {ι : Type} {XF : ι → Cx} {P : Program} {w : World} {K : PySem.W.Frag} {mg : Str → Option Value} {base : Heap} {k j : Nat} {ps : List Str} {dsp : DSp} {x : Str} {p : Pos} {t : TA} (D : Def P w K mg base k x ps dsp)
    (hX : ∀ i, (XF i).prog = P ∧ (XF i).w = w ∧ (XF i).K = K ∧ (XF i).mg = mg ∧ (XF i).base = base) (hr : ∀ i, Room j (XF i).A) (ha : ∀ i, PA (XF i) (e :: es) t) (hkj : k ≤ j) (hg : ∀ i, Gl (XF i) x) (hdb : (x == ("__debug__" : Str)) = false)
    (he : ∀ i, starEach (e :: es) (XF i).env = (false, eval e (XF i).env) :: starEach es (XF i).env) (hpl : ∀ i, (backTo pos (starEach es (XF i).env)).any (·.1) = false) :
    ∀ i, PE (XF i) (.Call (.Name x p) (e :: es) [] pos) (tCall (spD K dsp) [] E0 t) := by
  intro i
  obtain ⟨f, fd, F, hm, hk, hb⟩ := D
  obtain ⟨h1, h2, h3, h4, h5⟩ := hX i
  subst h1; subst h2; subst h3; subst h4; subst h5
  exact pe_call (F.mono hkj) (hr i) (hg i) hm hk hb .nil passL (ha i) hdb (he i) (hpl i)
end
/-! ### data of the laws -/
/-- a fraction -/
def fr (x : Rat) : D := .tup [.int x.num, .int x.den]
/-- a pour, a row -/
def wd (b : Bool) : D := if b then .str "left" else .str "right"
def rw_ (r : List Bool) : D := .tup (r.map wd)
theorem fr_inj {x y : Rat} (h : fr x = fr y) : x = y := by
  unfold fr at h
  injection h with h
  injection h with h1 h2
  injection h1 with h1
  injection h2 with h2
  injection h2 with h2
  exact Rat.ext h1 (by omega)
end DL
namespace DL
open PySem PySem.Spec PyProof.Rows L2
abbrev rLt : DR := dI0 fun i j => .bl (decide (i < j))
abbrev rLe : DR := dI0 fun i j => .bl (decide (i ≤ j))
abbrev rGt : DR := dI0 fun i j => .bl (decide (j < i))
abbrev rGe : DR := dI0 fun i j => .bl (decide (j ≤ i))
theorem sr_lt {K : PySem.W.Frag} : SR K (rI0 fun i j => .bl (decide (i < j))) rLt := sr_I0 fun _ _ _ _ => rfl
theorem sr_le {K : PySem.W.Frag} : SR K (rI0 fun i j => .bl (decide (i ≤ j))) rLe := sr_I0 fun _ _ _ _ => rfl
theorem sr_gt {K : PySem.W.Frag} : SR K (rI0 fun i j => .bl (decide (j < i))) rGt := sr_I0 fun _ _ _ _ => rfl
theorem sr_ge {K : PySem.W.Frag} : SR K (rI0 fun i j => .bl (decide (j ≤ i))) rGe := sr_I0 fun _ _ _ _ => rfl
theorem sr_add {K : PySem.W.Frag} : SR K (rI0 fun i j => .int (i + j)) (dI0 fun i j => .int (i + j)) := sr_I0 fun _ _ _ _ => rfl
theorem sr_sub {K : PySem.W.Frag} : SR K (rI0 fun i j => .int (i - j)) (dI0 fun i j => .int (i - j)) := sr_I0 fun _ _ _ _ => rfl
/-- the addresses of the refusals' classes -/
structure Er where
  PourError : Addr
  NoParts : Addr
  NoShare : Addr
  NoRow : Addr
  NoMany : Addr
  NoLefts : Addr
  NoPlace : Addr
  NoNumber : Addr
  NoDistance : Addr
  NoPour : Addr
  Full : Addr
  NothingLeft : Addr
  Kept : Addr
section
variable {K : PySem.W.Frag} {E : XK} {ta tb tc td te : TE} {da db dc dd de : DE} {n : Nat} {ts : TA} {das : DA} {t u : TT} {dt du : DT}
theorem se_non : SE K E (tC .non) (dC .non) := se_c fun _ _ => rfl
theorem se_bl {b : Bool} : SE K E (tC (.bl b)) (dC (.bl b)) := se_c fun _ _ => rfl
theorem se_int {i : Int} : SE K E (tC (.int i)) (dC (.int i)) := se_c fun _ _ => rfl
theorem se_str {x : Str} : SE K E (tC (.str x)) (dC (.str x)) := se_c fun _ _ => rfl
theorem sa_nil : SAn K E 0 tNil dNil := fun B M σ δ H k kx Q rp h hq hx => hq [] [] H rfl .refl rfl h
theorem sa_cons (s1 : SE K E te de) (s2 : SAn K E n ts das) : SAn K E (n + 1) (tCons te ts) (dCons de das) := by
  refine fun B M σ δ H k kx Q rp h hq hx => s1 B M σ δ H _ kx _ rp h (fun v x H1 t1 r1 q1 => ?_) hx
  refine s2 B M σ δ H1 _ kx _ (rp.stp t1) q1 (fun vs ds H2 hl t2 r2 q2 => ?_) (fun C H2 t2 q2 => hx C H2 (t1.trans t2) q2)
  exact hq (v :: vs) (x :: ds) H2 (by rw [List.length_cons, hl]) (t1.trans t2) ⟨v, vs, rfl, RD.ex t2.ex _ _ r1, r2⟩ q2
theorem se_tup (s : SAn K E n ts das) (hl : n ≤ 1000) : SE K E (tTupN ts) (dTup das) := by
  refine fun B M σ δ H k kx Q rp h hq hx => s B M σ δ H _ kx _ rp h (fun vs ds H1 hn t1 r1 q1 => ⟨line1000 (by rw [RDs.len r1, hn]; exact hl), fun p ob hp hob => ?_⟩) hx
  have ok1 := t1.ok rp.ok
  have t2 : Stp K B M H1 (upd H1 p (.frz ob (.tup vs))) := .new ok1 hp
  exact hq _ (.tup ds) _ (t1.trans t2) ⟨p, vs, rfl, new_tup ok1 hp hob, RDs.ex t2.ex _ _ r1⟩ q1
theorem se_lst (s : SAn K E n ts das) (hl : n ≤ 1000) : SE K E (tLst ts) (dLst das) := by
  refine fun B M σ δ H k kx Q rp h hq hx => s B M σ δ H _ kx _ rp h (fun vs ds H1 hn t1 r1 q1 => ⟨line1000 (by rw [RDs.len r1, hn]; exact hl), fun p hp => ?_⟩) hx
  have ok1 := t1.ok rp.ok
  have t2 : Stp K B M H1 (upd H1 p (.lst vs)) := .new ok1 hp
  exact hq _ (.lst ds) _ (t1.trans t2) ⟨p, vs, rfl, new_at ok1 hp, RDs.ex t2.ex _ _ r1⟩ q1
theorem se_and (s1 : SE K E ta da) (s2 : SE K E tb db) : SE K E (tAndV ta tb) (dAndV da db) :=
  fun B M σ δ H k kx Q rp h hq hx => s1 B M σ δ H _ kx _ rp h (fun v x H1 t1 r1 q1 => by
      cases x <;> try exact q1.elim
      rename_i c
      refine ⟨c, r1, ?_⟩
      cases c with
      | true =>
        refine iteT (s2 B M σ δ H1 k kx Q (rp.stp t1) ?_ (fun u d H2 t2 r2 q2 => hq u d H2 (t1.trans t2) r2 q2) (fun C H2 t2 q2 => hx C H2 (t1.trans t2) q2))
        simpa using q1
      | false => exact iteF (hq _ (.bl false) H1 t1 rfl (by simpa using q1))) hx
theorem st_test (s1 : SE K E te de) : ST K E (tTest te) (dB de) := fun B M σ δ H k kx Q rp h hq hx => s1 B M σ δ H _ kx _ rp h (fun v x H1 t1 r1 h1 => by
  cases x <;> try exact h1.elim
  exact ⟨_, r1, hq _ H1 t1 h1⟩) hx
theorem st_B (s1 : SE K E te de) : ST K E (tB te) (dB de) := fun B M σ δ H k kx Q rp h hq hx => s1 B M σ δ H _ kx _ rp h (fun v x H1 t1 r1 h1 => by
  cases x <;> try exact h1.elim
  exact ⟨_, r1, hq _ H1 t1 h1⟩) hx
theorem st_not (s : ST K E t dt) : ST K E (tNot t) (dNot dt) := fun B M σ δ H k kx Q rp h hq hx => s B M σ δ H _ kx _ rp h (fun c H1 t1 q1 => hq _ H1 t1 q1) hx
theorem st_isN (s1 : SE K E ta da) : ST K E (L2.tB (tIsN ta)) (dB (dIsN da)) := fun B M σ δ H k kx Q rp h hq hx => s1 B M σ δ H _ kx _ rp h (fun v x H1 t1 r1 q1 => ⟨_, rfl, hq _ H1 t1 (by rw [RD.isN r1]; exact q1)⟩) hx
theorem st_notN (s1 : SE K E ta da) : ST K E (L2.tB (tNotN ta)) (dB (dNotN da)) := fun B M σ δ H k kx Q rp h hq hx => s1 B M σ δ H _ kx _ rp h (fun v x H1 t1 r1 q1 => ⟨_, rfl, hq _ H1 t1 (by rw [RD.isN r1]; exact q1)⟩) hx
theorem so_none : SO K E tNoPart dNo := fun B M σ δ H k kx Q rp h hq hx => hq none H .refl h
theorem so_some (s1 : SE K E te de) : SO K E (tPart te) (dSome de) := fun B M σ δ H k kx Q rp h hq hx => s1 B M σ δ H _ kx _ rp h (fun v x H1 t1 r1 q1 => by
      cases x <;> try exact q1.elim
      rename_i i
      exact ⟨i, r1, hq _ H1 t1 q1⟩) hx
theorem se_sl {tl th : TO} {dl dh : DO} (s0 : SE K E te de) (s1 : SO K E tl dl) (s2 : SO K E th dh) : SE K E (tSl (fun x lo hi H Q => rSlN K x lo hi H Q ∨ rSlL K x lo hi H Q) te tl th) (dSl de dl dh) :=
  fun B M σ δ H k kx Q rp h hq hx => s0 B M σ δ H _ kx _ rp h (fun v x H1 t1 r1 q1 =>
      s1 B M σ δ H1 _ kx _ (rp.stp t1) q1 (fun l H2 t2 q2 => s2 B M σ δ H2 _ kx _ ((rp.stp t1).stp t2) q2 (fun u H3 t3 q3 => by
        have t := (t1.trans t2).trans t3
        have ok := t.ok rp.ok
        have r3 := RD.ex t3.ex _ _ (RD.ex t2.ex _ _ r1)
        cases x with
        | tup ds =>
          obtain ⟨a, xs, rfl, e2, e3⟩ := r3
          refine .inl ⟨a, xs, rfl, SqD.un e2, fun c => ?_, fun c p ob hp hob => ?_⟩
          · refine hq _ (.tup (cutD ds l u)) H3 t ⟨a, xs, rfl, e2, ?_⟩ q3
            have hc : cutD ds l u = ds := by
              unfold cutD
              rw [← RDs.len e3, c.1, c.2, RDs.len e3]
              simp
            rw [hc]; exact e3
          · have t4 : Stp K B M H3 (upd H3 p (.frz ob (.tup (cutV xs l u)))) := .new ok hp
            exact hq _ (.tup (cutD ds l u)) _ (t.trans t4) ⟨p, _, rfl, new_tup ok hp hob, RDs.ex t4.ex _ _ (cut_rd e3 l u)⟩ q3
        | lst ds =>
          obtain ⟨a, xs, rfl, e2, e3⟩ := r3
          refine .inr ⟨a, xs, rfl, SqL.of (hid_of e2).2, fun p hp => ?_⟩
          have t4 : Stp K B M H3 (upd H3 p (.lst (cutV xs l u))) := .new ok hp
          exact hq _ (.lst (cutD ds l u)) _ (t.trans t4) ⟨p, _, rfl, new_at ok hp, RDs.ex t4.ex _ _ (cut_rd e3 l u)⟩ q3
        | _ => exact q3.elim) (fun C H3 t3 q3 => hx C H3 ((t1.trans t2).trans t3) q3)) (fun C H2 t2 q2 => hx C H2 (t1.trans t2) q2)) hx
theorem se_isi {T : String} (s1 : SE K E ta da) : SE K E (tCB (rIsi K) (tCons ta (tCons (tC (.ty T)) tNil))) (dIsi T da) := fun B M σ δ H k kx Q rp h hq hx => s1 B M σ δ H _ kx _ rp h (fun v d H1 t1 r1 q1 => by
  unfold D.isi isiK at q1
  cases q : d.ty with
  | none => rw [q] at q1; exact q1.elim
  | some t =>
    rw [q] at q1
    cases q' : kitB t T with
    | none => rw [show (some t).bind (fun t => kitB t T) = kitB t T from rfl, q'] at q1; exact q1.elim
    | some b =>
      rw [show (some t).bind (fun t => kitB t T) = kitB t T from rfl, q'] at q1
      exact ⟨v, .ty T, .type t, .type T, b, rfl, .ty T, RD.tyx r1 q, kit_ty q', hq _ (.bl b) H1 t1 rfl q1⟩) hx
/-! ### a < b < c <= d -/
def tChain3 (r r' r'' : R2) (ta tb tc td : TE) : TE := fun σ H Q => ta σ H fun x H1 => tb σ H1 fun y H2 => r x y H2 fun z H3 => ∃ k, z = .bl k ∧
  (if k = true then tc σ H3 fun w' H4 => r' y w' H4 fun z2 H5 => ∃ k2, z2 = .bl k2 ∧ (if k2 = true then td σ H5 fun w2 H6 => r'' w' w2 H6 Q else Q (.bl false) H5) else Q (.bl false) H3)
def dChain3 (r r' r'' : DR) (da db dc dd : DE) : DE := fun δ k kx => da δ (fun x => db δ (fun y => r x y (fun z => match z with
  | .bl t => if t = true then dc δ (fun w => r' y w (fun z2 => match z2 with
    | .bl t2 => if t2 = true then dd δ (fun w2 => r'' w w2 k) kx else k (.bl false)
    | _ => False)) kx else k (.bl false)
  | _ => False)) kx) kx
theorem se_chain3 {r r' r'' : R2} {dr dr' dr'' : DR} (hr : SR K r dr) (hr' : SR K r' dr') (hr'' : SR K r'' dr'') (s1 : SE K E ta da) (s2 : SE K E tb db) (s3 : SE K E tc dc) (s4 : SE K E td dd) : SE K E (tChain3 r r' r'' ta tb tc td) (dChain3 dr dr' dr'' da db dc dd) := by
  refine fun B M σ δ H k kx Q rp h hq hx => s1 B M σ δ H _ kx _ rp h (fun v x H1 t1 r1 q1 => ?_) hx
  refine s2 B M σ δ H1 _ kx _ (rp.stp t1) q1 (fun w y H2 t2 r2 q2 => ?_) (fun C H2 t2 q2 => hx C H2 (t1.trans t2) q2)
  have t12 := t1.trans t2
  refine hr B M H2 x y v w _ _ (t12.ok rp.ok) (RD.ex t2.ex _ _ r1) r2 q2 (fun u d H3 t3 r3 q3 => ?_)
  cases d <;> try exact q3.elim
  rename_i t
  refine ⟨t, r3, ?_⟩
  have t13 := t12.trans t3
  cases t with
  | false => exact iteF (hq _ (.bl false) H3 t13 rfl (by simpa using q3))
  | true =>
    refine iteT (s3 B M σ δ H3 _ kx _ (rp.stp t13) (by simpa using q3) (fun u' z H4 t4 r4 q4 => ?_) (fun C H4 t4 q4 => hx C H4 (t13.trans t4) q4))
    have t14 := t13.trans t4
    refine hr' B M H4 y z w u' _ _ (t14.ok rp.ok) (RD.ex t4.ex _ _ (RD.ex t3.ex _ _ r2)) r4 q4 (fun u2 d2 H5 t5 r5 q5 => ?_)
    have t15 := t14.trans t5
    cases d2 <;> try exact q5.elim
    rename_i tt
    refine ⟨tt, r5, ?_⟩
    cases tt with
    | false => exact iteF (hq _ (.bl false) H5 t15 rfl (by simpa using q5))
    | true =>
      refine iteT (s4 B M σ δ H5 _ kx _ (rp.stp t15) (by simpa using q5) (fun u6 z6 H6 t6 r6 q6 => ?_) (fun C H6 t6 q6 => hx C H6 (t15.trans t6) q6))
      exact hr'' B M H6 z z6 u' u6 k Q ((t15.trans t6).ok rp.ok) (RD.ex t6.ex _ _ (RD.ex t5.ex _ _ r4)) r6 q6 (fun u7 d7 H7 t7 r7 q7 => hq u7 d7 H7 ((t15.trans t6).trans t7) r7 q7)
end
section
variable {X : Cx} {E : XK} {a b c d e : Expr} {es : List Expr} {ta tb tc td : TE} {da db dc dd de : DE} {das : DA} {dt du : DT} {pos : Pos}
theorem pe_chain3 {op op' op'' : CmpOp} {r r' r'' : R2} (ho : OpR X (compareOp op) r) (ho' : OpR X (compareOp op') r') (ho'' : OpR X (compareOp op'') r'') (ha : PE X a ta) (hb : PE X b tb) (hc : PE X c tc) (hd : PE X d td)
    (hm : lastMarks [op, op', op''] [b, c, d] = false := by with_unfolding_all rfl) : PE X (.Compare a [op, op', op''] [b, c, d] pos) (tChain3 r r' r'' ta tb tc td) := by
  refine ⟨fun pins s σ H Q I h => ?_⟩
  refine Compare_chain (thn (ha.run pins s σ H _ I h) fun v s1 ⟨x, H1, I1, r1, q1⟩ => chain_link (thn (hb.run pins s1 σ H1 _ I1 q1) fun u s2 ⟨y, H2, I2, r2, q2⟩ =>
    thn (ho pins s2 σ H2 x y v u _ I2 r1 r2 q2) fun d s3 ⟨z, H3, I3, r3, k, e, q3⟩ => ?_)) hm
  subst e
  cases r3
  refine wpAny_truthy_bool ?_
  cases k with
  | false => exact ite_ff ⟨.bl false, H3, I3, rfl, by simpa using q3⟩
  | true =>
    rw [if_pos rfl] at q3
    refine ite_tt (chain_link (thn (hc.run pins s3 σ H3 _ I3 q3) fun w' s4 ⟨z', H4, I4, r4, q4⟩ => thn (ho' pins s4 σ H4 y z' u w' _ I4 r2 r4 q4) fun d' s5 ⟨z5, H5, I5, r5, k5, e5, q5⟩ => ?_))
    subst e5
    cases r5
    refine wpAny_truthy_bool ?_
    cases k5 with
    | false => exact ite_ff ⟨.bl false, H5, I5, rfl, by simpa using q5⟩
    | true =>
      rw [if_pos rfl] at q5
      exact ite_tt (chain_last (thn (hd.run pins s5 σ H5 _ I5 q5) fun w6 s6 ⟨z6, H6, I6, r6, q6⟩ => ho'' pins s6 σ H6 z' z6 w' w6 Q I6 r4 r6 q6))
theorem t_chain {op op' : CmpOp} {r r' : R2} {dr dr' : DR} (ho : OpR X (compareOp op) r) (ho' : OpR X (compareOp op') r') (hr : SR X.K r dr) (hr' : SR X.K r' dr') (ha : PD X E a da) (hb : PD X E b db) (hc : PD X E c dc)
    (hm : lastMarks [op, op'] [b, c] = false := by with_unfolding_all rfl) : PDT X E (.Compare a [op, op'] [b, c] pos) (dB (dChain dr dr' da db dc)) := by
  obtain ⟨ta, p1, s1⟩ := ha
  obtain ⟨tb, p2, s2⟩ := hb
  obtain ⟨tc, p3, s3⟩ := hc
  refine ⟨_, pt_chain ho ho' p1 p2 p3 hm, st_test ?_⟩
  refine fun B M σ δ H k kx Q rp h hq hx => s1 B M σ δ H _ kx _ rp h (fun v x H1 t1 r1 q1 => ?_) hx
  refine s2 B M σ δ H1 _ kx _ (rp.stp t1) q1 (fun w y H2 t2 r2 q2 => ?_) (fun C H2 t2 q2 => hx C H2 (t1.trans t2) q2)
  have t12 := t1.trans t2
  refine hr B M H2 x y v w _ _ (t12.ok rp.ok) (RD.ex t2.ex _ _ r1) r2 q2 (fun u d H3 t3 r3 q3 => ?_)
  cases d <;> try exact q3.elim
  rename_i t
  refine ⟨t, r3, ?_⟩
  have t13 := t12.trans t3
  cases t with
  | false => exact iteF (hq _ (.bl false) H3 t13 rfl (by simpa using q3))
  | true =>
    refine iteT (s3 B M σ δ H3 _ kx _ (rp.stp t13) (by simpa using q3) (fun u' z H4 t4 r4 q4 => ?_) (fun C H4 t4 q4 => hx C H4 (t13.trans t4) q4))
    exact hr' B M H4 y z w u' k Q ((t13.trans t4).ok rp.ok) (RD.ex t4.ex _ _ (RD.ex t3.ex _ _ r2)) r4 q4 (fun u2 d2 H5 t5 r5 q5 => hq u2 d2 H5 ((t13.trans t4).trans t5) r5 q5)
theorem t_in (ha : PD X E a da) (hb : PD X E b db) (hm : behindInMarks .In b = false := by with_unfolding_all rfl) : PDT X E (.Compare a [.In] [b] pos) (dB (dOp (dIn false) da db)) := t_cmp op_in_seq sr_in hm ha hb
theorem t_notIn (ha : PD X E a da) (hb : PD X E b db) (hm : behindInMarks .NotIn b = false := by with_unfolding_all rfl) : PDT X E (.Compare a [.NotIn] [b] pos) (dB (dOp (dIn true) da db)) := t_cmp op_notIn_seq sr_in hm ha hb
theorem passF {Kx : Value → Shared → Prop} {E₁ : Value → Shared → Prop} (hx : X.xe = fun e s' => wpAny (model X.prog X.w) X.A (leaving X.env e) (fun _ s'' => Kx e s'') E₁ s' := by rfl) : PassesOwn (model X.prog X.w) X.A X.env X.xe := passes_of hx
/-- f() -/
theorem d_fn0 {k j : Nat} {dsp : DSp} {x : Str} {p : Pos} (hx : Passes (CXL X) X E) (hr : Room j X.A) (D : Def X.prog X.w X.K X.mg X.base k x [] dsp) (hkj : k ≤ j := by decide)
    (hg : Gl X x := by rfl) (hdb : (x == ("__debug__" : Str)) = false := by decide) : PD X E (.Call (.Name x p) [] [] pos) (dCall dsp dNil) := by
  obtain ⟨f, fd, F, hm, hk, hb⟩ := D
  exact ⟨_, pe_call0 (F.mono hkj) hr hg hm hk hb .nil hx hdb, se_call sa_nil⟩
/-- a written tuple of texts -/
theorem d_gtup {x : Str} {p : Addr} {ds : List D} {xs : List V} (hg : Gl X x) (h : X.mg x = some (.ref p) ∧ (∀ H, SqD X.K H p xs) ∧ ∀ B G, RDs X.K B G ds xs) (hd : (x == ("__debug__" : Str)) = false := by decide) : PD X E (.Name x pos) (dC (.tup ds)) :=
  ⟨_, pe_glob (v := .ref p) hg h.1 rfl hd, fun B M σ δ H k kx Q r hk hq _ => hq _ (.tup ds) H .refl ⟨p, xs, rfl, h.2.1 _, h.2.2 _ _⟩ hk⟩
end
end DL
/-! Lists that a def has made and still changes: mu tells their contents by address; what they hold is plain data. -/
namespace DL
open PySem PySem.Spec PyProof.Rows L2
abbrev Mu := List (Addr × List D)
abbrev Mu.ad (μ : Mu) : List Addr := μ.map (·.1)
structure ON where
  nx : Dst → Mu → Prop
  rt : D → Prop
  rn : List D → Prop
  ex : Addr → Prop
  bk : Dst → Mu → Prop := fun _ _ => False
  ct : Dst → Mu → Prop := fun _ _ => False
abbrev OS := ON → Dst → Mu → Prop
/-- the state: G stands, the private lists are as told -/
structure RepG (K : PySem.W.Frag) (B : Option Addr) (M : List Addr) (G H0 H : Hp) (σ : L2.St) (δ : Dst) (μ : Mu) : Prop where
  pr : ∀ a ∈ M, B ≠ some a → H a = H0 a
  bm : ∀ b, B = some b → b ∈ M
  bg : ∀ b dr n ns, B = some b → Bag K M b H0 dr n ns → ∃ n', Bag K (μ.ad ++ M) b H dr n' ns
  rep : Rep K B (μ.ad ++ M) H σ δ
  nb : ∀ p ∈ μ.ad, p ∉ M
  nd : μ.ad.Nodup
  own : ∀ e ∈ μ, ∃ vs, H e.1 = some (.lst vs) ∧ RDs K B (hid (μ.ad ++ M) H) e.2 vs
  ex : Ex G (hid (μ.ad ++ M) H)
structure Fin (K : PySem.W.Frag) (B : Option Addr) (M : List Addr) (G H0 H : Hp) : Prop where
  pr : ∀ a ∈ M, B ≠ some a → H a = H0 a
  bg : ∀ b dr n ns, B = some b → Bag K M b H0 dr n ns → ∃ n', Bag K M b H dr n' ns
  ex : Ex G (hid M H)
  ok : Ok K B M H
/-- a new list is handed back -/
structure FinN (K : PySem.W.Frag) (B : Option Addr) (M : List Addr) (G H0 H : Hp) (p : Addr) (ds : List D) : Prop where
  fin : Fin K B M G H0 H
  nb : p ∉ M
  ng : Ex G (hid (p :: M) H)
  at_ : ∃ vs, H p = some (.lst vs) ∧ RDs K B (hid (p :: M) H) ds vs
structure LkG (K : PySem.W.Frag) (E : XK) (B : Option Addr) (M : List Addr) (G H0 : Hp) (D0 : ON) (D1 : Ends) : Prop where
  nx : ∀ σ δ μ H, RepG K B M G H0 H σ δ μ → D0.nx δ μ → D1.nx σ H
  rt : ∀ v d H, Fin K B M G H0 H → RD K B (hid M H) d v → D0.rt d → D1.rt v H
  rn : ∀ p ds H, FinN K B M G H0 H p ds → D0.rn ds → D1.rt (.ref p) H
  ex : ∀ C H, Fin K B M G H0 H → D0.ex C → E (.ref C) none H
  bk : ∀ σ δ μ H, RepG K B M G H0 H σ δ μ → D0.bk δ μ → D1.bk σ H
  ct : ∀ σ δ μ H, RepG K B M G H0 H σ δ μ → D0.ct δ μ → D1.ct σ H
def SSo (K : PySem.W.Frag) (E : XK) (ts : TS) (os : OS) : Prop := ∀ B M G H0 σ δ μ H D0 D1, RepG K B M G H0 H σ δ μ → os D0 δ μ → LkG K E B M G H0 D0 D1 → ts D1 σ H
def PDSo (X : Cx) (E : XK) (s : Stmt) (os : OS) : Prop := ∃ te, PS X s te ∧ SSo X.K E te os
def PDBo (X : Cx) (E : XK) (s : List Stmt) (os : OS) : Prop := ∃ te, PSs X s te ∧ SSo X.K E te os
section
variable {K : PySem.W.Frag} {B : Option Addr} {M : List Addr} {G H0 H H2 : Hp} {σ : L2.St} {δ : Dst} {μ : Mu}
theorem hid_app {P : List Addr} : Ex (hid (P ++ M) H) (hid M H) := hid_sub H fun a m => List.mem_append_right _ m
theorem Ok.unpr {P : List Addr} (bm : ∀ b, B = some b → b ∈ M) (ok : Ok K B (P ++ M) H) : Ok K B M H := by
  refine ⟨fun a m => ok.all a (List.mem_append_right _ m), fun b e => ?_⟩
  obtain ⟨dr, n, ns, w⟩ := ok.bag b e
  exact ⟨dr, n, ns, bm b e, w.at_, hid_app _ _ w.dr_, w.len, w.rng⟩
theorem RepG.fin (r : RepG K B M G H0 H σ δ μ) : Fin K B M G H0 H := ⟨r.pr, fun b dr n ns e w => by
  obtain ⟨n', w'⟩ := r.bg b dr n ns e w
  exact ⟨n', w.mem, w'.at_, hid_app _ _ w'.dr_, w.len, w.rng⟩, fun a o e => hid_app _ _ (r.ex a o e), r.rep.ok.unpr r.bm⟩
theorem RepG.neb (r : RepG K B M G H0 H σ δ μ) {p : Addr} (hp : p ∈ μ.ad) : B ≠ some p := fun e => r.nb p hp (r.bm p e)
theorem RepG.stp (r : RepG K B M G H0 H σ δ μ) (t : Stp K B (μ.ad ++ M) H H2) : RepG K B M G H0 H2 σ δ μ := by
  refine ⟨fun a m n => (t.pr a (List.mem_append_right _ m) n).trans (r.pr a m n), r.bm, fun b dr n ns e w => (by
    obtain ⟨n', w'⟩ := r.bg b dr n ns e w
    exact t.bg b dr n' ns e w'), r.rep.stp t, r.nb, r.nd, fun e he => ?_, fun a o q => t.ex _ _ (r.ex a o q)⟩
  obtain ⟨vs, h1, h2⟩ := r.own e he
  have hp : e.1 ∈ μ.ad := List.mem_map_of_mem he
  exact ⟨vs, (t.pr e.1 (List.mem_append_left _ hp) (r.neb hp)).trans h1, RDs.ex t.ex _ _ h2⟩
theorem RepG.set (r : RepG K B M G H0 H σ δ μ) {i : Nat} {d : D} {v : V} (h : RD K B (hid (μ.ad ++ M) H) d v) : RepG K B M G H0 H (σ.set i (some v)) (δ.set i (some d)) μ :=
  ⟨r.pr, r.bm, r.bg, r.rep.set h, r.nb, r.nd, r.own, r.ex⟩
theorem RepG.fin2 (r : RepG K B M G H0 H σ δ μ) (t : Stp K B (μ.ad ++ M) H H2) : Fin K B M G H0 H2 := (r.stp t).fin
theorem LkG.weak {E : XK} {D0 : ON} {D1 : Ends} {G1 : Hp} (l : LkG K E B M G H0 D0 D1) (g : Ex G G1) : LkG K E B M G1 H0 D0 D1 := by
  have hr : ∀ {σ δ μ H}, RepG K B M G1 H0 H σ δ μ → RepG K B M G H0 H σ δ μ := fun r => ⟨r.pr, r.bm, r.bg, r.rep, r.nb, r.nd, r.own, fun a o q => r.ex _ _ (g a o q)⟩
  have hf : ∀ {H}, Fin K B M G1 H0 H → Fin K B M G H0 H := fun r => ⟨r.pr, r.bg, fun a o q => r.ex _ _ (g a o q), r.ok⟩
  exact ⟨fun σ δ μ H r => l.nx σ δ μ H (hr r), fun v d H f => l.rt v d H (hf f), fun p ds H f => l.rn p ds H ⟨hf f.fin, f.nb, fun a o q => f.ng _ _ (g a o q), f.at_⟩, fun C H f => l.ex C H (hf f),
    fun σ δ μ H r => l.bk σ δ μ H (hr r), fun σ δ μ H r => l.ct σ δ μ H (hr r)⟩
end
section
variable {X : Cx} {E : XK} {a b c e tg : Expr} {da db dc de : DE} {das : DA} {dt du : DT} {pos : Pos} {st : Stmt} {rest sb se : List Stmt} {s1 s2 s3 : DS} {o1 o2 o3 : OS}
def oNext : OS := fun N δ μ => N.nx δ μ
def oSeq (t u : OS) : OS := fun N δ μ => t { N with nx := u N } δ μ
theorem ob_nil : PDBo X E [] oNext := ⟨_, pss_nil, fun B M G H0 σ δ μ H D0 D1 rp h l => l.nx σ δ μ H rp h⟩
theorem ob_one : PDSo X E st o1 → PDBo X E [st] o1
  | ⟨_, p, s⟩ => ⟨_, pss_one p, s⟩
theorem ob_cons : PDSo X E st o1 → PDBo X E rest o2 → PDBo X E (st :: rest) (oSeq o1 o2)
  | ⟨_, p1, q1⟩, ⟨_, p2, q2⟩ => ⟨_, pss_cons p1 p2, fun B M G H0 σ δ μ H D0 D1 rp h l => q1 B M G H0 σ δ μ H _ _ rp h
      ⟨fun σ' δ' μ' H2 r h2 => q2 B M G H0 σ' δ' μ' H2 D0 D1 r h2 l, l.rt, l.rn, l.ex, l.bk, l.ct⟩⟩
/-- a statement that changes no private list -/
def oLift (s : DS) : OS := fun N δ μ => s { nx := fun δ' => N.nx δ' μ, rt := N.rt, ex := N.ex, bk := fun δ' => N.bk δ' μ, ct := fun δ' => N.ct δ' μ } δ
theorem RepG.back {K : PySem.W.Frag} {B : Option Addr} {M : List Addr} {G H0 H H2 : Hp} {σ σ2 : L2.St} {δ δ2 : Dst} {μ : Mu} (r : RepG K B M G H0 H σ δ μ) (t : Stp K B (μ.ad ++ M) H H2) (r2 : Rep K B (μ.ad ++ M) H2 σ2 δ2) : RepG K B M G H0 H2 σ2 δ2 μ := by
  have q := r.stp t
  exact ⟨q.pr, q.bm, q.bg, r2, q.nb, q.nd, q.own, q.ex⟩
theorem ss_lift {K : PySem.W.Frag} {ts : TS} (q : SS K E ts s1) : SSo K E ts (oLift s1) := fun B M G H0 σ δ μ H D0 D1 rp h l =>
  q B (μ.ad ++ M) σ δ H _ D1 rp.rep h ⟨fun σ2 δ2 H2 t r2 h2 => l.nx _ _ μ H2 (rp.back t r2) h2, fun v d H2 t r2 h2 => l.rt v d H2 (rp.fin2 t) (RD.ex hid_app _ _ r2) h2, fun C H2 t h2 => l.ex C H2 (rp.fin2 t) h2,
    fun σ2 δ2 H2 t r2 h2 => l.bk _ _ μ H2 (rp.back t r2) h2, fun σ2 δ2 H2 t r2 h2 => l.ct _ _ μ H2 (rp.back t r2) h2⟩
theorem os_lift : PDS X E st s1 → PDSo X E st (oLift s1)
  | ⟨_, p, q⟩ => ⟨_, p, ss_lift q⟩
theorem ob_lift : PDB X E rest s1 → PDBo X E rest (oLift s1)
  | ⟨_, p, q⟩ => ⟨_, p, ss_lift q⟩
/-- x = [], a list that will be changed -/
def oNew (i : Nat) : OS := fun N δ μ => ∀ p, p ∉ μ.ad → N.nx (δ.set i (some (.adr p))) ((p, []) :: μ)
theorem hid_new {M : List Addr} {H : Hp} {p : Addr} {o : HO} (hp : H p = none) : Ex (hid M H) (hid (p :: M) (upd H p o)) := fun a u e => by
  have h3 := hid_of e
  have nd : a ≠ p := ne_of_none h3.2 hp
  exact hid_at (fun m => by
      rcases List.mem_cons.mp m with c | c
      · exact nd c
      · exact h3.1 c) ((upd_ne nd).trans h3.2)
theorem RepG.new {K : PySem.W.Frag} {B : Option Addr} {M : List Addr} {G H0 H : Hp} {σ : L2.St} {δ : Dst} {μ : Mu} {i : Nat} (r : RepG K B M G H0 H σ δ μ) {p : Addr} (hp : H p = none) : p ∉ μ.ad ∧ RepG K B M G H0 (upd H p (.lst [])) (σ.set i (some (.ref p))) (δ.set i (some (.adr p))) ((p, []) :: μ) := by
  have np : p ∉ μ.ad ++ M := r.rep.ok.fresh hp
  have npM : p ∉ M := fun m => np (List.mem_append_right _ m)
  have npP : p ∉ μ.ad := fun m => np (List.mem_append_left _ m)
  have ex : Ex (hid (μ.ad ++ M) H) (hid (p :: (μ.ad ++ M)) (upd H p (.lst []))) := hid_new hp
  have ok := (Ok.start (xs := []) r.rep.ok hp).1
  refine ⟨npP, fun a m n => (upd_ne (fun (q : a = p) => npM (by rw [← q]; exact m))).trans (r.pr a m n), r.bm, fun b dr n ns e w => (by
    obtain ⟨n', w'⟩ := r.bg b dr n ns e w
    exact ⟨n', w'.start hp⟩), ?_, ?_, ?_, ?_, fun a o q => ex _ _ (r.ex a o q)⟩
  · have base : Rep K B (p :: (μ.ad ++ M)) (upd H p (.lst [])) σ δ := ⟨ok, r.rep.len, fun j d hj => by
      obtain ⟨v, h1, h2⟩ := r.rep.at_ j d hj
      exact ⟨v, h1, RD.ex ex _ _ h2⟩⟩
    exact base.set (d := .adr p) (v := .ref p) rfl
  · intro q hq
    rcases List.mem_cons.mp hq with c | c
    · rw [c]; exact npM
    · exact r.nb q c
  · exact List.nodup_cons.mpr ⟨npP, r.nd⟩
  · intro e he
    rcases List.mem_cons.mp he with c | c
    · rw [c]; exact ⟨[], upd_same, rfl⟩
    · obtain ⟨vs, h1, h2⟩ := r.own e c
      exact ⟨vs, (upd_ne (ne_of_none h1 hp)).trans h1, RDs.ex ex _ _ h2⟩
theorem os_new {i : Nat} {x : Str} {pos' p2 : Pos} (hN : X.N.Nodup) (hi : X.N[i]? = some x) (hx : Loc X.env.scope x) (hs : swapsWith (.List [] p2) (some (.Name x pos')) pos.line X.env = pure false := by rfl) (hf : X.fn x = true ∨ X.env.scope.names.lookup x = some .local := by first | exact .inl rfl | exact .inr rfl | assumption) :
    PDSo X E (.Assign [.Name x pos'] (.List [] p2) pos) (oNew i) := by
  refine ⟨_, ps_set hN hi hx (pe_lst pa_nil) hs hf, fun B M G H0 σ δ μ H D0 D1 rp h l => ⟨Nat.zero_le _, fun p hp => ?_⟩⟩
  obtain ⟨h1, h2⟩ := rp.new (i := i) hp
  exact l.nx _ _ _ _ h2 (h p h1)
/-- x.append(e) -/
def oApp (i : Nat) (de : DE) : OS := fun N δ μ => ∃ p μ1 ds μ2, δ[i]? = some (some (.adr p)) ∧ μ = μ1 ++ (p, ds) :: μ2 ∧ ds.length < 100000 ∧ de δ (fun d => N.nx δ (μ1 ++ (p, ds ++ [d]) :: μ2)) N.ex
theorem ad_app (μ1 μ2 : Mu) (p : Addr) (ds es : List D) : Mu.ad (μ1 ++ (p, ds) :: μ2) = Mu.ad (μ1 ++ (p, es) :: μ2) := by
  show (μ1 ++ (p, ds) :: μ2).map (·.1) = (μ1 ++ (p, es) :: μ2).map (·.1)
  simp
theorem hid_upd_mem {M : List Addr} {H : Hp} {p : Addr} {o : HO} (hp : p ∈ M) : hid M (upd H p o) = hid M H := by
  funext a
  unfold hid
  by_cases c : a ∈ M
  · rw [if_pos c, if_pos c]
  · rw [if_neg c, if_neg c]
    exact upd_ne (fun e => c (e ▸ hp))
theorem RepG.write {K : PySem.W.Frag} {B : Option Addr} {M : List Addr} {G H0 H : Hp} {σ : L2.St} {δ : Dst} {μ1 μ2 : Mu} {p : Addr} {ds es : List D} {ws : List V} (r : RepG K B M G H0 H σ δ (μ1 ++ (p, ds) :: μ2)) (hw : RDs K B (hid (Mu.ad (μ1 ++ (p, ds) :: μ2) ++ M) H) es ws) :
    RepG K B M G H0 (upd H p (.lst ws)) σ δ (μ1 ++ (p, es) :: μ2) := by
  have hp : p ∈ Mu.ad (μ1 ++ (p, ds) :: μ2) := List.mem_map_of_mem (f := (·.1)) (List.mem_append_right μ1 (List.mem_cons_self (a := (p, ds)) (l := μ2)))
  have eh : hid (Mu.ad (μ1 ++ (p, ds) :: μ2) ++ M) (upd H p (.lst ws)) = hid (Mu.ad (μ1 ++ (p, ds) :: μ2) ++ M) H := hid_upd_mem (List.mem_append_left _ hp)
  have ea := ad_app μ1 μ2 p ds es
  have npM := r.nb p hp
  refine ⟨fun a m n => (upd_ne (fun (q : a = p) => npM (by rw [← q]; exact m))).trans (r.pr a m n), r.bm, fun b dr n ns e w => (by
    obtain ⟨n', w'⟩ := r.bg b dr n ns e w
    rw [← ea]
    exact ⟨n', w'.mem, (upd_ne (fun (c : b = p) => npM (by rw [← c]; exact r.bm b e))).trans w'.at_, by rw [eh]; exact w'.dr_, w'.len, w'.rng⟩), ?_, by rw [← ea]; exact r.nb, by rw [← ea]; exact r.nd, ?_, by rw [← ea, eh]; exact r.ex⟩
  · rw [← ea]
    refine ⟨⟨fun a m => ?_, fun b e => ?_⟩, r.rep.len, fun j d hj => ?_⟩
    · by_cases c : a = p
      · exact ⟨_, by rw [c]; exact upd_same⟩
      · obtain ⟨o, h⟩ := r.rep.ok.all a m
        exact ⟨o, (upd_ne c).trans h⟩
    · obtain ⟨dr, n, ns, w⟩ := r.rep.ok.bag b e
      exact ⟨dr, n, ns, w.mem, (upd_ne (fun (c : b = p) => npM (by rw [← c]; exact r.bm b e))).trans w.at_, by rw [eh]; exact w.dr_, w.len, w.rng⟩
    · obtain ⟨v, h1, h2⟩ := r.rep.at_ j d hj
      exact ⟨v, h1, by rw [eh]; exact h2⟩
  · intro e he
    rw [← ea, eh]
    by_cases c : e = (p, es)
    · rw [c]; exact ⟨ws, upd_same, hw⟩
    · have he' : e ∈ μ1 ++ (p, ds) :: μ2 := by
        rcases List.mem_append.mp he with q | q
        · exact List.mem_append_left _ q
        · rcases List.mem_cons.mp q with q | q
          · exact absurd q c
          · exact List.mem_append_right _ (List.mem_cons_of_mem _ q)
      obtain ⟨vs, h1, h2⟩ := r.own e he'
      have ne : e.1 ≠ p := fun q => by
        have nd := r.nd
        rw [show Mu.ad (μ1 ++ (p, ds) :: μ2) = μ1.map (·.1) ++ p :: μ2.map (·.1) by simp [Mu.ad]] at nd
        have nd2 := List.nodup_append.mp nd
        rcases List.mem_append.mp he with z | z
        · exact nd2.2.2 e.1 (List.mem_map_of_mem z) p List.mem_cons_self q
        · rcases List.mem_cons.mp z with z | z
          · exact c z
          · exact (List.nodup_cons.mp nd2.2.1).1 (q ▸ List.mem_map_of_mem (f := (·.1)) z)
      exact ⟨vs, (upd_ne ne).trans h1, h2⟩
theorem os_app {i : Nat} {x : Str} {p1 apos cpos : Pos} (he : PD X E e de) (hN : X.N[i]? = some x := by rfl) (hv : Vis X.env.scope x := by first | exact Or.inl rfl | exact Or.inr (Or.inl rfl) | exact Or.inr (Or.inr rfl)) (hd : (x == ("__debug__" : Str)) = false := by decide) (hcd : (x == ("__classdict__" : Str)) = false := by decide)
    (hbase : attributeBase (.Name x p1) "append" X.env (eval (.Name x p1) X.env) = eval (.Name x p1) X.env := by rfl)
    (hfew : ((backTo cpos (starEach (e :: []) X.env)).all (fun x => !x.1) && (backToKw cpos (keywordEach [] X.env)).all (fun x => x.1.isSome)
      && decide ((e :: ([] : List Expr)).length + ([] : List Keyword).length + (if ([] : List Keyword).isEmpty then 0 else 1) < 30)) = true := by rfl)
    (hline : (apos.endLine == cpos.line) = true := by rfl) (hs : starEach (e :: []) X.env = (false, eval e X.env) :: starEach [] X.env := by rfl) (hplain : (backTo cpos (starEach [] X.env)).any (·.1) = false := by rfl)
    (hsw : swapsWith (.Call (.Attribute (.Name x p1) "append" apos) [e] [] cpos) none pos.line X.env = pure false := by rfl) :
    PDSo X E (.Expr (.Call (.Attribute (.Name x p1) "append" apos) [e] [] cpos) pos) (oApp i de) := by
  obtain ⟨te, p, q⟩ := he
  refine ⟨_, ps_expr (pe_bm PySem.F.plainAttrs_list PySem.F.slot_list_append PySem.F.type_list_append mt_append (pe_var hN hv hd hcd) (pa_cons p pa_nil hs) hbase hfew hline hs hplain) hsw, fun B M G H0 σ δ μ H D0 D1 rp h l => ?_⟩
  obtain ⟨pa, μ1, ds, μ2, z, rfl, hl, h⟩ := h
  obtain ⟨v, hσ, hv⟩ := rp.rep.at_ i _ z
  have ev : v = .ref pa := hv
  subst ev
  have he0 : (pa, ds) ∈ μ1 ++ (pa, ds) :: μ2 := List.mem_append_right _ List.mem_cons_self
  obtain ⟨vs, hH, _⟩ := rp.own _ he0
  refine ⟨.ref pa, hσ, .inl ⟨rfl, vs, SqL.of hH⟩, ?_⟩
  refine q B _ σ δ H _ _ _ rp.rep h (fun v d H2 t2 r2 h2 => ?_) (fun C H2 t2 h2 => l.ex C H2 (rp.fin2 t2) h2)
  have rp2 := rp.stp t2
  obtain ⟨ws, hH2, hr2⟩ := rp2.own _ he0
  refine ⟨pa, ws, v, rfl, rfl, hH2, Nat.lt_of_lt_of_le (by rw [RDs.len hr2]; exact hl) (by rw [sizeLine_eq]; decide), ?_⟩
  exact l.nx _ _ _ _ (rp2.write (es := ds ++ [d]) (RDs.app hr2 (show RDs _ _ _ [d] [v] from ⟨v, [], rfl, r2, rfl⟩))) h2
/-- x[j] = e of a private list -/
def oPut (i : Nat) (dj de : DE) : OS := fun N δ μ => ∃ p μ1 ds μ2, δ[i]? = some (some (.adr p)) ∧ μ = μ1 ++ (p, ds) :: μ2 ∧ de δ (fun d => dj δ (fun j => match j with
  | .int j => (match ixN ds.length j with | some n => N.nx δ (μ1 ++ (p, ds.set n d) :: μ2) | none => False)
  | _ => False) N.ex) N.ex
theorem RDs.set' {K : PySem.W.Frag} {B : Option Addr} {G : Hp} {d : D} {v : V} (h : RD K B G d v) : ∀ {ds : List D} {xs : List V} (n : Nat), RDs K B G ds xs → RDs K B G (ds.set n d) (xs.set n v)
  | [], _, n, r => by rw [show _ = [] from r]; exact rfl
  | x :: ds, _, 0, ⟨y, ys, e1, e2, e3⟩ => by rw [e1]; exact ⟨v, ys, rfl, h, e3⟩
  | x :: ds, _, n + 1, ⟨y, ys, e1, e2, e3⟩ => by rw [e1]; exact ⟨y, _, rfl, e2, RDs.set' h n e3⟩
theorem os_put {i : Nat} {x : Str} {p1 tp : Pos} {ej : Expr} {dj : DE} (he : PD X E e de) (hj : PD X E ej dj) (hN : X.N[i]? = some x := by rfl) (hv : Vis X.env.scope x := by first | exact Or.inl rfl | exact Or.inr (Or.inl rfl) | exact Or.inr (Or.inr rfl)) (hd : (x == ("__debug__" : Str)) = false := by decide) (hcd : (x == ("__classdict__" : Str)) = false := by decide)
    (ha : ∀ v, assign (.Subscript (.Name x p1) ej tp) X.env v = (do
      let ov ← holding [v] (eval (.Name x p1) X.env)
      let iv ← holding [v, ov] (eval ej X.env)
      standAt tp
      holding [v, ov, iv] (setItem ov iv v)
      release [v, ov, iv] []) := by intro _; rfl) (hs : swapsWithSole [.Subscript (.Name x p1) ej tp] e pos.line X.env = pure false := by rfl) (hw : swappedStores [.Subscript (.Name x p1) ej tp] e X.env = pure none := by rfl)
    (h1 : (assignEach [.Subscript (.Name x p1) ej tp] X.env).map (·.2) = [assign (.Subscript (.Name x p1) ej tp) X.env] := by rfl) :
    PDSo X E (.Assign [.Subscript (.Name x p1) ej tp] e pos) (oPut i dj de) := by
  obtain ⟨te, p, q⟩ := he
  obtain ⟨tj, p', q'⟩ := hj
  refine ⟨_, ps_asg p (pg_sub (pe_var hN hv hd hcd) p' set_list ha) hs hw h1, fun B M G H0 σ δ μ H D0 D1 rp h l => ?_⟩
  obtain ⟨pa, μ1, ds, μ2, z, rfl, h⟩ := h
  obtain ⟨v, hσ, hv⟩ := rp.rep.at_ i _ z
  have ev : v = .ref pa := hv
  subst ev
  have he0 : (pa, ds) ∈ μ1 ++ (pa, ds) :: μ2 := List.mem_append_right _ List.mem_cons_self
  refine q B _ σ δ H _ _ _ rp.rep h (fun v d H2 t2 r2 h2 => ?_) (fun C H2 t2 h2 => l.ex C H2 (rp.fin2 t2) h2)
  have rp2 := rp.stp t2
  refine ⟨.ref pa, hσ, ?_⟩
  refine q' B _ σ δ H2 _ _ _ rp2.rep h2 (fun w j H3 t3 r3 h3 => ?_) (fun C H3 t3 h3 => l.ex C H3 (rp2.fin2 t3) h3)
  have rp3 := rp2.stp t3
  cases j <;> try exact h3.elim
  rename_i j
  obtain ⟨ws, hH3, hr3⟩ := rp3.own _ he0
  have h3' : (match ixN ds.length j with | some n => D0.nx δ (μ1 ++ (pa, ds.set n d) :: μ2) | none => False) := h3
  cases e : ixN ds.length j with
  | none => rw [e] at h3'; exact h3'.elim
  | some n =>
    rw [e] at h3'
    exact ⟨pa, ws, j, n, rfl, r3, hH3, by rw [RDs.len hr3]; exact e, l.nx _ _ _ _ (rp3.write (RDs.set' (RD.ex t3.ex _ _ r2) n hr3)) h3'⟩
/-! ### a private list is shown -/
theorem RepG.frz {K : PySem.W.Frag} {B : Option Addr} {M : List Addr} {G H0 H : Hp} {σ : L2.St} {δ : Dst} {μ1 μ2 : Mu} {p : Addr} {ds : List D} {i : Nat} (r : RepG K B M G H0 H σ δ (μ1 ++ (p, ds) :: μ2)) (z : δ[i]? = some (some (.adr p))) :
    RepG K B M G H0 H σ (δ.set i (some (.lst ds))) (μ1 ++ μ2) := by
  have sub : ∀ a, a ∈ Mu.ad (μ1 ++ μ2) → a ∈ Mu.ad (μ1 ++ (p, ds) :: μ2) := fun a m => by
    simp [Mu.ad] at m ⊢
    rcases m with m | m
    · exact .inl m
    · exact .inr (.inr m)
  have sub2 : ∀ a, a ∈ Mu.ad (μ1 ++ μ2) ++ M → a ∈ Mu.ad (μ1 ++ (p, ds) :: μ2) ++ M := fun a m => by
    rcases List.mem_append.mp m with m | m
    · exact List.mem_append_left _ (sub a m)
    · exact List.mem_append_right _ m
  have ex : Ex (hid (Mu.ad (μ1 ++ (p, ds) :: μ2) ++ M) H) (hid (Mu.ad (μ1 ++ μ2) ++ M) H) := hid_sub H sub2
  have he0 : (p, ds) ∈ μ1 ++ (p, ds) :: μ2 := List.mem_append_right _ List.mem_cons_self
  have hp : p ∈ Mu.ad (μ1 ++ (p, ds) :: μ2) := List.mem_map_of_mem (f := (·.1)) he0
  obtain ⟨vs, h1, h2⟩ := r.own _ he0
  have nd := r.nd
  rw [show Mu.ad (μ1 ++ (p, ds) :: μ2) = μ1.map (·.1) ++ p :: μ2.map (·.1) by simp [Mu.ad]] at nd
  have nd2 := List.nodup_append.mp nd
  have nd3 := List.nodup_cons.mp nd2.2.1
  have np : p ∉ Mu.ad (μ1 ++ μ2) ++ M := fun m => by
    rcases List.mem_append.mp m with m | m
    · rw [show Mu.ad (μ1 ++ μ2) = μ1.map (·.1) ++ μ2.map (·.1) by simp [Mu.ad]] at m
      rcases List.mem_append.mp m with m | m
      · exact nd2.2.2 p m p List.mem_cons_self rfl
      · exact nd3.1 m
    · exact r.nb p hp m
  obtain ⟨v, hσ, hv⟩ := r.rep.at_ i _ z
  have ev : v = .ref p := hv
  subst ev
  have ok : Ok K B (Mu.ad (μ1 ++ μ2) ++ M) H := ⟨fun a m => r.rep.ok.all a (sub2 a m), fun b e => by
    obtain ⟨dr, n, ns, w⟩ := r.rep.ok.bag b e
    exact ⟨dr, n, ns, List.mem_append_right _ (r.bm b e), w.at_, ex _ _ w.dr_, w.len, w.rng⟩⟩
  have base : Rep K B (Mu.ad (μ1 ++ μ2) ++ M) H σ δ := ⟨ok, r.rep.len, fun j d hj => by
    obtain ⟨v, q1, q2⟩ := r.rep.at_ j d hj
    exact ⟨v, q1, RD.ex ex _ _ q2⟩⟩
  refine ⟨r.pr, r.bm, fun b dr n ns e w => (by
    obtain ⟨n', w'⟩ := r.bg b dr n ns e w
    exact ⟨n', List.mem_append_right _ (r.bm b e), w'.at_, ex _ _ w'.dr_, w'.len, w'.rng⟩), ?_, fun a m => r.nb a (sub a m), ?_, ?_, fun a o q => ex _ _ (r.ex a o q)⟩
  · have li : i < σ.length := (List.getElem?_eq_some_iff.mp hσ).1
    have e : σ.set i (some (.ref p)) = σ := by
      apply List.ext_getElem?
      intro j
      by_cases c : i = j
      · subst c
        rw [List.getElem?_set_self li, hσ]
      · rw [List.getElem?_set_ne c]
    have q := base.set (i := i) (d := .lst ds) (v := .ref p) ⟨p, vs, rfl, hid_at np h1, RDs.ex ex _ _ h2⟩
    rw [e] at q
    exact q
  · rw [show Mu.ad (μ1 ++ μ2) = μ1.map (·.1) ++ μ2.map (·.1) by simp [Mu.ad]]
    exact List.nodup_append.mpr ⟨nd2.1, nd3.2, fun a ha b hb => nd2.2.2 a ha b (List.mem_cons_of_mem _ hb)⟩
  · intro e he
    have he' : e ∈ μ1 ++ (p, ds) :: μ2 := by
      rcases List.mem_append.mp he with q | q
      · exact List.mem_append_left _ q
      · exact List.mem_append_right _ (List.mem_cons_of_mem _ q)
    obtain ⟨vs, q1, q2⟩ := r.own e he'
    exact ⟨vs, q1, RDs.ex ex _ _ q2⟩
def oFrz (i : Nat) (s : OS) : OS := fun N δ μ => ∃ p μ1 ds μ2, δ[i]? = some (some (.adr p)) ∧ μ = μ1 ++ (p, ds) :: μ2 ∧ s N (δ.set i (some (.lst ds))) (μ1 ++ μ2)
theorem ob_frz (i : Nat) : PDBo X E rest o1 → PDBo X E rest (oFrz i o1)
  | ⟨_, p, q⟩ => ⟨_, p, fun B M G H0 σ δ μ H D0 D1 rp h l => by
      obtain ⟨pa, μ1, ds, μ2, z, rfl, h⟩ := h
      exact q B M G H0 σ _ _ H D0 D1 (rp.frz z) h l⟩
/-- if a test reads the private list in slot i: it stays private behind the test -/
def oIfB (i : Nat) (t : DT) (u v : OS) : OS := fun N δ μ => ∃ p μ1 ds μ2, δ[i]? = some (some (.adr p)) ∧ μ = μ1 ++ (p, ds) :: μ2 ∧ t (δ.set i (some (.lst ds))) (fun b => if b = true then u N δ μ else v N δ μ) N.ex
theorem RepG.unborrow {K : PySem.W.Frag} {B : Option Addr} {M : List Addr} {G H0 H H2 : Hp} {σ : L2.St} {δ : Dst} {μ1 μ2 : Mu} {p : Addr} {ds : List D} {i : Nat} (r : RepG K B M G H0 H σ δ (μ1 ++ (p, ds) :: μ2)) (z : δ[i]? = some (some (.adr p))) (t : Stp K B (Mu.ad (μ1 ++ μ2) ++ M) H H2) :
    RepG K B M G H0 H2 σ δ (μ1 ++ (p, ds) :: μ2) := by
  have mem : ∀ a, a ∈ Mu.ad (μ1 ++ (p, ds) :: μ2) ++ M → a = p ∨ a ∈ Mu.ad (μ1 ++ μ2) ++ M := fun a m => by
    simp [Mu.ad] at m ⊢
    rcases m with m | m | m | m
    · exact .inr (.inl m)
    · exact .inl m
    · exact .inr (.inr (.inl m))
    · exact .inr (.inr (.inr m))
  have he0 : (p, ds) ∈ μ1 ++ (p, ds) :: μ2 := List.mem_append_right _ List.mem_cons_self
  have hp : p ∈ Mu.ad (μ1 ++ (p, ds) :: μ2) := List.mem_map_of_mem (f := (·.1)) he0
  obtain ⟨vs, h1, _⟩ := r.own _ he0
  have rf := r.frz z
  have np : p ∉ Mu.ad (μ1 ++ μ2) ++ M := fun m => by
    have nd := r.nd
    rw [show Mu.ad (μ1 ++ (p, ds) :: μ2) = μ1.map (·.1) ++ p :: μ2.map (·.1) by simp [Mu.ad]] at nd
    have nd2 := List.nodup_append.mp nd
    have nd3 := List.nodup_cons.mp nd2.2.1
    rcases List.mem_append.mp m with m | m
    · rw [show Mu.ad (μ1 ++ μ2) = μ1.map (·.1) ++ μ2.map (·.1) by simp [Mu.ad]] at m
      rcases List.mem_append.mp m with m | m
      · exact nd2.2.2 p m p List.mem_cons_self rfl
      · exact nd3.1 m
    · exact r.nb p hp m
  have h2p : H2 p = some (.lst vs) := (hid_of (t.ex p _ (hid_at np h1))).2
  have ex : Ex (hid (Mu.ad (μ1 ++ (p, ds) :: μ2) ++ M) H) (hid (Mu.ad (μ1 ++ (p, ds) :: μ2) ++ M) H2) := fun a o q => by
    have h3 := hid_of q
    have na : a ∉ Mu.ad (μ1 ++ μ2) ++ M := fun m => h3.1 (by
      simp [Mu.ad] at m ⊢
      rcases m with m | m | m
      · exact .inl m
      · exact .inr (.inr (.inl m))
      · exact .inr (.inr (.inr m)))
    exact hid_at h3.1 (hid_of (t.ex a o (hid_at na h3.2))).2
  refine r.stp ⟨ex, fun a m n => ?_, fun b dr n ns e w => ?_⟩
  · rcases mem a m with c | c
    · rw [c, h2p, h1]
    · exact t.pr a c n
  · obtain ⟨n', w'⟩ := t.bg b dr n ns e ⟨List.mem_append_right _ (r.bm b e), w.at_, hid_sub H (fun a m => by
      simp [Mu.ad] at m ⊢
      rcases m with m | m | m
      · exact .inl m
      · exact .inr (.inr (.inl m))
      · exact .inr (.inr (.inr m))) _ _ w.dr_, w.len, w.rng⟩
    exact ⟨n', w.mem, w'.at_, hid_at (hid_of w.dr_).1 (hid_of w'.dr_).2, w.len, w.rng⟩
theorem os_ifB (i : Nat) : PDT X E c dt → PDBo X E sb o1 → PDBo X E se o2 → PDSo X E (.If c sb se pos) (oIfB i dt o1 o2)
  | ⟨_, p0, q0⟩, ⟨_, p1, q1⟩, ⟨_, p2, q2⟩ => ⟨_, ps_if p0 p1 p2, fun B M G H0 σ δ μ H D0 D1 rp h l => by
      obtain ⟨pa, μ1, ds, μ2, z, rfl, h⟩ := h
      have rf := rp.frz z
      refine q0 B _ σ _ H _ _ _ rf.rep h (fun b H2 t q => ?_) (fun C H2 t q => l.ex C H2 (rf.fin2 t) q)
      have rp2 := rp.unborrow z t
      cases b with
      | true => exact iteT (q1 B M G H0 σ δ _ H2 D0 D1 rp2 (by simpa using q) l)
      | false => exact iteF (q2 B M G H0 σ δ _ H2 D0 D1 rp2 (by simpa using q) l)⟩
def oIf (t : DT) (u v : OS) : OS := fun N δ μ => t δ (fun b => if b = true then u N δ μ else v N δ μ) N.ex
theorem os_if : PDT X E c dt → PDBo X E sb o1 → PDBo X E se o2 → PDSo X E (.If c sb se pos) (oIf dt o1 o2)
  | ⟨_, p0, q0⟩, ⟨_, p1, q1⟩, ⟨_, p2, q2⟩ => ⟨_, ps_if p0 p1 p2, fun B M G H0 σ δ μ H D0 D1 rp h l =>
      q0 B _ σ δ H _ _ _ rp.rep h (fun b H2 t q => by
        have rp2 := rp.stp t
        cases b with
        | true => exact iteT (q1 B M G H0 σ δ _ H2 D0 D1 rp2 (by simpa using q) l)
        | false => exact iteF (q2 B M G H0 σ δ _ H2 D0 D1 rp2 (by simpa using q) l)) (fun C H2 t q => l.ex C H2 (rp.fin2 t) q)⟩
/-- a new list is handed back -/
def oRetN (i : Nat) : OS := fun N δ μ => ∃ p μ1 ds μ2, δ[i]? = some (some (.adr p)) ∧ μ = μ1 ++ (p, ds) :: μ2 ∧ N.rn ds
theorem os_retN {i : Nat} {x : Str} {p1 : Pos} (hN : X.N[i]? = some x := by rfl) (hv : Vis X.env.scope x := by first | exact Or.inl rfl | exact Or.inr (Or.inl rfl) | exact Or.inr (Or.inr rfl)) (hd : (x == ("__debug__" : Str)) = false := by decide) (hcd : (x == ("__classdict__" : Str)) = false := by decide) :
    PDSo X E (.Return (some (.Name x p1)) pos) (oRetN i) := by
  refine ⟨_, ps_ret (pe_var hN hv hd hcd), fun B M G H0 σ δ μ H D0 D1 rp h l => ?_⟩
  obtain ⟨pa, μ1, ds, μ2, z, rfl, h⟩ := h
  obtain ⟨v, hσ, hv⟩ := rp.rep.at_ i _ z
  have ev : v = .ref pa := hv
  subst ev
  have he0 : (pa, ds) ∈ μ1 ++ (pa, ds) :: μ2 := List.mem_append_right _ List.mem_cons_self
  have hp : pa ∈ Mu.ad (μ1 ++ (pa, ds) :: μ2) := List.mem_map_of_mem (f := (·.1)) he0
  obtain ⟨vs, h1, h2⟩ := rp.own _ he0
  have ex : Ex (hid (Mu.ad (μ1 ++ (pa, ds) :: μ2) ++ M) H) (hid (pa :: M) H) := hid_sub H fun a m => by
    rcases List.mem_cons.mp m with c | c
    · rw [c]; exact List.mem_append_left _ hp
    · exact List.mem_append_right _ c
  exact ⟨.ref pa, hσ, l.rn pa ds H ⟨rp.fin, rp.nb pa hp, fun a o q => ex _ _ (rp.ex a o q), vs, h1, RDs.ex ex _ _ h2⟩ h⟩
/-! ### for -/
def oFor (di : DI) (g : DG) (tb : OS) : OS := fun N δ μ => di δ (fun items => ∃ Pv : Nat → Dst → Mu → Prop, Pv 0 δ μ ∧
  (∀ i d δ' μ', items[i]? = some d → Pv i δ' μ' → g d δ' (fun δ2 => tb { N with nx := Pv (i + 1), ct := Pv (i + 1), bk := N.nx } δ2 μ')) ∧ ∀ δ' μ', Pv items.length δ' μ' → N.nx δ' μ') N.ex
theorem os_for {iter : Expr} {body : List Stmt} {di : DI} {g : DG} (hp : PassesOwn (model X.prog X.w) X.A X.env X.xe) (hc : X.calm = true) (hi : PDI X E tg iter di) (hg : PDG X tg g) (hb : PDBo X E body o1)
    (hs : ∀ x, foldedSetIterable iter X.env x = pure x := by intro _; rfl) : PDSo X E (.For tg iter body [] pos) (oFor di g o1) := by
  obtain ⟨wi, p1, q1⟩ := hi
  obtain ⟨tg', p2, q2⟩ := hg
  obtain ⟨tb, p3, q3⟩ := hb
  refine ⟨_, ps_for hp hc p1 p2 p3 hs, fun B M G H0 σ δ μ H D0 D1 rp h l => q1 B _ σ δ H _ _ _ rp.rep h (fun J items H1 t1 wk hk => ?_) (fun C H2 t q => l.ex C H2 (rp.fin2 t) q)⟩
  obtain ⟨Pv, h0, hst, hd⟩ := hk
  have rp1 := rp.stp t1
  have gg : Ex G (hid (μ.ad ++ M) H1) := rp1.ex
  have rp1' : RepG X.K B M (hid (μ.ad ++ M) H1) H0 H1 σ δ μ := ⟨rp1.pr, rp1.bm, rp1.bg, rp1.rep, rp1.nb, rp1.nd, rp1.own, fun _ _ q => q⟩
  refine ⟨fun i m σ' H' => i + m = items.length ∧ ∃ δ' μ', RepG X.K B M (hid (μ.ad ++ M) H1) H0 H' σ' δ' μ' ∧ Pv i δ' μ', ⟨items.length, by omega, δ, μ, rp1', h0⟩, fun i m σ' H' hW => ?_⟩
  obtain ⟨em, δ', μ', rp', hpv⟩ := hW
  obtain ⟨go, stop⟩ := wk (μ'.ad ++ M) H' rp'.ex rp'.rep.ok
  have l' := l.weak gg
  by_cases c : i = items.length
  · subst c
    exact .inl ⟨stop, l'.nx _ _ _ H' rp' (hd _ _ hpv)⟩
  · have hi : i < items.length := by omega
    obtain ⟨hg, hy⟩ := go i _ (List.getElem?_eq_getElem hi)
    refine .inr ⟨hg, fun σ2 H2 => ∃ δ2 μ2, RepG X.K B M (hid (μ.ad ++ M) H1) H0 H2 σ2 δ2 μ2 ∧ Pv (i + 1) δ2 μ2, fun σ2 H2 hN => ⟨m - 1, by omega, by omega, hN⟩, fun x H2 hyl => ?_⟩
    obtain ⟨ex2, rx⟩ := hy x H2 hyl
    have t3 : Stp X.K B (μ'.ad ++ M) H' H2 := .same ex2 rp'.rep.ok
    have rp3 := rp'.stp t3
    refine q2 B _ σ' δ' H2 x _ _ _ rp3.rep rx (hst i _ δ' μ' (List.getElem?_eq_getElem hi) hpv) (fun σ4 δ4 rp4 h4 => ?_)
    have rp5 : RepG X.K B M (hid (μ.ad ++ M) H1) H0 H2 σ4 δ4 μ' := rp3.back .refl rp4
    exact q3 B M _ H0 σ4 δ4 μ' H2 _ _ rp5 h4 ⟨fun σ5 δ5 μ5 H5 r5 h5 => ⟨δ5, μ5, r5, h5⟩, l'.rt, l'.rn, l'.ex, l'.nx, fun σ5 δ5 μ5 H5 r5 h5 => ⟨δ5, μ5, r5, h5⟩⟩
/-! ### a def that hands back a new list, or data -/
abbrev DSpN := List D → (D → Prop) → (List D → Prop) → (Addr → Prop) → Prop
def spN (K : PySem.W.Frag) (dsp : DSpN) : Sp := fun vs H Q E => ∃ B M ds k kn kx, Ok K B M H ∧ RDs K B (hid M H) ds vs ∧ dsp ds k kn kx ∧ (∀ v d H2, Stp K B M H H2 → RD K B (hid M H2) d v → k d → Q v H2) ∧
  (∀ p es H2, Stp K B M H H2 → p ∉ M → H p = none → (∃ ws, H2 p = some (.lst ws) ∧ RDs K B (hid (p :: M) H2) es ws) → kn es → Q (.ref p) H2) ∧ (∀ C H2, Stp K B M H H2 → kx C → E (.ref C) none H2)
end
end DL
namespace DL
open PySem PySem.Spec PyProof.Rows L2
section
variable {P : Program} {w : World} {K : PySem.W.Frag} {mg : Str → Option Value} {base : Heap}
theorem fn_N {x qual : Str} {st : Stmt} {f : Addr} {fd : FuncData} {N ps : List Str} {k : Nat} {dsp : DSpN} (F : Fun K x qual st f fd) (S : FnScope N ps (defScope st)) (hlen : ∀ ds k kn kx, dsp ds k kn kx → ds.length = ps.length)
    (hbody : ∀ (cdv : Value) (A : Around) (outer : List Env) (s : Shared) (H : Hp) (E : XK), Room k (A.deeper (envOfC qual (defScope st) s.heap.objs.size f cdv)) →
      ∃ t, PDBo (cxOf (L2.CX P w) P w K mg base N qual (defScope st) f cdv A outer s H E) E (defBody st) t ∧ ∀ ds k kn kx, dsp ds k kn kx → t { nx := fun _ _ => k .non, rt := k, rn := kn, ex := kx } (dstart N ds) []) : FnOk P w K mg base (L2.CX P w) (k + 1) f fd ps (spN K dsp) := by
  refine F.okX S (fun vs H Q E h => ?_) (fun cdv A outer s H vs Q E hr h => ?_)
  · obtain ⟨B, M, ds, k, kn, kx, _, r, hd, _⟩ := h
    rw [RDs.len r]; exact hlen _ _ _ _ hd
  · obtain ⟨t, ⟨ts, p, q⟩, ht⟩ := hbody cdv A outer s H E hr
    obtain ⟨B, M, ds, k, kn, kx, ok, r, hd, hq, hn, hx⟩ := h
    have rg : RepG K B M (hid M H) H H (L2.start N vs) (dstart N ds) [] := ⟨fun _ _ _ => rfl, fun b e => (by
      obtain ⟨dr, n, ns, w⟩ := ok.bag b e
      exact w.mem), fun b dr n ns e w => ⟨n, w⟩, rep_start ok r, fun p hp => absurd hp (List.not_mem_nil), List.nodup_nil, fun e he => absurd he (List.not_mem_nil), fun _ _ q => q⟩
    have toStp : ∀ H2, Fin K B M (hid M H) H H2 → Stp K B M H H2 := fun H2 f => ⟨f.ex, f.pr, f.bg⟩
    refine ⟨ts, p, q B M _ H _ _ [] H _ _ rg (ht ds k kn kx hd) ⟨fun σ δ μ H2 r h2 => hq .non .non H2 (toStp H2 r.fin) rfl h2, fun v d H2 f rd h2 => hq v d H2 (toStp H2 f) rd h2, fun p es H2 f h2 => ?_, fun C H2 f h2 => hx C H2 (toStp H2 f) h2, fun _ _ _ _ _ h => h.elim, fun _ _ _ _ _ h => h.elim⟩⟩
    refine hn p es H2 (toStp H2 f.fin) f.nb ?_ f.at_ h2
    cases e : H p with
    | none => rfl
    | some o => exact absurd List.mem_cons_self (hid_of (f.ng p o (hid_at f.nb e))).1
/-- such a def as one that hands back data -/
def toD (dsp : DSpN) : DSp := fun ds k kx => dsp ds k (fun es => k (.lst es)) kx
theorem spN_D {dsp : DSpN} {vs : List V} {H : Hp} {Q : VK} {E : XK} (h : spD K (toD dsp) vs H Q E) : spN K dsp vs H Q E := by
  obtain ⟨B, M, ds, k, kx, ok, r, hd, hq, hx⟩ := h
  refine ⟨B, M, ds, k, _, kx, ok, r, hd, hq, fun p es H2 t np hp hw h2 => ?_, hx⟩
  obtain ⟨ws, h3, h4⟩ := hw
  exact hq _ (.lst es) H2 t ⟨p, ws, rfl, hid_at np h3, RDs.ex (hid_sub H2 fun a m => List.mem_cons_of_mem _ m) _ _ h4⟩ h2
def DefN (P : Program) (w : World) (K : PySem.W.Frag) (mg : Str → Option Value) (base : Heap) (k : Nat) (x : Str) (ps : List Str) (dsp : DSpN) : Prop :=
  ∃ f fd, FnOk P w K mg base (L2.CX P w) k f fd ps (spN K dsp) ∧ mg x = some (.ref f) ∧ PySem.W.keepIn K (.ref f) = true ∧ Binds K fd ps []
theorem DefN.toDef {x : Str} {ps : List Str} {k : Nat} {dsp : DSpN} (d : DefN P w K mg base k x ps dsp) : Def P w K mg base k x ps (toD dsp) := by
  obtain ⟨f, fd, F, a, b, c⟩ := d
  exact ⟨f, fd, F.imp fun vs H Q E h => spN_D h, a, b, c⟩
theorem defN_mk {x : Str} {st : Stmt} {N ps : List Str} {k : Nat} {dsp : DSpN} (T : DefT K mg x st) (S : FnScope N ps (defScope st))
    (hb : ∀ (kV doc pm : Value) (an : Option Addr) (cdv ct : Value) (us : List Value), us.length = ps.length → bindArgs (PySem.W.fnOf x x (defArgs st) (defBody st) (defScope st) .none kV doc pm an cdv ct) ⟨us, []⟩ = pure (ps.zip us))
    (hlen : ∀ ds k kn kx, dsp ds k kn kx → ds.length = ps.length)
    (hbody : ∀ (f : Addr) (cdv : Value) (A : Around) (outer : List Env) (s : Shared) (H : Hp) (E : XK), Room k (A.deeper (envOfC x (defScope st) s.heap.objs.size f cdv)) →
      ∃ t, PDBo (cxOf (L2.CX P w) P w K mg base N x (defScope st) f cdv A outer s H E) E (defBody st) t ∧ ∀ ds k kn kx, dsp ds k kn kx → t { nx := fun _ _ => k .non, rt := k, rn := kn, ex := kx } (dstart N ds) []) :
    DefN P w K mg base (k + 1) x ps dsp := by
  obtain ⟨f, fd, F, hm⟩ := T
  exact ⟨f, fd, fn_N F S hlen (hbody f), hm, F.kp, F.binds hb⟩
/-- a def that uses private lists but hands back data -/
theorem defO_mk {x : Str} {st : Stmt} {N ps : List Str} {k : Nat} {dsp : DSp} (T : DefT K mg x st) (S : FnScope N ps (defScope st))
    (hb : ∀ (kV doc pm : Value) (an : Option Addr) (cdv ct : Value) (us : List Value), us.length = ps.length → bindArgs (PySem.W.fnOf x x (defArgs st) (defBody st) (defScope st) .none kV doc pm an cdv ct) ⟨us, []⟩ = pure (ps.zip us))
    (hlen : ∀ ds k kx, dsp ds k kx → ds.length = ps.length)
    (hbody : ∀ (f : Addr) (cdv : Value) (A : Around) (outer : List Env) (s : Shared) (H : Hp) (E : XK), Room k (A.deeper (envOfC x (defScope st) s.heap.objs.size f cdv)) →
      ∃ t, PDBo (cxOf (L2.CX P w) P w K mg base N x (defScope st) f cdv A outer s H E) E (defBody st) t ∧ ∀ ds k kx, dsp ds k kx → t { nx := fun _ _ => k .non, rt := k, rn := fun es => k (.lst es), ex := kx } (dstart N ds) []) :
    Def P w K mg base (k + 1) x ps dsp := by
  have h := defN_mk (dsp := fun ds k kn kx => dsp ds k kx ∧ kn = fun es => k (.lst es)) T S hb (fun ds k kn kx h => hlen ds k kx h.1) (fun f cdv A outer s H E hr => by
    obtain ⟨t, p, q⟩ := hbody f cdv A outer s H E hr
    exact ⟨t, p, fun ds k kn kx h => by rw [h.2]; exact q ds k kx h.1⟩)
  exact h.toDef.imp fun ds k kx h => ⟨h, rfl⟩
end
section
variable {X : Cx} {E : XK} {e : Expr} {es : List Expr} {das : DA} {pos : Pos}
/-- x = [e, ..], a list that will be changed -/
def oNewL (i : Nat) (da : DA) : OS := fun N δ μ => da δ (fun ds => ∀ p, p ∉ μ.ad → N.nx (δ.set i (some (.adr p))) ((p, ds) :: μ)) N.ex
/-- x = f(e, ..), a new list that will be changed -/
def oSetN (i : Nat) (dsp : DSpN) (da : DA) : OS := fun N δ μ => da δ (fun ds => dsp ds (fun _ => False) (fun es => ∀ p, p ∉ μ.ad → N.nx (δ.set i (some (.adr p))) ((p, es) :: μ)) N.ex) N.ex
theorem RepG.newN {K : PySem.W.Frag} {B : Option Addr} {M : List Addr} {G H0 H H2 : Hp} {σ : L2.St} {δ : Dst} {μ : Mu} {i : Nat} {p : Addr} {es : List D} (r : RepG K B M G H0 H σ δ μ) (t : Stp K B (μ.ad ++ M) H H2) (np : p ∉ μ.ad ++ M) (hp : H p = none) (hw : ∃ ws, H2 p = some (.lst ws) ∧ RDs K B (hid (p :: (μ.ad ++ M)) H2) es ws) :
    RepG K B M G H0 H2 (σ.set i (some (.ref p))) (δ.set i (some (.adr p))) ((p, es) :: μ) := by
  have npM : p ∉ M := fun m => np (List.mem_append_right _ m)
  have npP : p ∉ μ.ad := fun m => np (List.mem_append_left _ m)
  have rs := r.stp t
  obtain ⟨ws, h1, h2⟩ := hw
  have ex : Ex (hid (μ.ad ++ M) H) (hid (p :: (μ.ad ++ M)) H2) := fun a u q => by
    have h3 := hid_of q
    have nd : a ≠ p := ne_of_none h3.2 hp
    exact hid_at (fun m => by
      rcases List.mem_cons.mp m with c | c
      · exact nd c
      · exact h3.1 c) (hid_of (t.ex a u q)).2
  have ok : Ok K B (p :: (μ.ad ++ M)) H2 := ⟨fun a m => by
    rcases List.mem_cons.mp m with c | c
    · rw [c]; exact ⟨_, h1⟩
    · exact rs.rep.ok.all a c, fun b e => by
    obtain ⟨dr, n, ns, w⟩ := r.rep.ok.bag b e
    obtain ⟨n', w'⟩ := t.bg b dr n ns e w
    exact ⟨dr, n', ns, List.mem_cons_of_mem _ w.mem, w'.at_, ex _ _ w.dr_, w.len, w.rng⟩⟩
  refine ⟨rs.pr, r.bm, fun b dr n ns e w => ?_, ?_, ?_, ?_, ?_, fun a o q => ex _ _ (r.ex a o q)⟩
  · obtain ⟨n1, w1⟩ := r.bg b dr n ns e w
    obtain ⟨n', w'⟩ := t.bg b dr n1 ns e w1
    exact ⟨n', List.mem_cons_of_mem _ w1.mem, w'.at_, ex _ _ w1.dr_, w1.len, w1.rng⟩
  · have base : Rep K B (p :: (μ.ad ++ M)) H2 σ δ := ⟨ok, r.rep.len, fun j d hj => by
      obtain ⟨v, h1, h2⟩ := r.rep.at_ j d hj
      exact ⟨v, h1, RD.ex ex _ _ h2⟩⟩
    exact base.set (d := .adr p) (v := .ref p) rfl
  · intro q hq
    rcases List.mem_cons.mp hq with c | c
    · rw [c]; exact npM
    · exact r.nb q c
  · exact List.nodup_cons.mpr ⟨npP, r.nd⟩
  · intro e he
    rcases List.mem_cons.mp he with c | c
    · rw [c]; exact ⟨ws, h1, h2⟩
    · obtain ⟨vs, h5, h6⟩ := r.own e c
      have he1 : e.1 ∈ μ.ad := List.mem_map_of_mem c
      exact ⟨vs, (t.pr e.1 (List.mem_append_left _ he1) (r.neb he1)).trans h5, RDs.ex ex _ _ h6⟩
theorem os_newL {i : Nat} {x : Str} {pos' p2 : Pos} (hN : X.N.Nodup) (hi : X.N[i]? = some x) (hx : Loc X.env.scope x) (ha : PDL X E es das) (hl : es.length ≤ 1000 := by decide) (hs : swapsWith (.List es p2) (some (.Name x pos')) pos.line X.env = pure false := by rfl) (hf : X.fn x = true ∨ X.env.scope.names.lookup x = some .local := by first | exact .inl rfl | exact .inr rfl | assumption) :
    PDSo X E (.Assign [.Name x pos'] (.List es p2) pos) (oNewL i das) := by
  obtain ⟨ta, p1, s1⟩ := ha
  refine ⟨_, ps_set hN hi hx (pe_lst p1) hs hf, fun B M G H0 σ δ μ H D0 D1 rp h l => s1 B _ σ δ H _ _ _ rp.rep h (fun vs ds H1 hn t1 r1 q1 => ⟨line1000 (by rw [RDs.len r1, hn]; exact hl), fun p hp => ?_⟩) (fun C H2 t h2 => l.ex C H2 (rp.fin2 t) h2)⟩
  have rp1 := rp.stp t1
  have np := rp1.rep.ok.fresh hp
  have t2 : Stp X.K B (μ.ad ++ M) H1 (upd H1 p (.lst vs)) := .new rp1.rep.ok hp
  exact l.nx _ _ _ _ (rp1.newN t2 np hp ⟨vs, upd_same, RDs.ex (hid_new hp) _ _ r1⟩) (q1 p fun m => np (List.mem_append_left _ m))
theorem os_setN {i k j : Nat} {ps : List Str} {dsp : DSpN} {x f : Str} {p pos' cpos : Pos} (hx0 : Passes (CXL X) X E) (hr : Room j X.A) (D : DefN X.prog X.w X.K X.mg X.base k f ps dsp) (hN : X.N.Nodup) (hi : X.N[i]? = some x) (hx : Loc X.env.scope x) (ha : PDL X E (e :: es) das) (hkj : k ≤ j := by decide)
    (hg : Gl X f := by rfl) (hdb : (f == ("__debug__" : Str)) = false := by decide) (he : starEach (e :: es) X.env = (false, eval e X.env) :: starEach es X.env := by rfl) (hpl : (backTo cpos (starEach es X.env)).any (·.1) = false := by rfl)
    (hs : swapsWith (.Call (.Name f p) (e :: es) [] cpos) (some (.Name x pos')) pos.line X.env = pure false := by rfl) (hf : X.fn x = true ∨ X.env.scope.names.lookup x = some .local := by first | exact .inl rfl | exact .inr rfl | assumption) :
    PDSo X E (.Assign [.Name x pos'] (.Call (.Name f p) (e :: es) [] cpos) pos) (oSetN i dsp das) := by
  obtain ⟨fa, fd, F, hm, hk, hb⟩ := D
  obtain ⟨ta, p1, s1⟩ := ha
  refine ⟨_, ps_set hN hi hx (pe_call (F.mono hkj) hr hg hm hk hb .nil hx0 p1 hdb he hpl) hs hf, fun B M G H0 σ δ μ H D0 D1 rp h l => s1 B _ σ δ H _ _ _ rp.rep h (fun vs ds H1 _ t1 r1 q1 => ?_) (fun C H2 t h2 => l.ex C H2 (rp.fin2 t) h2)⟩
  have rp1 := rp.stp t1
  refine ⟨B, μ.ad ++ M, ds, _, _, _, rp1.rep.ok, by rw [List.append_nil]; exact r1, q1, fun _ _ _ _ _ h => h.elim, fun p es H2 t2 np hp hw h2 => ?_, fun C H2 t2 h2 => l.ex C H2 (rp1.fin2 t2) h2⟩
  exact l.nx _ _ _ H2 (rp1.newN t2 np hp hw) (h2 p fun m => np (List.mem_append_left _ m))
end
end DL
namespace DL
open PySem PySem.Spec PyProof.Rows L2
/-! ### a written tuple of texts, at the top of the text -/
def CTup (K : PySem.W.Frag) (mg : Str → Option Value) (x : Str) (ss : List Str) : Prop := ∃ p, mg x = some (.ref p) ∧ ∃ (o : Obj) (its : Array Value) (n : Nat), K.lookup p = some o ∧ o.dict = none ∧ o.cls = .type "tuple" ∧ o.data = .seq its n ∧ its.size ≤ sizeLine ∧ Vals (ss.map V.str) its.toList
theorem RDs.strs {K : PySem.W.Frag} {B : Option Addr} {G : Hp} : ∀ (ss : List Str), RDs K B G (ss.map D.str) (ss.map V.str)
  | [] => rfl
  | n :: ns => ⟨_, _, rfl, rfl, RDs.strs ns⟩
section
variable {X : Cx} {E : XK} {pos : Pos}
theorem d_ctup {x : Str} {ss : List Str} (hg : Gl X x) (c : CTup X.K X.mg x ss) (hd : (x == ("__debug__" : Str)) = false := by decide) : PD X E (.Name x pos) (dC (.tup (ss.map D.str))) := by
  obtain ⟨p, hm, o, its, n, h1, h0, h2, h3, h4, h5⟩ := c
  exact d_gtup (xs := ss.map V.str) hg ⟨hm, fun H => ⟨.inr ⟨o, its, n, h1, h2, h3, h4, h5⟩, .inr ⟨o, h1, h0⟩⟩, fun B G => RDs.strs ss⟩ hd
end
end DL
/-! Rules of tuples that the layer lacks: t * 0, t * 1, t[::-1]; x in a list, deep. -/
namespace DL
open PySem PySem.Spec PyProof.Rows L2
/-! ### t * n -/
section
variable {X : Cx} {E : XK} {a b e : Expr} {da db de : DE} {pos : Pos}
theorem RDs.repl {K : PySem.W.Frag} {B : Option Addr} {G : Hp} {ds : List D} {xs : List V} (r : RDs K B G ds xs) : ∀ n, RDs K B G (List.replicate n ds).flatten (List.replicate n xs).flatten
  | 0 => rfl
  | n + 1 => by
    rw [List.replicate_succ, List.replicate_succ, List.flatten_cons, List.flatten_cons]
    exact RDs.app r (RDs.repl r n)
def dRep : DR := fun x y k => match x, y with
  | .tup ds, .int n => (ds ≠ [] ∧ 0 ≤ n ∧ n ≤ 1000 ∧ ds.length ≤ 1000) ∧ k (.tup (List.replicate n.toNat ds).flatten)
  | _, _ => False
theorem sr_rep {K : PySem.W.Frag} : SR K (rRep K) dRep := by
  intro B M H x y v w k Q ok hx hy hd hq
  cases x <;> try exact hd.elim
  cases y <;> try exact hd.elim
  rename_i ds n
  obtain ⟨p, xs, rfl, e2, e3⟩ := hx
  obtain ⟨⟨h1, h2, h3, h4⟩, h5⟩ := hd
  refine ⟨p, n, xs, rfl, hy, SqD.un e2, fun e => h1 ?_, h2, h3, by rw [RDs.len e3]; exact h4, fun c => ?_, fun c l ob hl hob => ?_⟩
  · have := RDs.len e3
    rw [e] at this
    exact List.eq_nil_of_length_eq_zero this.symm
  · subst c
    refine hq _ (.tup (List.replicate (1 : Int).toNat ds).flatten) H .refl ⟨p, xs, rfl, e2, ?_⟩ h5
    show RDs K B _ (List.replicate 1 ds).flatten xs
    rw [List.replicate_one, List.flatten_singleton]; exact e3
  · have t4 : Stp K B M H (upd H l (.frz ob (.tup (List.replicate n.toNat xs).flatten))) := .new ok hl
    exact hq _ (.tup (List.replicate n.toNat ds).flatten) _ t4 ⟨l, _, rfl, new_tup ok hl hob, RDs.ex t4.ex _ _ (RDs.repl e3 _)⟩ h5
theorem d_rep (ha : PD X E a da) (hb : PD X E b db) : PD X E (.BinOp a .Mult b pos) (dOp dRep da db) := d_op op_rep sr_rep ha hb
/-! ### x in l, deep -/
@[irreducible] def dInD (neg : Bool) : DR := fun x y k => match y with
  | .lst ds => x.shp = true ∧ (D.lst ds).shp = true ∧ k (.bl (if neg then !(ds.any fun z => eqD z x) else ds.any fun z => eqD z x))
  | _ => False
theorem pys_any (x : D) : ∀ ds : List D, (pys ds).any (fun z => PyData.eqv z x.py) = ds.any fun z => eqD z x
  | [] => rfl
  | d :: ds => by
    show (PyData.eqv d.py x.py || (pys ds).any (fun z => PyData.eqv z x.py)) = (eqD d x || ds.any fun z => eqD z x)
    rw [pys_any x ds]; unfold eqD; rfl
theorem sr_inD {K : PySem.W.Frag} : SR K (rInD K) (dInD false) := by
  intro B M H x y v w k Q ok hx hy hd hq
  unfold dInD at hd
  cases y <;> try exact hd.elim
  rename_i ds
  obtain ⟨h1, h2, h3⟩ := hd
  have s1 := Bool.and_eq_true_iff.mp h1
  have s2 := Bool.and_eq_true_iff.mp h2
  exact ⟨x.py, pys ds, RD.dp x v s1.1 hx, RD.dp (.lst ds) w s2.1 hy, s1.2, s2.2, hq _ _ H .refl (by rw [pys_any]; exact rfl) h3⟩
theorem sr_notInD {K : PySem.W.Frag} : SR K (rNotInD K) (dInD true) := by
  intro B M H x y v w k Q ok hx hy hd hq
  unfold dInD at hd
  cases y <;> try exact hd.elim
  rename_i ds
  obtain ⟨h1, h2, h3⟩ := hd
  have s1 := Bool.and_eq_true_iff.mp h1
  have s2 := Bool.and_eq_true_iff.mp h2
  exact ⟨x.py, pys ds, RD.dp x v s1.1 hx, RD.dp (.lst ds) w s2.1 hy, s1.2, s2.2, hq _ _ H .refl (by rw [pys_any]; exact rfl) h3⟩
theorem units5 {k : Nat} {A : Around} (r : Room k A) : A.units + 65 < cLine := by have := r.un; omega
theorem d_inD (hu : X.A.units + 65 < cLine) (ha : PD X E a da) (hb : PD X E b db) (hm : behindInMarks .In b = false := by with_unfolding_all rfl) : PD X E (.Compare a [.In] [b] pos) (dOp (dInD false) da db) := d_cmp (op_inD hu) sr_inD hm ha hb
theorem d_notInD (hu : X.A.units + 65 < cLine) (ha : PD X E a da) (hb : PD X E b db) (hm : behindInMarks .NotIn b = false := by with_unfolding_all rfl) : PD X E (.Compare a [.NotIn] [b] pos) (dOp (dInD true) da db) := d_cmp (op_notInD hu) sr_notInD hm ha hb
theorem t_inD (hu : X.A.units + 65 < cLine) (ha : PD X E a da) (hb : PD X E b db) (hm : behindInMarks .In b = false := by with_unfolding_all rfl) : PDT X E (.Compare a [.In] [b] pos) (dB (dOp (dInD false) da db)) := t_cmp (op_inD hu) sr_inD hm ha hb
theorem t_notInD (hu : X.A.units + 65 < cLine) (ha : PD X E a da) (hb : PD X E b db) (hm : behindInMarks .NotIn b = false := by with_unfolding_all rfl) : PDT X E (.Compare a [.NotIn] [b] pos) (dB (dOp (dInD true) da db)) := t_cmp (op_notInD hu) sr_notInD hm ha hb
end
end DL
/-! t.count(text), t[::-1], list < list, range with three arguments. -/
namespace DL
open PySem PySem.Spec PyProof.Rows L2
/-! ### t[::-1] -/
section
variable {prog : Program} {w : World} {A : Around} {E : Value → Shared → Prop} {s : Shared}
theorem sliceApplied_rev {sl : Addr} {vk : Value} {n : Nat} {Q : Int × Int × Nat → Shared → Prop} (hs : s.heap.IsSliceOf sl .none .none vk) (pk : IsPart vk (some (-1)))
    (h : Q (((n : Int) - 1), -1, n) s) : wpAny (model prog w) A (Builtin.Slice.sliceApplied (.ref sl) (pure (n : Int))) Q E s := by
  obtain ⟨os, hos, hcs, hds⟩ := id hs
  unfold Builtin.Slice.sliceApplied Builtin.Slice.sliceFields
  refine wpAny_bind (wpAny_bind (wpAny_field hos hds (x := .none) rfl (wpAny_bind (wpAny_field hos hds (x := .none) rfl (wpAny_bind (wpAny_field hos hds (x := vk) rfl (wpAny_pure ?_)))))))
  refine wpAny_bind (HT.slicePart_ pk ?_)
  show wpAny _ _ (if ((-1 : Int) == 0) = true then _ else _) _ _ s
  rw [if_neg (by decide)]
  refine wpAny_bind (HT.slicePart_ .none (wpAny_bind (HT.slicePart_ .none (wpAny_bind (wpAny_pure ?_)))))
  show wpAny _ _ (match Builtin.Slice.sliceAdjust none none (-1) (n : Int) with | (lo, hi) => pure (lo, (-1 : Int), Builtin.Slice.slicePlaces lo hi (-1))) _ _ s
  have e : Builtin.Slice.sliceAdjust none none (-1) (n : Int) = ((n : Int) - 1, -1) := rfl
  rw [e]
  show wpAny _ _ (pure ((n : Int) - 1, (-1 : Int), Builtin.Slice.slicePlaces ((n : Int) - 1) (-1) (-1))) _ _ s
  have e2 : Builtin.Slice.slicePlaces ((n : Int) - 1) (-1) (-1) = n := by
    unfold Builtin.Slice.slicePlaces
    rw [if_neg (by decide)]
    by_cases c : (n : Int) - 1 > -1
    · rw [if_pos c, show (- -1 : Int) = 1 by decide, Int.ediv_one]; omega
    · rw [if_neg c]; omega
  rw [e2]
  exact wpAny_pure h
theorem fm_congr {α β : Type} {f g : α → Option β} : ∀ {l : List α}, (∀ x ∈ l, f x = g x) → l.filterMap f = l.filterMap g
  | [], _ => rfl
  | a :: l, h => by
    rw [List.filterMap_cons, List.filterMap_cons, h a List.mem_cons_self, fm_congr fun x hx => h x (List.mem_cons_of_mem _ hx)]
theorem pick_rev (xs : Array Value) : ((List.range xs.size).filterMap fun (m : Nat) => xs[(((xs.size : Int) - 1) + (m : Int) * (-1)).toNat]?).toArray = xs.toList.reverse.toArray := by
  congr 1
  have e : (List.range xs.size).filterMap (fun (m : Nat) => xs[(((xs.size : Int) - 1) + (m : Int) * (-1)).toNat]?) = ((List.range xs.size).map (fun k => xs.size - 1 - k)).filterMap (xs[·]?) := by
    rw [List.filterMap_map]
    refine fm_congr fun m hm => ?_
    have := List.mem_range.mp hm
    show xs[(((xs.size : Int) - 1) + (m : Int) * (-1)).toNat]? = xs[xs.size - 1 - m]?
    congr 1
    omega
  rw [e, PySem.W.krv_range, List.filterMap_reverse, PySem.W.krv_all]
theorem getItem_tuple_rev {t sl : Addr} {items : Array Value} {vk : Value} {Q : Value → Shared → Prop} (ht : IsTup s.heap t items) (hs : s.heap.IsSliceOf sl .none .none vk) (pk : IsPart vk (some (-1)))
    (h : Q (.ref s.heap.objs.size) { s with heap := s.heap.push { cls := .type "tuple", data := .seq items.toList.reverse.toArray } })
    (hsz : items.size ≤ sizeLine) : wpAny (model prog w) A (getItem (.ref t) (.ref sl)) Q E s := by
  have htake : sizeOk (.seq items.toList.reverse.toArray) := by
    show items.toList.reverse.toArray.size ≤ sizeLine
    rw [List.size_toArray, List.length_reverse, Array.length_toList]
    exact hsz
  obtain ⟨os, hos, hcs, hds⟩ := id hs
  have hTs : s.TypeIs (.ref sl) "slice" := ⟨os, hos, hcs⟩
  unfold getItem
  try with_reducible refine wpAny_holding ?_
  first | refine wpAny_bind (wpAny_pure ?_) | skip
  refine wpAny_bind (wpAny_sequenceKey ht.typeIs (by decide) ?_)
  refine wpAny_bind (wpAny_callSpecial?_slot (name := Str.ofString "__getitem__") ht.typeIs PyProof.Rows.slot_tuple_getitem
    (wpAny_call_entry PyProof.Rows.slot_tuple_getitem ht.typeIs entry_tuple_getitem ?_ (args_tuple_getitem _ _)))
  show wpAny _ _ (Builtin.Tuple.tupleItemsOf (.ref t) >>= _) _ _ s
  refine wpAny_bind (tupleItemsOf_ ht ?_)
  refine wpAny_bind (wpAny_typeOf hTs ?_)
  rw [if_pos (by decide)]
  refine wpAny_bind (sliceApplied_rev hs pk ?_)
  have hno : ¬ ((((items.size : Int) - 1) == 0 && (-1 : Int) == 1 && items.size == items.size) = true) := by simp
  show wpAny _ _ (if (((items.size : Int) - 1) == 0 && (-1 : Int) == 1 && items.size == items.size) = true then _ else _) _ _ s
  rw [if_neg hno, pick_rev]
  first
    | exact wpAny_bind (m := Builtin.Tuple.tupleExact _) (wpAny_newObj_type (wpAny_pure ⟨_, rfl, wpAny_pure h⟩) htake)
    | exact wpAny_bind (m := Builtin.Tuple.tupleExact _) (wpAny_newObj_type (wpAny_bind (wpAny_pure (wpAny_pure ⟨_, rfl, wpAny_pure h⟩))) htake)
    | exact wpAny_bind (wpAny_bind (m := Builtin.Tuple.tupleExact _) (wpAny_newObj_type (wpAny_pure (wpAny_pure ⟨_, rfl, wpAny_pure h⟩)) htake))
    | exact wpAny_bind (wpAny_bind (m := Builtin.Tuple.tupleExact _) (wpAny_newObj_type (wpAny_pure ⟨_, rfl, wpAny_pure h⟩) htake))
end
section
variable {X : Cx} {E : XK} {a b e tg : Expr} {da db dc de : DE} {te : TE} {pos : Pos}
def rRev (K : PySem.W.Frag) : V → Hp → VK → Prop := fun x H Q => ∃ a xs, x = .ref a ∧ SqT K H a xs ∧ NewT H xs.reverse Q
def tRev (K : PySem.W.Frag) (te : TE) : TE := fun σ H Q => te σ H fun x H1 => rRev K x H1 Q
theorem Vals_rev : ∀ {xs : List V} {vs : List Value}, Vals xs vs → Vals xs.reverse vs.reverse
  | _, _, .nil => Paired.nil
  | _, _, .cons r h => by
    rw [List.reverse_cons, List.reverse_cons]
    exact (Vals_rev h).append (Paired.cons r Paired.nil)
theorem pe_rev {p1 p2 p3 : Pos} {j : Nat} (he : PE X e te) : PE X (.Subscript e (.Slice none none (some (.UnaryOp .USub (.Constant (.int 1) j p1) p3)) p2) pos) (tRev X.K te) := by
  refine ⟨fun pins s σ H Q I h => ?_⟩
  refine Subscript_ (thn (he.run pins s σ H _ I h) fun v s1 ⟨x, H1, I1, r1, q1⟩ => ?_)
  refine wpAny_Slice ?_
  rw [evalPart_none]
  refine wpAny_pure ?_
  refine wpAny_pure ?_
  refine thn ((po_some (pe_un un_neg (pe_int (X := X) (i := 1) (j := j) (pos := p1)) (pos := p3))).run pins s1 σ H1 (fun o H2 => o = some (-1) ∧ rRev X.K x H2 Q) I1 ?_) fun vk s3 ⟨o, H3, I3, pk, ek, q3⟩ => ?_
  · exact ⟨1, rfl, -1, rfl, rfl, q1⟩
  subst ek
  have I4 : Inv X pins σ H3 { s3 with heap := s3.heap.push { cls := .type "slice", data := .fields #[.none, .none, vk] } } := I3.kept (t' := s3.toks) fun b ob q => Heap.get?_push_of_some _ q
  obtain ⟨a, xs, rfl, hx, q2⟩ := q3
  cases r1
  obtain ⟨vs, r, ht, hz⟩ := I4.tuple hx
  have hl : vs.toArray.size = xs.length := by rw [List.size_toArray]; exact r.length.symm
  refine tail_any (ops := [.ref a, .ref s3.heap.objs.size]) ht.typeIs PyProof.Rows.slot_tuple_getitem.lookup ?_ (by with_unfolding_all rfl)
  refine getItem_tuple_rev ht (Heap.IsSliceOf.new ..) pk ?_ (by rw [hl]; exact hz)
  exact lay_tup I4 (by rw [List.length_reverse]; exact hz) (Vals_rev r) q2
def dRev (da : DE) : DE := fun δ k kx => da δ (fun d => match d with
  | .tup ds => k (.tup ds.reverse)
  | _ => False) kx
theorem se_rev {K : PySem.W.Frag} (s1 : SE K E te de) : SE K E (tRev K te) (dRev de) := fun B M σ δ H k kx Q rp h hq hx => s1 B M σ δ H _ kx _ rp h (fun v x H1 t1 r1 q1 => by
  cases x <;> try exact q1.elim
  rename_i ds
  obtain ⟨a, xs, rfl, e2, e3⟩ := r1
  refine ⟨a, xs, rfl, SqD.un e2, fun p ob hp hob => ?_⟩
  have ok := t1.ok rp.ok
  have t4 : Stp K B M H1 (upd H1 p (.frz ob (.tup xs.reverse))) := .new ok hp
  exact hq _ (.tup ds.reverse) _ (t1.trans t4) ⟨p, _, rfl, new_tup ok hp hob, RDs.ex t4.ex _ _ (RDs.rev e3)⟩ q1) hx
theorem d_rev {p1 p2 p3 : Pos} {j : Nat} : PD X E e de → PD X E (.Subscript e (.Slice none none (some (.UnaryOp .USub (.Constant (.int 1) j p1) p3)) p2) pos) (dRev de)
  | ⟨_, h, s⟩ => ⟨_, pe_rev h, se_rev s⟩
/-! ### t.count(x) -/
def cntS (t : Str) (ss : List Str) : Nat := ss.countP (fun s => s.cps.toList == t.cps.toList)
@[irreducible] def dCnt : DR := fun x y k => match x, y with
  | .tup ds, .str t => ∃ ss : List Str, ds = ss.map D.str ∧ k (.int (cntS t ss : Nat))
  | _, _ => False
theorem RDs.of_strs {K : PySem.W.Frag} {B : Option Addr} {G : Hp} : ∀ (ns : List Str) (xs : List V), RDs K B G (ns.map D.str) xs → xs = ns.map V.str
  | [], _, h => h
  | n :: ns, _, ⟨y, ys, e1, e2, e3⟩ => by
    rw [e1, show y = V.str n from e2, RDs.of_strs ns ys e3]; rfl
theorem SqD.unN {K : PySem.W.Frag} {M : List Addr} {H : Hp} {a : Addr} {xs : List V} (h : SqD K (hid M H) a xs) : SqD K H a xs := SqD.ex (hid_ex M H) h
theorem se_cnt {K : PySem.W.Frag} {ta tb : TE} (s1 : SE K E ta da) (s2 : SE K E tb db) (hn : ∀ δ k kx, db δ k kx → ∃ t, k (.str t)) : SE K E (tMG (tyTup K) (rCntS K) ta (tCons tb tNil)) (dOp dCnt da db) := fun B M σ δ H k kx Q rp h hq hx => s1 B M σ δ H _ kx _ rp h (fun v x H1 t1 r1 q1 => by
  unfold dCnt at q1
  cases x with
  | tup ds =>
    obtain ⟨a, xs, rfl, e2, e3⟩ := r1
    refine ⟨⟨a, xs, rfl, e2.unN.1, e2.unN.2⟩, ?_⟩
    refine s2 B M σ δ H1 _ kx _ (rp.stp t1) q1 (fun w y H2 t2 r2 q2 => ?_) (fun C H2 t2 q2 => hx C H2 (t1.trans t2) q2)
    cases y <;> try exact q2.elim
    rename_i t
    obtain ⟨ss, rfl, q2⟩ := q2
    have e := RDs.of_strs ss xs e3
    subst e
    exact ⟨a, ss, t, rfl, by rw [show w = .str t from r2], SqD.un (SqD.ex t2.ex e2), hq _ (.int (cntS t ss : Nat)) H2 (t1.trans t2) rfl q2⟩
  | _ => exact (hn _ _ _ q1).elim fun _ q => q.elim) hx
theorem d_cnt {t : Str} {j : Nat} {p apos : Pos} (ha : PD X E a da) (hbase : attributeBase a "count" X.env (eval a X.env) = eval a X.env := by rfl)
    (hfew : ((backTo pos (starEach [.Constant (.str t) j p] X.env)).all (fun x => !x.1) && (backToKw pos (keywordEach [] X.env)).all (fun x => x.1.isSome)
      && decide (([.Constant (.str t) j p] : List Expr).length + ([] : List Keyword).length + (if ([] : List Keyword).isEmpty then 0 else 1) < 30)) = true := by rfl)
    (hline : (apos.endLine == pos.line) = true := by rfl) (hs : starEach [.Constant (.str t) j p] X.env = (false, eval (.Constant (.str t) j p) X.env) :: starEach [] X.env := by rfl) (hplain : (backTo pos (starEach [] X.env)).any (·.1) = false := by rfl) :
    PD X E (.Call (.Attribute a "count" apos) [.Constant (.str t) j p] [] pos) (dOp dCnt da (dC (.str t))) := by
  obtain ⟨_, h1, s1⟩ := ha
  exact ⟨_, pe_mG ty_tup PySem.F.plainAttrs_tuple PySem.F.slot_tuple_count PySem.F.type_tuple_count mt_tcount h1 (pa_cons pe_str pa_nil hs) hbase hfew hline hs hplain, se_cnt s1 se_str (fun _ _ _ h => ⟨_, h⟩)⟩
/-! ### list < list -/
def rLtD (K : PySem.W.Frag) : R2 := fun x y H Q => ∃ d e, Dp K H x (.list d) ∧ Dp K H y (.list e) ∧ PySem.W.alikeAll d e = true ∧ PyData.depth (.list d) ≤ 64 ∧ Q (.bl (PySem.W.dataLt (.list d) (.list e))) H
theorem op_ltD (hu : X.A.units + 64 < cLine) : OpR X (compareOp .Lt) (rLtD X.K) := by
  intro pins s σ H x y v u Q I rx ry h
  obtain ⟨d, e, hd, he, al, dp, q⟩ := h
  obtain ⟨as, r1⟩ := Dp.reads I (.list d) x v hd rx
  obtain ⟨bs, r2⟩ := Dp.reads I (.list e) y u he ry
  refine PySem.W.rcLt_alike (.list d) (.list e) X.A s v u as bs r1 r2 (by rw [PySem.W.alike]; exact al) (fun z => nomatch z) ?_ _ _ _ _ ⟨.bl _, H, I, rfl, q⟩
  have : min (PyData.depth (.list d)) (PyData.depth (.list e)) ≤ 64 := Nat.le_trans (Nat.min_le_left _ _) dp
  omega
/-- lists of truths: the first that differ -/
def ltBs : List Bool → List Bool → Bool
  | [], [] => false
  | [], _ :: _ => true
  | _ :: _, [] => false
  | a :: as, b :: bs => if a = b then ltBs as bs else !a
@[irreducible] def dLtB : DR := fun x y k => ∃ as bs : List Bool, x = .lst (as.map D.bl) ∧ y = .lst (bs.map D.bl) ∧ k (.bl (ltBs as bs))
theorem alike_bls : ∀ (as bs : List Bool), PySem.W.alikeAll (pys (as.map D.bl)) (pys (bs.map D.bl)) = true
  | [], [] => by simp [pys, PySem.W.alikeAll]
  | [], _ :: _ => by simp [pys, PySem.W.alikeAll]
  | _ :: _, [] => by simp [pys, PySem.W.alikeAll]
  | a :: as, b :: bs => by
    have := alike_bls as bs
    simp [pys, PySem.W.alikeAll, D.py, PySem.W.alike, this]
theorem lt_bls : ∀ (as bs : List Bool), PyProof.Rows.lexLt itemOrd (PySem.W.keyToksAll (pys (as.map D.bl))) (PySem.W.keyToksAll (pys (bs.map D.bl))) = ltBs as bs
  | [], [] => by decide +kernel
  | [], b :: bs => by
    show PyProof.Rows.lexLt itemOrd (PySem.W.keyToksAll []) (PySem.W.keyToksAll ((D.bl b).py :: pys (bs.map D.bl))) = true
    rw [PySem.W.toks_all_cons, show PySem.W.keyToksAll [] = [Sum.inl 0] by simp [PySem.W.keyToksAll], PySem.W.lex_atom (by simp), PySem.W.lex_one]; decide
  | a :: as, [] => by
    show PyProof.Rows.lexLt itemOrd (PySem.W.keyToksAll ((D.bl a).py :: pys (as.map D.bl))) (PySem.W.keyToksAll []) = false
    rw [PySem.W.toks_all_cons, show PySem.W.keyToksAll [] = [Sum.inl 0] by simp [PySem.W.keyToksAll], PySem.W.lex_atom (by simp), PySem.W.lex_one]; decide
  | a :: as, b :: bs => by
    have ih := lt_bls as bs
    show PyProof.Rows.lexLt itemOrd (PySem.W.keyToksAll ((PyData.bool a) :: pys (as.map D.bl))) (PySem.W.keyToksAll ((PyData.bool b) :: pys (bs.map D.bl))) = if a = b then ltBs as bs else !a
    have al : PySem.W.alike (.bool a) (.bool b) = true := by simp [PySem.W.alike]
    by_cases c : a = b
    · rw [if_pos c, PySem.W.dataLt_all_yes al (by simp [PyData.eqv, c]), ih]
    · rw [if_neg c, PySem.W.dataLt_all_no al (by cases a <;> cases b <;> simp_all [PyData.eqv]), PySem.W.dataLt_bool]
      cases a <;> cases b <;> first | (exact absurd rfl c) | rfl
theorem bls_plain (bs : List Bool) : plains (bs.map D.bl) = true := by
  induction bs with
  | nil => rfl
  | cons b bs ih => simp [plains, D.plain, ih]
theorem bls_depth (bs : List Bool) : PyData.depthAll (pys (bs.map D.bl)) = 0 := by
  induction bs with
  | nil => simp [pys, PyData.depthAll]
  | cons b bs ih => simp [pys, PyData.depthAll, D.py, PyData.depth, ih]
theorem sr_ltB {K : PySem.W.Frag} : SR K (rLtD K) dLtB := fun B M H x y v w k Q ok hx hy hd hq => by
  unfold dLtB at hd
  obtain ⟨as, bs, rfl, rfl, q⟩ := hd
  refine ⟨pys (as.map D.bl), pys (bs.map D.bl), RD.dp (.lst (as.map D.bl)) v (bls_plain as) hx, RD.dp (.lst (bs.map D.bl)) w (bls_plain bs) hy, alike_bls as bs, ?_, hq _ (.bl (ltBs as bs)) H .refl ?_ q⟩
  · simp only [PyData.depth, bls_depth]; decide
  · rw [PySem.W.dataLt_list, lt_bls]; exact rfl
theorem ltB_of {as bs : List Bool} {k : D → Prop} (h : k (.bl (ltBs as bs))) : dLtB (.lst (as.map D.bl)) (.lst (bs.map D.bl)) k := by
  unfold dLtB
  exact ⟨as, bs, rfl, rfl, h⟩
theorem d_ltB (hu : X.A.units + 64 < cLine) (ha : PD X E a da) (hb : PD X E b db) : PD X E (.Compare a [.Lt] [b] pos) (dOp dLtB da db) := d_cmp (op_ltD hu) sr_ltB (nomark _) ha hb
theorem t_ltB (hu : X.A.units + 64 < cLine) (ha : PD X E a da) (hb : PD X E b db) : PDT X E (.Compare a [.Lt] [b] pos) (dB (dOp dLtB da db)) := t_cmp (op_ltD hu) sr_ltB (nomark _) ha hb
/-! ### range(a, b, -1) -/
def dnD (hi : Int) (n : Nat) : List D := (List.range n).map fun (i : Nat) => D.int (hi + (i : Int) * (-1))
def dItR3 (da db dc : DE) : DI := fun δ k kx => da δ (fun d => db δ (fun e => dc δ (fun f => match d, e, f with
  | .int i, .int j, .int c => (c = -1 ∧ -(2 ^ 62) ≤ i ∧ i < 2 ^ 62 ∧ -(2 ^ 62) ≤ j ∧ j < 2 ^ 62) ∧ k (dnD i (i - j).toNat)
  | _, _, _ => False) kx) kx) kx
theorem walks_dn {K : PySem.W.Frag} {B : Option Addr} {G : Hp} {hi : Int} {n : Nat} : Walks K B G (Itc hi (-1) n) (dnD hi n) := by
  intro M H ex ok
  refine ⟨fun i d hd => ?_, by show n ≤ _; unfold dnD; rw [List.length_map, List.length_range]; exact Nat.le_refl _⟩
  unfold dnD at hd
  rw [List.getElem?_map] at hd
  cases q : (List.range n)[i]? with
  | none => rw [q] at hd; cases hd
  | some j =>
    rw [q] at hd
    have hlt : i < n := by
      have := (List.getElem?_eq_some_iff.mp q).1
      rwa [List.length_range] at this
    have hj : j = i := by
      rw [List.getElem?_range hlt] at q
      exact (Option.some.inj q).symm
    subst hj
    cases hd
    exact ⟨hlt, fun y H' hy => by obtain ⟨rfl, rfl⟩ := hy; exact ⟨fun _ _ h => h, rfl⟩⟩
theorem i_rng3 {c : Expr} {p : Pos} (hm : X.mg "range" = none) (ha : PD X E a da) (hb : PD X E b db) (hc : PD X E c dc) (hg : Gl X "range" := by rfl)
    (hs : starEach [a, b, c] X.env = (false, eval a X.env) :: starEach [b, c] X.env := by rfl) (hpl : (backTo pos (starEach [b, c] X.env)).any (·.1) = false := by rfl)
    (he2 : starEach [b, c] X.env = (false, eval b X.env) :: starEach [c] X.env := by rfl) (he3 : starEach [c] X.env = (false, eval c X.env) :: starEach [] X.env := by rfl) :
    PDI X E tg (.Call (.Name "range" p) [a, b, c] [] pos) (dItR3 da db dc) := by
  obtain ⟨ta, p1, s1⟩ := ha
  obtain ⟨tb, p2, s2⟩ := hb
  obtain ⟨tc, p3, s3⟩ := hc
  refine ⟨_, pi_range3 hg hm (pa_cons p1 (pa_cons p2 (pa_cons p3 pa_nil he3) he2) hs) hs hpl, fun B M σ δ H k kx R rp h hq hx => s1 B M σ δ H _ kx _ rp h (fun v d H1 t1 r1 q1 => ?_) hx⟩
  refine s2 B M σ δ H1 _ kx _ (rp.stp t1) q1 (fun w e H2 t2 r2 q2 => ?_) (fun C H2 t2 q2 => hx C H2 (t1.trans t2) q2)
  refine s3 B M σ δ H2 _ kx _ ((rp.stp t1).stp t2) q2 (fun u f H3 t3 r3 q3 => ?_) (fun C H3 t3 q3 => hx C H3 ((t1.trans t2).trans t3) q3)
  cases d <;> try exact q3.elim
  cases e <;> try exact q3.elim
  cases f <;> try exact q3.elim
  rename_i i j c
  obtain ⟨⟨rfl, h1, h2, h3, h4⟩, q3⟩ := q3
  exact ⟨i, j, -1, (i - j).toNat, by rw [show v = .int i from r1, show w = .int j from r2, show u = .int (-1) from r3], RgC.neg h1 h2 h3 h4, hq _ _ H3 ((t1.trans t2).trans t3) walks_dn q3⟩
end
end DL
/-! Loops whose target takes apart what is walked (zip, enumerate); objects with fields, read. -/
namespace DL
open PySem PySem.Spec PyProof.Rows L2
/-- J gives these items to the target g -/
def WalksG (K : PySem.W.Frag) (B : Option Addr) (G : Hp) (J : It) (g : TG) (items : List D) (dg : DG) : Prop := ∀ M H, Ex G (hid M H) → Ok K B M H →
  (∀ i d, items[i]? = some d → J.go i H ∧ ∀ y H', J.yld i H y H' → Ex H H' ∧ ∀ σ δ (k : Dst → Prop) (Q : L2.St → Hp → Prop), Rep K B M H' σ δ → dg d δ k → (∀ σ' δ', Rep K B M H' σ' δ' → k δ' → Q σ' H') → g y σ H' Q) ∧ J.stop items.length H
def SIG (K : PySem.W.Frag) (E : XK) (wi : TI) (g : TG) (di : DI) (dg : DG) : Prop := ∀ B M σ δ H k kx (R : It → Hp → Prop), Rep K B M H σ δ → di δ k kx →
  (∀ J items H2, Stp K B M H H2 → WalksG K B (hid M H2) J g items dg → k items → R J H2) → (∀ C H2, Stp K B M H H2 → kx C → E (.ref C) none H2) → wi σ H R
def PDIG (X : Cx) (E : XK) (tg e : Expr) (di : DI) (dg : DG) : Prop := ∃ wi g, PI X tg e wi ∧ PG X tg g ∧ SIG X.K E wi g di dg
section
variable {X : Cx} {E : XK} {a b c e tg : Expr} {es : List Expr} {da db dc de : DE} {das : DA} {pos : Pos} {s1 : DS} {o1 : OS}
theorem s_forG {iter : Expr} {body : List Stmt} {di : DI} {g : DG} (hp : PassesOwn (model X.prog X.w) X.A X.env X.xe) (hc : X.calm = true) (hi : PDIG X E tg iter di g) (hb : PDB X E body s1)
    (hs : ∀ x, foldedSetIterable iter X.env x = pure x := by intro _; rfl) : PDS X E (.For tg iter body [] pos) (dFor di g s1) := by
  obtain ⟨wi, tg', p1, p2, q1⟩ := hi
  obtain ⟨tb, p3, q3⟩ := hb
  refine ⟨_, ps_for hp hc p1 p2 p3 hs, fun B M σ δ H D0 D1 rp h l => q1 B M σ δ H _ _ _ rp h (fun J items H1 t1 wk hk => ?_) l.ex⟩
  obtain ⟨Pv, h0, hst, hd⟩ := hk
  refine ⟨fun i m σ' H' => i + m = items.length ∧ Stp X.K B M H1 H' ∧ ∃ δ', Rep X.K B M H' σ' δ' ∧ Pv i δ', ⟨items.length, by omega, .refl, δ, rp.stp t1, h0⟩, fun i m σ' H' hW => ?_⟩
  obtain ⟨em, t2, δ', rp', hpv⟩ := hW
  obtain ⟨go, stop⟩ := wk M H' t2.ex rp'.ok
  by_cases c : i = items.length
  · subst c
    exact .inl ⟨stop, l.nx _ _ H' (t1.trans t2) rp' (hd _ hpv)⟩
  · have hi : i < items.length := by omega
    obtain ⟨hg, hy⟩ := go i _ (List.getElem?_eq_getElem hi)
    refine .inr ⟨hg, fun σ2 H2 => Stp X.K B M H1 H2 ∧ ∃ δ2, Rep X.K B M H2 σ2 δ2 ∧ Pv (i + 1) δ2, fun σ2 H2 hN => ⟨m - 1, by omega, by omega, hN⟩, fun x H2 hyl => ?_⟩
    obtain ⟨ex2, rx⟩ := hy x H2 hyl
    have t3 : Stp X.K B M H' H2 := .same ex2 rp'.ok
    refine rx σ' δ' _ _ (rp'.stp t3) (hst i _ δ' (List.getElem?_eq_getElem hi) hpv) (fun σ3 δ3 rp3 h3 => ?_)
    refine q3 B M σ3 δ3 H2 _ _ rp3 h3 ⟨fun σ4 δ4 H4 t4 rp4 h4 => ⟨(t2.trans t3).trans t4, δ4, rp4, h4⟩, fun v d H4 t4 r4 h4 => l.rt v d H4 (((t1.trans t2).trans t3).trans t4) r4 h4,
      fun C H4 t4 h4 => l.ex C H4 (((t1.trans t2).trans t3).trans t4) h4, fun σ4 δ4 H4 t4 rp4 h4 => l.nx σ4 δ4 H4 (((t1.trans t2).trans t3).trans t4) rp4 h4, fun σ4 δ4 H4 t4 rp4 h4 => ⟨(t2.trans t3).trans t4, δ4, rp4, h4⟩⟩
theorem RD.lstS {K : PySem.W.Frag} {B : Option Addr} {M : List Addr} {H : Hp} {ds : List D} {v : V} (h : RD K B (hid M H) (.lst ds) v) : ∃ p xs, v = .ref p ∧ hid M H p = some (.lst xs) ∧ RDs K B (hid M H) ds xs := h
/-- a new pair is taken apart -/
theorem two_apart {K : PySem.W.Frag} {B : Option Addr} {M : List Addr} {H H' : Hp} {T : Addr} {x y : V} {d e : D} {g1 g2 : TG} {dg1 dg2 : DG} (s1 : SG K g1 dg1) (s2 : SG K g2 dg2) (ok : Ok K B M H) (hT : H T = none) (eH : H' = upd H T (.tup [x, y])) (rx : RD K B (hid M H) d x) (ry : RD K B (hid M H) e y)
    (σ : L2.St) (δ : Dst) (k : Dst → Prop) (Q : L2.St → Hp → Prop) (rp : Rep K B M H' σ δ) (h : gTp 2 (gCn dg1 (gCn dg2 gNl)) (.tup [d, e]) δ k) (hq : ∀ σ' δ', Rep K B M H' σ' δ' → k δ' → Q σ' H') : gTup K 2 (gCons g1 (gCons g2 gNil)) (.ref T) σ H' Q := by
  subst eH
  have t : Stp K B M H (upd H T (.tup [x, y])) := .new ok hT
  have hS : SqT K (upd H T (.tup [x, y])) T [x, y] := .inl (.inl upd_same)
  obtain ⟨_, h⟩ := h
  refine ⟨T, [x, y], rfl, hS, rfl, x, [y], rfl, ?_⟩
  refine s1 B M σ δ _ x d _ _ rp (RD.ex t.ex _ _ rx) h (fun σ2 δ2 rp2 h2 => ⟨y, [], rfl, ?_⟩)
  exact s2 B M σ2 δ2 _ y e _ _ rp2 (RD.ex t.ex _ _ ry) h2 (fun σ3 δ3 rp3 h3 => ⟨rfl, hq _ _ rp3 h3⟩)
def zipD (ds es : List D) : List D := (ds.zip es).map fun p => .tup [p.1, p.2]
theorem zipD_get {ds es : List D} {i : Nat} {z : D} (h : (zipD ds es)[i]? = some z) : ∃ d e, ds[i]? = some d ∧ es[i]? = some e ∧ z = .tup [d, e] := by
  unfold zipD at h
  rw [List.getElem?_map] at h
  cases q : (ds.zip es)[i]? with
  | none => rw [q] at h; cases h
  | some p =>
    rw [q] at h
    obtain ⟨d, e⟩ := p
    obtain ⟨h1, h2⟩ := List.getElem?_zip_eq_some.mp q
    exact ⟨d, e, h1, h2, (Option.some.inj h).symm⟩
def dItZ (da db : DE) : DI := fun δ k kx => da δ (fun d => db δ (fun e => match d, e with
  | .lst ds, .lst es => k (zipD ds es)
  | _, _ => False) kx) kx
theorem i_zip {t1 t2 : Expr} {p tpos : Pos} {kk : Nat} {dg1 dg2 : DG} (hm : X.mg "zip" = none) (hc : X.calm = true) (ha : PD X E a da) (hb : PD X E b db) (g1 : PDG X t1 dg1) (g2 : PDG X t2 dg2) (hg : Gl X "zip" := by rfl)
    (hs : starEach [a, b] X.env = (false, eval a X.env) :: starEach [b] X.env := by rfl) (hpl : (backTo pos (starEach [b] X.env)).any (·.1) = false := by rfl) (he2 : starEach [b] X.env = (false, eval b X.env) :: starEach [] X.env := by rfl)
    (hn : (assignEach [t1, t2] X.env).length = 2 := by rfl) (hst : (assignEach [t1, t2] X.env).findIdx? (·.1) = none := by rfl) (hs1 : (assignEach [t1, t2] X.env).map (·.2) = assign t1 X.env :: (assignEach [t2] X.env).map (·.2) := by rfl) (hs2 : (assignEach [t2] X.env).map (·.2) = assign t2 X.env :: (assignEach [] X.env).map (·.2) := by rfl) :
    PDIG X E (.Tuple [t1, t2] kk tpos) (.Call (.Name "zip" p) [a, b] [] pos) (dItZ da db) (gTp 2 (gCn dg1 (gCn dg2 gNl))) := by
  obtain ⟨ta, p1, s1⟩ := ha
  obtain ⟨tb, p2, s2⟩ := hb
  obtain ⟨tg1, pg1, sg1⟩ := g1
  obtain ⟨tg2, pg2, sg2⟩ := g2
  refine ⟨_, _, pi_zip hg hm (pa_cons p1 (pa_cons p2 pa_nil he2) hs) hs hpl, pg_tup hc (pgs_cons pg1 (pgs_cons pg2 pgs_nil hs2) hs1) hn hst, fun B M σ δ H k kx R rp h hq hx => s1 B M σ δ H _ kx _ rp h (fun v d H1 t1 r1 q1 => ?_) hx⟩
  refine s2 B M σ δ H1 _ kx _ (rp.stp t1) q1 (fun w e H2 t2 r2 q2 => ?_) (fun C H2 t2 q2 => hx C H2 (t1.trans t2) q2)
  cases d <;> try exact q2.elim
  cases e <;> try exact q2.elim
  rename_i ds es
  obtain ⟨pa, xs, rfl, ea, ra⟩ := RD.ex t2.ex _ _ r1
  obtain ⟨pb, ys, rfl, eb, rb⟩ := r2
  refine ⟨pa, pb, xs, ys, rfl, SqL.of (hid_of ea).2, SqL.of (hid_of eb).2, hq _ _ H2 (t1.trans t2) (fun M' H' ex ok => ?_) q2⟩
  have ha' : SqL X.K H' pa xs := SqL.of (hid_of (ex _ _ ea)).2
  have hb' : SqL X.K H' pb ys := SqL.of (hid_of (ex _ _ eb)).2
  refine ⟨fun i z hz => ?_, ?_⟩
  · obtain ⟨d, e, hd, he, rfl⟩ := zipD_get hz
    obtain ⟨x, hx1, hx2⟩ := RDs.gt ra hd
    obtain ⟨y, hy1, hy2⟩ := RDs.gt rb he
    refine ⟨⟨xs, ys, x, y, ha', hb', hx1, hy1⟩, fun u H'' hy => ?_⟩
    obtain ⟨T, x', y', rfl, hT, eH, fx, fy⟩ := hy
    have e1 := fx xs ha'
    have e2 := fy ys hb'
    rw [hx1] at e1
    rw [hy1] at e2
    cases e1
    cases e2
    refine ⟨by rw [eH]; exact Evl.Ex.new hT, fun σ3 δ3 k3 Q3 rp3 h3 hq3 => ?_⟩
    exact two_apart sg1 sg2 ok hT eH (RD.ex ex _ _ hx2) (RD.ex ex _ _ hy2) σ3 δ3 k3 Q3 rp3 h3 hq3
  · refine ⟨xs, ys, ha', hb', ?_⟩
    unfold zipD
    rw [List.length_map, List.length_zip, ← RDs.len ra, ← RDs.len rb]
    omega
def enD (ds : List D) : List D := ds.mapIdx fun i d => .tup [.int (i : Nat), d]
def dItE (da : DE) : DI := fun δ k kx => da δ (fun d => match d with
  | .lst ds => k (enD ds)
  | _ => False) kx
theorem i_enum {t1 t2 : Expr} {p tpos : Pos} {kk : Nat} {dg1 dg2 : DG} (hm : X.mg "enumerate" = none) (hc : X.calm = true) (ha : PD X E a da) (g1 : PDG X t1 dg1) (g2 : PDG X t2 dg2) (hg : Gl X "enumerate" := by rfl)
    (hs : starEach [a] X.env = [(false, eval a X.env)] := by rfl) (he : starEach [a] X.env = (false, eval a X.env) :: starEach [] X.env := by rfl)
    (hn : (assignEach [t1, t2] X.env).length = 2 := by rfl) (hst : (assignEach [t1, t2] X.env).findIdx? (·.1) = none := by rfl) (hs1 : (assignEach [t1, t2] X.env).map (·.2) = assign t1 X.env :: (assignEach [t2] X.env).map (·.2) := by rfl) (hs2 : (assignEach [t2] X.env).map (·.2) = assign t2 X.env :: (assignEach [] X.env).map (·.2) := by rfl) :
    PDIG X E (.Tuple [t1, t2] kk tpos) (.Call (.Name "enumerate" p) [a] [] pos) (dItE da) (gTp 2 (gCn dg1 (gCn dg2 gNl))) := by
  obtain ⟨ta, p1, s1⟩ := ha
  obtain ⟨tg1, pg1, sg1⟩ := g1
  obtain ⟨tg2, pg2, sg2⟩ := g2
  refine ⟨_, _, pi_enum hg hm (pa_cons p1 pa_nil he) hs, pg_tup hc (pgs_cons pg1 (pgs_cons pg2 pgs_nil hs2) hs1) hn hst, fun B M σ δ H k kx R rp h hq hx => s1 B M σ δ H _ kx _ rp h (fun v d H1 t1 r1 q1 => ?_) hx⟩
  cases d <;> try exact q1.elim
  rename_i ds
  obtain ⟨pa, xs, rfl, ea, ra⟩ := r1
  refine ⟨pa, xs, rfl, SqL.of (hid_of ea).2, hq _ _ H1 t1 (fun M' H' ex ok => ?_) q1⟩
  have ha' : SqL X.K H' pa xs := SqL.of (hid_of (ex _ _ ea)).2
  refine ⟨fun i z hz => ?_, xs, ha', by unfold enD; rw [List.length_mapIdx, RDs.len ra]; exact Nat.le_refl _⟩
  unfold enD at hz
  rw [List.getElem?_mapIdx] at hz
  cases q : ds[i]? with
  | none => rw [q] at hz; cases hz
  | some d =>
    rw [q] at hz
    obtain rfl := (Option.some.inj hz).symm
    obtain ⟨x, hx1, hx2⟩ := RDs.gt ra q
    refine ⟨⟨xs, x, ha', hx1⟩, fun u H'' hy => ?_⟩
    obtain ⟨T, x', rfl, hT, eH, fx⟩ := hy
    have e1 := fx xs ha'
    rw [hx1] at e1
    cases e1
    refine ⟨by rw [eH]; exact Evl.Ex.new hT, fun σ3 δ3 k3 Q3 rp3 h3 hq3 => ?_⟩
    exact two_apart (d := .int (i : Nat)) sg1 sg2 ok hT eH rfl (RD.ex ex _ _ hx2) σ3 δ3 k3 Q3 rp3 h3 hq3
/-! ### fields -/
theorem zip_lookup {K : PySem.W.Frag} {B : Option Addr} {G : Hp} {f : Str} {d : D} : ∀ {fs : List Str} {ds : List D} {xs : List V}, RDs K B G ds xs → (fs.zip ds).lookup f = some d → ∃ v, (fs.zip xs).lookup f = some v ∧ RD K B G d v
  | [], _, _, _, h => by cases h
  | _ :: _, [], _, _, h => by cases h
  | g :: fs, e :: ds, _, ⟨y, ys, rfl, r1, r2⟩, h => by
    rw [List.zip_cons_cons, List.lookup_cons] at h ⊢
    cases q : (f == g) with
    | true =>
      rw [q] at h
      obtain rfl := Option.some.inj h
      exact ⟨y, rfl, r1⟩
    | false =>
      rw [q] at h
      exact zip_lookup r2 h
theorem zip_none {f : Str} : ∀ {fs : List Str} {xs : List V}, f ∉ fs → (fs.zip xs).lookup f = none
  | [], _, _ => rfl
  | _ :: _, [], _ => rfl
  | g :: fs, x :: xs, h => by
    rw [List.zip_cons_cons, List.lookup_cons, show (f == g) = false from beq_eq_false_iff_ne.mpr fun e => h (by rw [e]; exact List.mem_cons_self)]
    exact zip_none fun m => h (List.mem_cons_of_mem _ m)
def dFld (C : Addr) (f : Str) (da : DE) : DE := fun δ k kx => da δ (fun d => match d with
  | .ins C' fs ds => C' = C ∧ ∃ e, (fs.zip ds).lookup f = some e ∧ k e
  | _ => False) kx
theorem d_fld {C : Addr} {f : Str} (hc : Cls X.K C) (hn : NoAttr X.K C f) (ha : PD X E a da) (hb : attributeBase a f X.env (eval a X.env) = eval a X.env := by rfl) : PD X E (.Attribute a f pos) (dFld C f da) :=
  match ha with
  | ⟨_, h1, s1⟩ => ⟨_, pe_fld h1 hb, fun B M σ δ H k kx Q rp h hq hx => s1 B M σ δ H _ kx _ rp h (fun v d H1 t1 r1 q1 => by
      cases d <;> try exact q1.elim
      rename_i C' fs ds
      obtain ⟨rfl, e, hl, q1⟩ := q1
      obtain ⟨p, dx, xs, rfl, h2, h3⟩ := r1
      obtain ⟨u, h4, h5⟩ := zip_lookup h3 hl
      exact ⟨p, C', dx, _, u, rfl, (hid_of h2).2, hc, hn, h4, hq u e H1 t1 h5 q1⟩) hx⟩
/-- a method that only reads -/
def DefM (P : Program) (w : World) (K : PySem.W.Frag) (mg : Str → Option Value) (base : Heap) (k : Nat) (C : Addr) (m : Str) (ps : List Str) (dsp : DSp) : Prop :=
  ∃ f fd, FnOk P w K mg base (L2.CX P w) k f fd ps (spD K dsp) ∧ Meth K C m f ∧ Binds K fd ps []
theorem defM_mk {P : Program} {w : World} {K : PySem.W.Frag} {mg : Str → Option Value} {base : Heap} {C f : Addr} {fd : FuncData} {m qual : Str} {st : Stmt} {N ps : List Str} {k : Nat} {dsp : DSp} (F : Fun K m qual st f fd) (hM : Meth K C m f) (S : FnScope N ps (defScope st))
    (hb : ∀ (kV doc pm : Value) (an : Option Addr) (cdv ct : Value) (us : List Value), us.length = ps.length → bindArgs (PySem.W.fnOf m qual (defArgs st) (defBody st) (defScope st) .none kV doc pm an cdv ct) ⟨us, []⟩ = pure (ps.zip us))
    (hlen : ∀ ds k kx, dsp ds k kx → ds.length = ps.length)
    (hbody : ∀ (cdv : Value) (A : Around) (outer : List Env) (s : Shared) (H : Hp) (E : XK), Room k (A.deeper (envOfC qual (defScope st) s.heap.objs.size f cdv)) →
      ∃ t, PDB (cxOf (L2.CX P w) P w K mg base N qual (defScope st) f cdv A outer s H E) E (defBody st) t ∧ ∀ ds k kx, dsp ds k kx → t { nx := fun _ => k .non, rt := k, ex := kx } (dstart N ds)) :
    DefM P w K mg base (k + 1) C m ps dsp := ⟨f, fd, fn_D F S hlen hbody, hM, F.binds hb⟩
def dMeth0 (C : Addr) (m : Str) (dsp : DSp) (da : DE) : DE := fun δ k kx => da δ (fun d => match d with
  | .ins C' fs ds => C' = C ∧ m ∉ fs ∧ dsp [.ins C' fs ds] k kx
  | _ => False) kx
theorem d_meth0 {C : Addr} {m : Str} {k j : Nat} {ps : List Str} {dsp : DSp} {apos : Pos} {pl : Sem Bool} (hx0 : Passes (CXL X) X E) (hr : Room j X.A) (hc : Cls X.K C) (F : DefM X.prog X.w X.K X.mg X.base k C m ps dsp) (ha : PD X E a da) (hkj : k ≤ j := by decide)
    (ht : eval (.Call (.Attribute a m apos) [] [] pos) X.env = (do
      let ov ← eval a X.env
      standAt apos.atName
      let (f, first) ← holding [ov] (getMethod ov m pl)
      callWith pos f first (backTo pos (starEach [] X.env)) (backToKw pos (keywordEach [] X.env))) := by rfl) : PD X E (.Call (.Attribute a m apos) [] [] pos) (dMeth0 C m dsp da) := by
    obtain ⟨_, h1, s1⟩ := ha
    obtain ⟨f, fd, F, hM, hB⟩ := F
    refine ⟨_, pe_meth0 (pl := pl) h1 hc hM F (hr.mono hkj) hB .nil hx0 ht, fun B M σ δ H k kx Q rp h hq hx => s1 B M σ δ H _ kx _ rp h (fun v d H1 t1 r1 q1 => ?_) hx⟩
    cases d <;> try exact q1.elim
    rename_i C' fs ds
    obtain ⟨rfl, hm, q1⟩ := q1
    obtain ⟨p, dx, xs, rfl, h2, h3⟩ := id r1
    refine ⟨p, dx, _, rfl, (hid_of h2).2, zip_none hm, ?_⟩
    exact ⟨B, M, [.ins C' fs ds], k, kx, t1.ok rp.ok, ⟨_, _, rfl, r1, rfl⟩, q1, fun v d H2 t2 r2 q2 => hq v d H2 (t1.trans t2) r2 q2, fun C H2 t2 q2 => hx C H2 (t1.trans t2) q2⟩
end
/-! ### x is True -/
def dIsB (neg : Bool) : DR := fun x y k => match x, y with
  | .bl a, .bl b => k (.bl (if neg then !decide (a = b) else decide (a = b)))
  | _, _ => False
theorem sr_isB {K : PySem.W.Frag} : SR K rIsB (dIsB false) := by
  intro B M H x y v w k Q ok hx hy hd hq
  cases x <;> try exact hd.elim
  cases y <;> try exact hd.elim
  rename_i i j
  exact ⟨i, j, hx, hy, hq _ (.bl (decide (i = j))) H .refl rfl hd⟩
theorem sr_isnotB {K : PySem.W.Frag} : SR K rNotB (dIsB true) := by
  intro B M H x y v w k Q ok hx hy hd hq
  cases x <;> try exact hd.elim
  cases y <;> try exact hd.elim
  rename_i i j
  exact ⟨i, j, hx, hy, hq _ (.bl (!decide (i = j))) H .refl rfl hd⟩
section
variable {X : Cx} {E : XK} {a b : Expr} {da db : DE} {pos : Pos}
theorem d_isB (ha : PD X E a da) (hb : PD X E b db) : PD X E (.Compare a [.Is] [b] pos) (dOp (dIsB false) da db) := d_cmp op_isBl sr_isB (nomark _) ha hb
theorem d_isnotB (ha : PD X E a da) (hb : PD X E b db) : PD X E (.Compare a [.IsNot] [b] pos) (dOp (dIsB true) da db) := d_cmp op_notBl sr_isnotB (nomark _) ha hb
theorem t_isB (ha : PD X E a da) (hb : PD X E b db) : PDT X E (.Compare a [.Is] [b] pos) (dB (dOp (dIsB false) da db)) := t_cmp op_isBl sr_isB (nomark _) ha hb
theorem t_isnotB (ha : PD X E a da) (hb : PD X E b db) : PDT X E (.Compare a [.IsNot] [b] pos) (dB (dOp (dIsB true) da db)) := t_cmp op_notBl sr_isnotB (nomark _) ha hb
end
theorem Def.alias {P : Program} {w : World} {K : PySem.W.Frag} {mg : Str → Option Value} {base : Heap} {x y : Str} {ps : List Str} {k : Nat} {dsp : DSp} (d : Def P w K mg base k x ps dsp) (h : mg y = mg x) : Def P w K mg base k y ps dsp := by
  obtain ⟨f, fd, F, a, b, c⟩ := d
  exact ⟨f, fd, F, h.trans a, b, c⟩
end DL
/-! repr of a truth, isinstance of two types, the bag's draws read, a private list made of another one and changed by a def that calls itself. -/
namespace DL
open PySem PySem.Spec PyProof.Rows L2
section
variable {X : Cx} {E : XK} {a b c e tg : Expr} {es : List Expr} {da db dc de : DE} {das : DA} {pos : Pos}
/-! ### repr -/
theorem call_repr_bl : CallR X (.builtin "repr") (fun xs H Q => ∃ i : Bool, xs = [.bl i] ∧ Q (.str (if i then "True" else "False")) H) := by
  intro pins s σ H xs us Q I r h
  obtain ⟨i, rfl, q⟩ := h
  obtain ⟨u, rfl, r1⟩ := vals1 r
  cases (show u = Value.bool i from r1)
  exact PySem.P.repr_of_bool ⟨.str _, H, I.tok _, ⟨_, rfl⟩, q⟩
def cRepr : D → (D → Prop) → Prop := fun d k => match d with
  | .bl b => k (.str (if b then "True" else "False"))
  | _ => False
theorem sc_repr {K : PySem.W.Frag} : SC1 K (fun xs H Q => ∃ i : Bool, xs = [.bl i] ∧ Q (.str (if i then "True" else "False")) H) cRepr := by
  intro B M H d v k Q ok r h hq
  cases d with
  | bl i => exact ⟨i, by rw [show v = .bl i from r], hq _ (.str (if i then "True" else "False")) H .refl rfl h⟩
  | _ => exact h.elim
theorem d_repr {p : Pos} (hm : X.mg "repr" = none) (ha : PD X E a da) (hg : Gl X "repr" := by rfl) (he : starEach [a] X.env = (false, eval a X.env) :: starEach [] X.env := by rfl) (hpl : (backTo pos (starEach [] X.env)).any (·.1) = false := by rfl) : PD X E (.Call (.Name "repr" p) [a] [] pos) (dC1 cRepr da) :=
  d_c1 call_repr_bl sc_repr hm (by decide +kernel) ha hg (by decide) (by decide) he hpl
/-! ### isinstance(x, (T, U)) -/
def dIsi2 (T U : String) (da : DE) : DE := fun δ k kx => da δ (fun d => ∃ t b1 b2, d.ty = some t ∧ kitB t T = some b1 ∧ kitB t U = some b2 ∧ k (.bl (b1 || b2))) kx
theorem kitAny2 {K : PySem.W.Frag} {t T U : String} {b1 b2 : Bool} (h1 : kitB t T = some b1) (h2 : kitB t U = some b2) : PySem.W.kitAny K (.type t) [.type T, .type U] = some (b1 || b2) := by
  refine kitAny_cons (kit_ty h1) (fun e => ?_) (fun e => by rw [e]; rfl)
  rw [e, Bool.false_or]
  refine kitAny_cons (kit_ty h2) (fun e2 => ?_) (fun e2 => e2)
  rw [e2]; rfl
theorem d_isi2 {T U : String} {x y : Str} {p p2 p3 p4 : Pos} {kk : Nat} (hm : X.mg "isinstance" = none) (hm2 : X.mg x = none) (hm3 : X.mg y = none) (hv : bootBuiltins x = some (.type T)) (hv2 : bootBuiltins y = some (.type U)) (ha : PD X E a da) (hg2 : Gl X x := by rfl) (hg3 : Gl X y := by rfl) (hg : Gl X "isinstance" := by rfl)
    (hn : x ≠ "__name__" := by decide) (hd : (x == ("__debug__" : Str)) = false := by decide) (hn2 : y ≠ "__name__" := by decide) (hd2 : (y == ("__debug__" : Str)) = false := by decide)
    (hs : starEach [a, .Tuple [.Name x p2, .Name y p3] kk p4] X.env = (false, eval a X.env) :: starEach [.Tuple [.Name x p2, .Name y p3] kk p4] X.env := by rfl) (hs2 : starEach [.Tuple [.Name x p2, .Name y p3] kk p4] X.env = (false, eval (.Tuple [.Name x p2, .Name y p3] kk p4) X.env) :: starEach [] X.env := by rfl)
    (hs3 : starEach [.Name x p2, .Name y p3] X.env = (false, eval (.Name x p2) X.env) :: starEach [.Name y p3] X.env := by rfl) (hs4 : starEach [.Name y p3] X.env = (false, eval (.Name y p3) X.env) :: starEach [] X.env := by rfl)
    (hpl : (backTo pos (starEach [.Tuple [.Name x p2, .Name y p3] kk p4] X.env)).any (·.1) = false := by rfl) :
    PD X E (.Call (.Name "isinstance" p) [a, .Tuple [.Name x p2, .Name y p3] kk p4] [] pos) (dIsi2 T U da) := by
  obtain ⟨ta, p1, s1⟩ := ha
  refine ⟨_, pe_callB call_isiT hg hm (by decide +kernel) (pa_cons p1 (pa_cons (pe_tup (pa_cons (pe_bltn (v := .ty T) hg2 hm2 hv rfl hn hd) (pa_cons (pe_bltn (v := .ty U) hg3 hm3 hv2 rfl hn2 hd2) pa_nil hs4) hs3)) pa_nil hs2) hs) (by decide) (by decide) hs hpl, fun B M σ δ H k kx Q rp h hq hx => s1 B M σ δ H _ kx _ rp h (fun v d H1 t1 r1 q1 => ?_) hx⟩
  obtain ⟨t, b1, b2, e1, e2, e3, q1⟩ := q1
  refine ⟨line1000 (by show 2 ≤ 1000; decide), fun l hl => ?_⟩
  have ok1 := t1.ok rp.ok
  have t4 : Stp X.K B M H1 (upd H1 l (.tup [.ty T, .ty U])) := .new ok1 hl
  exact ⟨v, l, [.ty T, .ty U], .type t, [.type T, .type U], b1 || b2, rfl, upd_same, .cons (.ty T) (.cons (.ty U) .nil), RD.tyx (RD.ex t4.ex _ _ r1) e1, kitAny2 e2 e3, hq _ (.bl (b1 || b2)) _ (t1.trans t4) rfl q1⟩
/-! ### the bag's draws from a place on -/
def BagSl (i : Nat) (n : Nat) : DE := fun δ k _ => δ[i]? = some (some .bag) ∧ ∀ ns : List Int, n ≤ ns.length → ns.length ≤ 400 → (∀ x ∈ ns, 0 ≤ x ∧ x < 1000) → k (.lst (ns.map D.int))
theorem bag_read {K : PySem.W.Frag} {B : Option Addr} {M : List Addr} {H : Hp} {σ : L2.St} {δ : Dst} {i : Nat} (rp : Rep K B M H σ δ) (z : δ[i]? = some (some .bag)) : ∃ b dr n ns, σ[i]? = some (some (.ref b)) ∧ B = some b ∧ Bag K M b H dr n ns := by
  obtain ⟨v, h1, b, eb, rfl⟩ := rp.at_ i _ z
  obtain ⟨dr, n, ns, w⟩ := rp.ok.bag b eb
  exact ⟨b, dr, n, ns, h1, eb, w⟩
theorem cutV_from (ns : List Int) (j : Nat) : cutV (ns.map V.int) (some (j : Int)) none = (ns.drop j).map V.int := by
  unfold cutV
  rw [HT.sIx_none, HT.sIx_nat, List.map_drop]
  by_cases c : j ≤ (ns.map V.int).length
  · rw [Nat.min_eq_left c, List.take_of_length_le (by rw [List.length_drop]; exact Nat.le_refl _)]
  · rw [Nat.min_eq_right (by omega), List.drop_of_length_le (Nat.le_refl _), List.drop_of_length_le (by omega)]
    simp
/-- bag[0][bag[1] % m:] -/
theorem d_bagSl {i : Nat} {x : Str} {m : Int} {j0 j1 j2 : Nat} {p1 p2 p3 p4 p5 p6 p7 p8 p9 : Pos} (n : Nat) (hmm : 0 < m ∧ m.toNat + n ≤ 401) (hN : X.N[i]? = some x := by rfl) (hv : Vis X.env.scope x := by first | exact Or.inl rfl | exact Or.inr (Or.inl rfl) | exact Or.inr (Or.inr rfl)) (hd : (x == ("__debug__" : Str)) = false := by decide) (hcd : (x == ("__classdict__" : Str)) = false := by decide) :
    PD X E (.Subscript (.Subscript (.Name x p1) (.Constant (.int 0) j0 p2) p3) (.Slice (some (.BinOp (.Subscript (.Name x p4) (.Constant (.int 1) j1 p5) p6) .Mod (.Constant (.int m) j2 p7) p8)) none none p9) pos) (BagSl i n) := by
  refine ⟨_, pe_slice sl_list (pe_ix ix_list (pe_var hN hv hd hcd) pe_int (fun _ _ => rfl)) (po_some (pe_op op_mod (pe_ix ix_list (pe_var hN hv hd hcd) pe_int (fun _ _ => rfl)) pe_int)) po_none, fun B M σ δ H k kx Q rp h hq hx => ?_⟩
  obtain ⟨z, h⟩ := h
  obtain ⟨b, dr, n0, ns, h1, eb, w⟩ := bag_read rp z
  have hdr := (hid_of w.dr_).2
  have h0 := Int.emod_nonneg n0 (by omega : m ≠ 0)
  have h2 := Int.emod_lt_of_pos n0 hmm.1
  obtain ⟨jj, ej⟩ : ∃ j : Nat, n0 % m = j := ⟨(n0 % m).toNat, by omega⟩
  refine ⟨.ref b, h1, b, _, 0, .ref dr, rfl, rfl, SqL.of w.at_, rfl, ?_⟩
  refine ⟨.ref b, h1, b, _, 1, .int n0, rfl, rfl, SqL.of w.at_, rfl, ?_⟩
  refine ⟨n0, m, rfl, rfl, hmm.1, n0 % m, rfl, dr, _, rfl, SqL.of hdr, fun p hp => ?_⟩
  rw [ej, cutV_from]
  have t4 : Stp X.K B M H (upd H p (.lst ((ns.drop jj).map V.int))) := .new rp.ok hp
  refine hq _ (.lst ((ns.drop jj).map D.int)) _ t4 ⟨p, _, rfl, new_at rp.ok hp, RDs.ints _⟩ (h (ns.drop jj) ?_ ?_ fun y hy => w.rng y (List.mem_of_mem_drop hy))
  · have hl := w.len
    rw [List.length_drop, hl]; omega
  · have hl := w.len
    rw [List.length_drop, hl]; omega
/-- bag[0][bag[1] % m + c:] -/
theorem d_bagSl2 {i : Nat} {x : Str} {m c0 : Int} {j0 j1 j2 j3 : Nat} {p1 p2 p3 p4 p5 p6 p7 p8 p9 p10 p11 : Pos} (n : Nat) (hmm : 0 < m ∧ 0 ≤ c0 ∧ m.toNat + c0.toNat + n ≤ 401) (hN : X.N[i]? = some x := by rfl) (hv : Vis X.env.scope x := by first | exact Or.inl rfl | exact Or.inr (Or.inl rfl) | exact Or.inr (Or.inr rfl)) (hd : (x == ("__debug__" : Str)) = false := by decide) (hcd : (x == ("__classdict__" : Str)) = false := by decide) :
    PD X E (.Subscript (.Subscript (.Name x p1) (.Constant (.int 0) j0 p2) p3) (.Slice (some (.BinOp (.BinOp (.Subscript (.Name x p4) (.Constant (.int 1) j1 p5) p6) .Mod (.Constant (.int m) j2 p7) p8) .Add (.Constant (.int c0) j3 p10) p11)) none none p9) pos) (BagSl i n) := by
  refine ⟨_, pe_slice sl_list (pe_ix ix_list (pe_var hN hv hd hcd) pe_int (fun _ _ => rfl)) (po_some (pe_op op_add (pe_op op_mod (pe_ix ix_list (pe_var hN hv hd hcd) pe_int (fun _ _ => rfl)) pe_int) pe_int)) po_none, fun B M σ δ H k kx Q rp h hq hx => ?_⟩
  obtain ⟨z, h⟩ := h
  obtain ⟨b, dr, n0, ns, h1, eb, w⟩ := bag_read rp z
  have hdr := (hid_of w.dr_).2
  have h0 := Int.emod_nonneg n0 (by omega : m ≠ 0)
  have h2 := Int.emod_lt_of_pos n0 hmm.1
  obtain ⟨jj, ej⟩ : ∃ j : Nat, n0 % m + c0 = j := ⟨(n0 % m + c0).toNat, by omega⟩
  refine ⟨.ref b, h1, b, _, 0, .ref dr, rfl, rfl, SqL.of w.at_, rfl, ?_⟩
  refine ⟨.ref b, h1, b, _, 1, .int n0, rfl, rfl, SqL.of w.at_, rfl, ?_⟩
  refine ⟨n0, m, rfl, rfl, hmm.1, n0 % m, c0, rfl, rfl, n0 % m + c0, rfl, dr, _, rfl, SqL.of hdr, fun p hp => ?_⟩
  rw [ej, cutV_from]
  have t4 : Stp X.K B M H (upd H p (.lst ((ns.drop jj).map V.int))) := .new rp.ok hp
  refine hq _ (.lst ((ns.drop jj).map D.int)) _ t4 ⟨p, _, rfl, new_at rp.ok hp, RDs.ints _⟩ (h (ns.drop jj) ?_ ?_ fun y hy => w.rng y (List.mem_of_mem_drop hy))
  · have hl := w.len
    rw [List.length_drop, hl]; omega
  · have hl := w.len
    rw [List.length_drop, hl]; omega
/-! ### x = list(e), a list that will be changed -/
def oNewC (i : Nat) (da : DE) : OS := fun N δ μ => da δ (fun d => match d with
  | .lst ds => ∀ p, p ∉ μ.ad → N.nx (δ.set i (some (.adr p))) ((p, ds) :: μ)
  | .tup ds => ∀ p, p ∉ μ.ad → N.nx (δ.set i (some (.adr p))) ((p, ds) :: μ)
  | _ => False) N.ex
theorem os_newC {i : Nat} {x : Str} {p2 pos' cpos : Pos} (hm : X.mg "list" = none) (hN : X.N.Nodup) (hi : X.N[i]? = some x) (hx : Loc X.env.scope x) (ha : PD X E a da) (hg : Gl X "list" := by rfl)
    (he : starEach [a] X.env = (false, eval a X.env) :: starEach [] X.env := by rfl) (hpl : (backTo cpos (starEach [] X.env)).any (·.1) = false := by rfl) (hs : swapsWith (.Call (.Name "list" p2) [a] [] cpos) (some (.Name x pos')) pos.line X.env = pure false := by rfl) (hf : X.fn x = true ∨ X.env.scope.names.lookup x = some .local := by first | exact .inl rfl | exact .inr rfl | assumption) :
    PDSo X E (.Assign [.Name x pos'] (.Call (.Name "list" p2) [a] [] cpos) pos) (oNewC i da) := by
  obtain ⟨ta, p1, s1⟩ := ha
  refine ⟨_, ps_set hN hi hx (pe_callTy call_list_of hg hm (by decide +kernel) (pa_cons p1 pa_nil he) (by decide) (by decide) he hpl) hs hf, fun B M G H0 σ δ μ H D0 D1 rp h l => s1 B _ σ δ H _ _ _ rp.rep h (fun v d H1 t1 r1 q1 => ?_) (fun C H2 t h2 => l.ex C H2 (rp.fin2 t) h2)⟩
  have rp1 := rp.stp t1
  have key : ∀ (ds : List D) (xs : List V), RDs X.K B (hid (μ.ad ++ M) H1) ds xs → (∀ p, p ∉ μ.ad → D0.nx (δ.set i (some (.adr p))) ((p, ds) :: μ)) → ∀ p, H1 p = none → D1.nx (σ.set i (some (.ref p))) (upd H1 p (.lst xs)) := fun ds xs r q p hp => by
    have np := rp1.rep.ok.fresh hp
    have t2 : Stp X.K B (μ.ad ++ M) H1 (upd H1 p (.lst xs)) := .new rp1.rep.ok hp
    exact l.nx _ _ _ _ (rp1.newN t2 np hp ⟨xs, upd_same, RDs.ex (hid_new hp) _ _ r⟩) (q p fun m => np (List.mem_append_left _ m))
  cases d with
  | lst ds =>
    obtain ⟨pa, xs, rfl, e3, e4⟩ := r1
    exact ⟨pa, xs, rfl, .inl (SqL.of (hid_of e3).2), fun p hp => key ds xs e4 q1 p hp⟩
  | tup ds =>
    obtain ⟨pa, xs, rfl, e3, e4⟩ := r1
    exact ⟨pa, xs, rfl, .inr (SqD.un e3), fun p hp => key ds xs e4 q1 p hp⟩
  | _ => exact q1.elim
/-! ### x = e, a number; e reads the private list in slot i -/
def oSetB (i j : Nat) (da : DE) : OS := fun N δ μ => ∃ p μ1 ds μ2, δ[i]? = some (some (.adr p)) ∧ μ = μ1 ++ (p, ds) :: μ2 ∧ da (δ.set i (some (.lst ds))) (fun d => ∃ n : Int, d = .int n ∧ N.nx (δ.set j (some (.int n))) μ) N.ex
theorem os_setB (i : Nat) {j : Nat} {x : Str} {pos' : Pos} (hN : X.N.Nodup) (hi : X.N[j]? = some x) (hx : Loc X.env.scope x) (ha : PD X E a da) (hs : swapsWith a (some (.Name x pos')) pos.line X.env = pure false := by rfl) (hf : X.fn x = true ∨ X.env.scope.names.lookup x = some .local := by first | exact .inl rfl | exact .inr rfl | assumption) :
    PDSo X E (.Assign [.Name x pos'] a pos) (oSetB i j da) := by
  obtain ⟨ta, p1, s1⟩ := ha
  refine ⟨_, ps_set hN hi hx p1 hs hf, fun B M G H0 σ δ μ H D0 D1 rp h l => ?_⟩
  obtain ⟨pa, μ1, ds, μ2, z, rfl, h⟩ := h
  have rf := rp.frz z
  refine s1 B _ σ _ H _ _ _ rf.rep h (fun v d H2 t r q => ?_) (fun C H2 t q => l.ex C H2 (rf.fin2 t) q)
  obtain ⟨n, rfl, q⟩ := q
  have rp2 := rp.unborrow z t
  exact l.nx _ _ _ H2 (rp2.set (d := .int n) (v := v) r) q
/-! ### x[j] = f(x[j], e), x a private list -/
def oRec (i j : Nat) (dsp : DSp) (de : DE) : OS := fun N δ μ => ∃ (p : Addr) (μ1 : Mu) (ds : List D) (μ2 : Mu) (n : Nat) (d : D), δ[i]? = some (some (.adr p)) ∧ δ[j]? = some (some (.int (n : Nat))) ∧ μ = μ1 ++ (p, ds) :: μ2 ∧ ds[n]? = some d ∧
  de δ (fun e => dsp [d, e] (fun r => N.nx δ (μ1 ++ (p, ds.set n r) :: μ2)) N.ex) N.ex
theorem os_rec {i j k jj : Nat} {ps : List Str} {dsp : DSp} {f x y : Str} {p1 p2 p3 p4 p5 p6 tp cpos : Pos} (hx0 : Passes (CXL X) X E) (hr : Room jj X.A) (D_ : Def X.prog X.w X.K X.mg X.base k f ps dsp) (he : PD X E e de) (hkj : k ≤ jj) (hN : X.N[i]? = some x := by rfl) (hN2 : X.N[j]? = some y := by rfl)
    (hv : Vis X.env.scope x := by first | exact Or.inl rfl | exact Or.inr (Or.inl rfl) | exact Or.inr (Or.inr rfl)) (hd : (x == ("__debug__" : Str)) = false := by decide) (hcd : (x == ("__classdict__" : Str)) = false := by decide)
    (hv2 : Vis X.env.scope y := by first | exact Or.inl rfl | exact Or.inr (Or.inl rfl) | exact Or.inr (Or.inr rfl)) (hd2 : (y == ("__debug__" : Str)) = false := by decide) (hcd2 : (y == ("__classdict__" : Str)) = false := by decide)
    (hg : Gl X f := by rfl) (hdb : (f == ("__debug__" : Str)) = false := by decide) (hst : starEach [.Subscript (.Name x p3) (.Name y p4) p5, e] X.env = (false, eval (.Subscript (.Name x p3) (.Name y p4) p5) X.env) :: starEach [e] X.env := by rfl) (hst2 : starEach [e] X.env = (false, eval e X.env) :: starEach [] X.env := by rfl) (hpl : (backTo cpos (starEach [e] X.env)).any (·.1) = false := by rfl)
    (ha : ∀ v, assign (.Subscript (.Name x p1) (.Name y p2) tp) X.env v = (do
      let ov ← holding [v] (eval (.Name x p1) X.env)
      let iv ← holding [v, ov] (eval (.Name y p2) X.env)
      standAt tp
      holding [v, ov, iv] (setItem ov iv v)
      release [v, ov, iv] []) := by intro _; rfl)
    (hs : swapsWithSole [.Subscript (.Name x p1) (.Name y p2) tp] (.Call (.Name f p6) [.Subscript (.Name x p3) (.Name y p4) p5, e] [] cpos) pos.line X.env = pure false := by rfl) (hw : swappedStores [.Subscript (.Name x p1) (.Name y p2) tp] (.Call (.Name f p6) [.Subscript (.Name x p3) (.Name y p4) p5, e] [] cpos) X.env = pure none := by rfl)
    (h1 : (assignEach [.Subscript (.Name x p1) (.Name y p2) tp] X.env).map (·.2) = [assign (.Subscript (.Name x p1) (.Name y p2) tp) X.env] := by rfl) :
    PDSo X E (.Assign [.Subscript (.Name x p1) (.Name y p2) tp] (.Call (.Name f p6) [.Subscript (.Name x p3) (.Name y p4) p5, e] [] cpos) pos) (oRec i j dsp de) := by
  obtain ⟨te, pe_, q⟩ := he
  obtain ⟨fa, fd, F, hm, hk, hb⟩ := D_
  refine ⟨_, ps_asg (pe_call (F.mono hkj) hr hg hm hk hb .nil hx0 (pa_cons (pe_ix ix_list (pe_var hN hv hd hcd) (pe_var hN2 hv2 hd2 hcd2) (fun _ _ => rfl)) (pa_cons pe_ pa_nil hst2) hst) hdb hst hpl) (pg_sub (pe_var hN hv hd hcd) (pe_var hN2 hv2 hd2 hcd2) set_list ha) hs hw h1, fun B M G H0 σ δ μ H D0 D1 rp h l => ?_⟩
  obtain ⟨pa, μ1, ds, μ2, n, d, z, z2, rfl, hn, h⟩ := h
  obtain ⟨v, hσ, hv⟩ := rp.rep.at_ i _ z
  obtain rfl : v = .ref pa := hv
  obtain ⟨v2, hσ2, hv2⟩ := rp.rep.at_ j _ z2
  obtain rfl : v2 = .int (n : Nat) := hv2
  have he0 : (pa, ds) ∈ μ1 ++ (pa, ds) :: μ2 := List.mem_append_right _ List.mem_cons_self
  obtain ⟨ws, hH, hr0⟩ := rp.own _ he0
  obtain ⟨u0, hu1, hu2⟩ := RDs.gt hr0 hn
  refine ⟨.ref pa, hσ, .int (n : Nat), hσ2, pa, ws, (n : Nat), u0, rfl, rfl, SqL.of hH, atI_nat hu1, ?_⟩
  refine q B _ σ δ H _ _ _ rp.rep h (fun w e' H2 t2 r2 h2 => ?_) (fun C H2 t2 h2 => l.ex C H2 (rp.fin2 t2) h2)
  have rp2 := rp.stp t2
  refine ⟨B, _, [d, e'], _, _, rp2.rep.ok, ⟨_, _, rfl, RD.ex t2.ex _ _ hu2, _, _, rfl, r2, rfl⟩, h2, fun u r H3 t3 r3 h3 => ?_, fun C H3 t3 h3 => l.ex C H3 (rp2.fin2 t3) h3⟩
  have rp3 := rp2.stp t3
  obtain ⟨ws3, hH3, hr3⟩ := rp3.own _ he0
  have hlt : n < ds.length := (List.getElem?_eq_some_iff.mp hn).1
  refine ⟨.ref pa, hσ, .int (n : Nat), hσ2, pa, ws3, (n : Nat), n, rfl, rfl, hH3, ?_, l.nx _ _ _ _ (rp3.write (RDs.set' r3 n hr3)) h3⟩
  rw [RDs.len hr3]
  show ixN ds.length ((n : Nat) : Int) = some n
  unfold ixN
  simp [hlt]
end
end DL
/-! The defs of fractions: slots, readings, promises; each reading keeps its promise. -/
namespace DL
open PySem PySem.Spec PyProof.Rows L2 PB
theorem iteB {c : Bool} {A B : Prop} (h1 : c = true → A) (h2 : c = false → B) : if c = true then A else B := by
  cases c with
  | true => exact iteT (h1 rfl)
  | false => exact iteF (h2 rfl)
theorem eqD_int (i j : Int) : eqD (.int i) (.int j) = decide (i = j) := by
  unfold eqD
  show PyData.eqv (.int i) (.int j) = _
  simp [PyData.eqv]
  by_cases h : i = j <;> simp [h]
theorem int_shp (i : Int) : (D.int i).shp = true := rfl
section
variable {x y : D} {k : D → Prop} {i j : Int}
theorem ne_of {b : Bool} (hx : x.shp = true) (hy : y.shp = true) (he : eqD x y = b) (h : k (.bl (!b))) : dNe x y k := by
  unfold dNe
  exact ⟨hx, hy, by rw [he]; exact h⟩
theorem eq_of {b : Bool} (hx : x.shp = true) (hy : y.shp = true) (he : eqD x y = b) (h : k (.bl b)) : dEq x y k := by
  unfold dEq
  exact ⟨hx, hy, by rw [he]; exact h⟩
theorem ne_int (h : k (.bl (!decide (i = j)))) : dNe (.int i) (.int j) k := ne_of rfl rfl (eqD_int i j) h
theorem eq_int (h : k (.bl (decide (i = j)))) : dEq (.int i) (.int j) k := eq_of rfl rfl (eqD_int i j) h
theorem ne_intT (e : i = j) (h : k (.bl false)) : dNe (.int i) (.int j) k := ne_of rfl rfl ((eqD_int i j).trans (decide_eq_true e)) h
theorem ne_intF (e : i ≠ j) (h : k (.bl true)) : dNe (.int i) (.int j) k := ne_of rfl rfl ((eqD_int i j).trans (decide_eq_false e)) h
theorem eq_intT (e : i = j) (h : k (.bl true)) : dEq (.int i) (.int j) k := eq_of rfl rfl ((eqD_int i j).trans (decide_eq_true e)) h
theorem eq_intF (e : i ≠ j) (h : k (.bl false)) : dEq (.int i) (.int j) k := eq_of rfl rfl ((eqD_int i j).trans (decide_eq_false e)) h
end
/-! ### isinstance -/
theorem kit_facts : (kitB "NoneType" "int" = some false ∧ kitB "bool" "int" = some true ∧ kitB "int" "int" = some true ∧ kitB "str" "int" = some false ∧ kitB "list" "int" = some false ∧ kitB "tuple" "int" = some false) ∧
    (kitB "NoneType" "bool" = some false ∧ kitB "bool" "bool" = some true ∧ kitB "int" "bool" = some false ∧ kitB "str" "bool" = some false ∧ kitB "list" "bool" = some false ∧ kitB "tuple" "bool" = some false) ∧
    (kitB "NoneType" "tuple" = some false ∧ kitB "bool" "tuple" = some false ∧ kitB "int" "tuple" = some false ∧ kitB "str" "tuple" = some false ∧ kitB "list" "tuple" = some false ∧ kitB "tuple" "tuple" = some true) ∧
    (kitB "NoneType" "str" = some false ∧ kitB "bool" "str" = some false ∧ kitB "int" "str" = some false ∧ kitB "str" "str" = some true ∧ kitB "list" "str" = some false ∧ kitB "tuple" "str" = some false) ∧
    (kitB "NoneType" "list" = some false ∧ kitB "bool" "list" = some false ∧ kitB "int" "list" = some false ∧ kitB "str" "list" = some false ∧ kitB "list" "list" = some true ∧ kitB "tuple" "list" = some false) := by decide +kernel
/-- plain things: none, truths, whole numbers, texts, lists, tuples -/
def D.ok (d : D) : Bool := d.ty.isSome
def D.isInt : D → Bool | .int _ => true | .bl _ => true | _ => false
def D.isBl : D → Bool | .bl _ => true | _ => false
def D.isTup : D → Bool | .tup _ => true | _ => false
def D.isStr : D → Bool | .str _ => true | _ => false
def D.isLst : D → Bool | .lst _ => true | _ => false
theorem isi_int {d : D} (h : d.ok = true) : d.isi "int" = some d.isInt := by
  have ⟨⟨a1, a2, a3, a4, a5, a6⟩, _⟩ := kit_facts
  cases d <;> first | (simp [D.ok, D.ty] at h; done) | assumption
theorem isi_bool {d : D} (h : d.ok = true) : d.isi "bool" = some d.isBl := by
  have ⟨_, ⟨a1, a2, a3, a4, a5, a6⟩, _⟩ := kit_facts
  cases d <;> first | (simp [D.ok, D.ty] at h; done) | assumption
theorem isi_tuple {d : D} (h : d.ok = true) : d.isi "tuple" = some d.isTup := by
  have ⟨_, _, ⟨a1, a2, a3, a4, a5, a6⟩, _⟩ := kit_facts
  cases d <;> first | (simp [D.ok, D.ty] at h; done) | assumption
theorem isi_str {d : D} (h : d.ok = true) : d.isi "str" = some d.isStr := by
  have ⟨_, _, _, ⟨a1, a2, a3, a4, a5, a6⟩, _⟩ := kit_facts
  cases d <;> first | (simp [D.ok, D.ty] at h; done) | assumption
theorem isi_list {d : D} (h : d.ok = true) : d.isi "list" = some d.isLst := by
  have ⟨_, _, _, _, ⟨a1, a2, a3, a4, a5, a6⟩⟩ := kit_facts
  cases d <;> first | (simp [D.ok, D.ty] at h; done) | assumption
/-- the reading of isinstance, its answer known -/
theorem dIsi_of {T : String} {d : D} {b : Bool} {k : D → Prop} (h : d.isi T = some b) (q : k (.bl b)) : isiK (d.isi T) k := by
  rw [h]
  unfold isiK
  exact q
/-! ### is_within -/
abbrev N_is_within : List Str := ["thing", "low", "high"]
def t_is_within : DS :=
  (dRet (dAndV (dIsi "int" (dVar 0)) (dAndV (dNotV (dIsi "bool" (dVar 0))) (dChain rLe rLe (dVar 1) (dVar 0) (dVar 2)))))

def within (d : D) (lo hi : Int) : Bool := match d with
  | .int i => decide (lo ≤ i) && decide (i ≤ hi)
  | _ => false
def sp_is_within : DSp := fun ds k _ => ∃ (d : D) (lo hi : Int), ds = [d, .int lo, .int hi] ∧ d.ok = true ∧ k (.bl (within d lo hi))
theorem len_is_within : ∀ ds k kx, sp_is_within ds k kx → ds.length = 3 := by
  intro _ _ _ h
  unfold sp_is_within at h
  obtain ⟨_, _, _, rfl, _⟩ := h; rfl
theorem pure_is_within (ds : List D) (k : D → Prop) (kx : Addr → Prop) (h : sp_is_within ds k kx) : t_is_within { nx := fun _ => k .non, rt := k, ex := kx } (dstart N_is_within ds) := by
  obtain ⟨d, lo, hi, rfl, ok, h⟩ := h
  refine dIsi_of (isi_int ok) ?_
  show if d.isInt = true then _ else _
  refine iteB (fun c => ?_) (fun c => ?_)
  · refine dIsi_of (isi_bool ok) ?_
    show if (!d.isBl) = true then _ else _
    cases d <;> first | (simp [D.isInt] at c; done) | skip
    · exact iteF h
    · rename_i i
      refine iteT ?_
      show if decide (lo ≤ i) = true then k (.bl (decide (i ≤ hi))) else k (.bl false)
      have h' : k (.bl (decide (lo ≤ i) && decide (i ≤ hi))) := h
      refine iteB (fun c => ?_) (fun c => ?_)
      · rw [c] at h'; exact h'
      · rw [c] at h'; exact h'
  · cases d <;> first | (simp [D.isInt] at c; done) | exact h
/-! ### common, made -/
abbrev N_common : List Str := ["one", "other"]
def t_common : DS :=
  (dSeq (dWhile (dB (dOp dNe (dVar 1) (dC (.int 0))))
    (dPar 0 1 (dVar 1) (dMod (dVar 0) (dVar 1))))
    (dRet (dVar 0)))

def sp_common : DSp := fun ds k _ => ∃ (a b : Int), ds = [.int a, .int b] ∧ 0 ≤ a ∧ 0 ≤ b ∧ k (.int (Int.gcd a b))
theorem len_common : ∀ ds k kx, sp_common ds k kx → ds.length = 2 := by
  intro _ _ _ h
  unfold sp_common at h
  obtain ⟨_, _, rfl, _⟩ := h; rfl
theorem gcd_step (x y : Int) (hx : 0 ≤ x) (hy : 0 < y) : Int.gcd y (x % y) = Int.gcd x y := by
  rw [Int.gcd_comm x y]
  show y.natAbs.gcd (x % y).natAbs = y.natAbs.gcd x.natAbs
  have e : (x % y).natAbs = x.natAbs % y.natAbs := by
    have h1 : ((x.natAbs : Nat) : Int) = x := by omega
    have h2 : ((y.natAbs : Nat) : Int) = y := by omega
    have h3 : x % y = ((x.natAbs % y.natAbs : Nat) : Int) := by rw [Int.natCast_emod, h1, h2]
    rw [h3, Int.natAbs_natCast]
  rw [e, Nat.gcd_comm _ (x.natAbs % y.natAbs), ← Nat.gcd_rec]
theorem pure_common (ds : List D) (k : D → Prop) (kx : Addr → Prop) (h : sp_common ds k kx) : t_common { nx := fun _ => k .non, rt := k, ex := kx } (dstart N_common ds) := by
  obtain ⟨a, b, rfl, ha, hb, h⟩ := h
  refine ⟨fun m δ => ∃ x y : Int, δ = [some (.int x), some (.int y)] ∧ 0 ≤ x ∧ 0 ≤ y ∧ Int.gcd x y = Int.gcd a b ∧ m = y.toNat, ⟨_, a, b, rfl, ha, hb, rfl, rfl⟩, ?_⟩
  rintro m δ' ⟨x, y, rfl, hx, hy, hg, rfl⟩
  by_cases c : y = 0
  · refine ne_intT c (iteF ?_)
    show k (.int x)
    have e : ((Int.gcd a b : Nat) : Int) = x := by
      rw [← hg, c, Int.gcd_zero_right]
      omega
    rw [e] at h
    exact h
  · refine ne_intF c (iteT ?_)
    have hy' : 0 < y := by omega
    have h1 := Int.emod_lt_of_pos x hy'
    have h2 := Int.emod_nonneg x (by omega : y ≠ 0)
    exact ⟨hy', _, (show (x % y).toNat < y.toNat by omega), y, x % y, rfl, by omega, h2, by rw [gcd_step x y hx hy', hg], rfl⟩
abbrev N_made : List Str := ["top", "bottom", "by"]
def t_made : DS :=
  (dSeq (dSet 2 (dCall sp_common (dCons (dC1 cAbs (dVar 0)) (dCons (dVar 1) dNil))))
    (dRet (dTup (dCons (dDiv (dVar 0) (dVar 2)) (dCons (dDiv (dVar 1) (dVar 2)) dNil)))))

def sp_made : DSp := fun ds k _ => ∃ (t b : Int), ds = [.int t, .int b] ∧ 0 < b ∧ b.natAbs < 2 ^ 9000 ∧ k (fr (mkRat t b.toNat))
theorem len_made : ∀ ds k kx, sp_made ds k kx → ds.length = 2 := by
  intro _ _ _ h
  unfold sp_made at h
  obtain ⟨_, _, rfl, _⟩ := h; rfl
theorem abs_if (t : Int) : (if t < 0 then -t else t) = (t.natAbs : Int) := by split <;> omega
theorem pure_made (ds : List D) (k : D → Prop) (kx : Addr → Prop) (h : sp_made ds k kx) : t_made { nx := fun _ => k .non, rt := k, ex := kx } (dstart N_made ds) := by
  obtain ⟨t, b, rfl, hb, hs, h⟩ := h
  refine ⟨if t < 0 then -t else t, b, rfl, by rw [abs_if]; omega, by omega, ?_⟩
  rw [abs_if]
  have hg : Int.gcd (t.natAbs : Int) b = t.natAbs.gcd b.toNat := by
    have e : b.natAbs = b.toNat := by omega
    show (t.natAbs : Int).natAbs.gcd b.natAbs = _
    rw [e, Int.natAbs_natCast]
  rw [hg]
  have g0 : 0 < t.natAbs.gcd b.toNat := Nat.gcd_pos_of_pos_right _ (by omega)
  have g1 : t.natAbs.gcd b.toNat ≤ b.toNat := Nat.gcd_le_right _ (by omega)
  have hw : CDivW t ((t.natAbs.gcd b.toNat : Nat) : Int) := wide_div (b := 9000) (by omega) (by rw [Int.natAbs_natCast]; omega) (by decide) (by decide)
  have hw2 : CDivW b ((t.natAbs.gcd b.toNat : Nat) : Int) := wide_div (b := 9000) (by omega) (by rw [Int.natAbs_natCast]; omega) (by decide) (by decide)
  refine ⟨hw, hw2, ?_⟩
  have e : fr (mkRat t b.toNat) = .tup [.int (t / ((t.natAbs.gcd b.toNat : Nat) : Int)), .int (b / ((t.natAbs.gcd b.toNat : Nat) : Int))] := by
    unfold fr
    rw [Rat.num_mkRat, Rat.den_mkRat, if_neg (by omega), if_neg (by omega), Nat.gcd_comm b.toNat, Int.natCast_ediv]
    have : ((b.toNat : Nat) : Int) = b := by omega
    rw [this]
  rw [e] at h
  exact h
/-! ### sums, products -/
/-- sizes at which every step of a sum or product goes -/
def Fit (x : Rat) : Prop := sz x 4490
theorem Fit.of {x : Rat} {n : Nat} (h : sz x n) (l : n ≤ 4490 := by decide) : Fit x := h.mono l
theorem mulW {i j : Int} {n m : Nat} (hi : i.natAbs < 2 ^ n) (hj : j.natAbs < 2 ^ m) (l : n + m ≤ 1000000) (hn : 0 < n) (hm : 0 < m) : CMulW i j := wide_mul hi hj hn hm l
theorem Fit.nd {x y : Rat} (hx : Fit x) (hy : Fit y) : CMulW x.num y.den := mulW hx.2 (by rw [Int.natAbs_natCast]; exact hy.1) (by decide) (by decide) (by decide)
theorem Fit.nn {x y : Rat} (hx : Fit x) (hy : Fit y) : CMulW x.num y.num := mulW hx.2 hy.2 (by decide) (by decide) (by decide)
theorem Fit.dd {x y : Rat} (hx : Fit x) (hy : Fit y) : CMulW x.den y.den := mulW (by rw [Int.natAbs_natCast]; exact hx.1) (by rw [Int.natAbs_natCast]; exact hy.1) (by decide) (by decide) (by decide)
theorem Fit.dn {x y : Rat} (hx : Fit x) (hy : Fit y) : CMulW x.den y.num := mulW (by rw [Int.natAbs_natCast]; exact hx.1) hy.2 (by decide) (by decide) (by decide)
theorem pow_le9 : (2 : Nat) ^ (4490 + 4490) ≤ 2 ^ 9000 := Nat.pow_le_pow_right (n := 2) (by decide) (by decide)
theorem Fit.bot {x y : Rat} (hx : Fit x) (hy : Fit y) : 0 < (x.den : Int) * (y.den : Int) ∧ ((x.den : Int) * (y.den : Int)).natAbs < 2 ^ 9000 := by
  have h := mul_lt_pow hx.1 hy.1
  have e : ((x.den : Int) * (y.den : Int)) = ((x.den * y.den : Nat) : Int) := by rw [Int.natCast_mul]
  have p := Nat.mul_pos x.den_pos y.den_pos
  rw [e, Int.natAbs_natCast]
  exact ⟨by omega, Nat.lt_of_lt_of_le h pow_le9⟩
theorem toNat_dd (x y : Rat) : ((x.den : Int) * (y.den : Int)).toNat = x.den * y.den := by
  rw [← Int.natCast_mul, Int.toNat_natCast]
abbrev N_plus : List Str := ["one", "other"]
def t_plus : DS :=
  (dRet (dCall sp_made (dCons (dAdd (dMul (dOp dIx (dVar 0) (dC (.int 0))) (dOp dIx (dVar 1) (dC (.int 1)))) (dMul (dOp dIx (dVar 1) (dC (.int 0))) (dOp dIx (dVar 0) (dC (.int 1))))) (dCons (dMul (dOp dIx (dVar 0) (dC (.int 1))) (dOp dIx (dVar 1) (dC (.int 1)))) dNil))))

def sp_plus : DSp := fun ds k _ => ∃ (x y : Rat), ds = [fr x, fr y] ∧ Fit x ∧ Fit y ∧ k (fr (x + y))
theorem len_plus : ∀ ds k kx, sp_plus ds k kx → ds.length = 2 := by
  intro _ _ _ h
  unfold sp_plus at h
  obtain ⟨_, _, rfl, _⟩ := h; rfl
theorem pure_plus (ds : List D) (k : D → Prop) (kx : Addr → Prop) (h : sp_plus ds k kx) : t_plus { nx := fun _ => k .non, rt := k, ex := kx } (dstart N_plus ds) := by
  obtain ⟨x, y, rfl, hx, hy, h⟩ := h
  refine ⟨hx.nd hy, hy.nd hx, hx.dd hy, _, _, rfl, (hx.bot hy).1, (hx.bot hy).2, ?_⟩
  rw [toNat_dd, ← Rat.add_def']
  exact h
abbrev N_minus : List Str := ["one", "other"]
def t_minus : DS :=
  (dRet (dCall sp_made (dCons (dSub (dMul (dOp dIx (dVar 0) (dC (.int 0))) (dOp dIx (dVar 1) (dC (.int 1)))) (dMul (dOp dIx (dVar 1) (dC (.int 0))) (dOp dIx (dVar 0) (dC (.int 1))))) (dCons (dMul (dOp dIx (dVar 0) (dC (.int 1))) (dOp dIx (dVar 1) (dC (.int 1)))) dNil))))

def sp_minus : DSp := fun ds k _ => ∃ (x y : Rat), ds = [fr x, fr y] ∧ Fit x ∧ Fit y ∧ k (fr (x - y))
theorem len_minus : ∀ ds k kx, sp_minus ds k kx → ds.length = 2 := by
  intro _ _ _ h
  unfold sp_minus at h
  obtain ⟨_, _, rfl, _⟩ := h; rfl
theorem pure_minus (ds : List D) (k : D → Prop) (kx : Addr → Prop) (h : sp_minus ds k kx) : t_minus { nx := fun _ => k .non, rt := k, ex := kx } (dstart N_minus ds) := by
  obtain ⟨x, y, rfl, hx, hy, h⟩ := h
  refine ⟨hx.nd hy, hy.nd hx, hx.dd hy, _, _, rfl, (hx.bot hy).1, (hx.bot hy).2, ?_⟩
  rw [toNat_dd, ← Rat.sub_def']
  exact h
abbrev N_times : List Str := ["one", "other"]
def t_times : DS :=
  (dRet (dCall sp_made (dCons (dMul (dOp dIx (dVar 0) (dC (.int 0))) (dOp dIx (dVar 1) (dC (.int 0)))) (dCons (dMul (dOp dIx (dVar 0) (dC (.int 1))) (dOp dIx (dVar 1) (dC (.int 1)))) dNil))))

def sp_times : DSp := fun ds k _ => ∃ (x y : Rat), ds = [fr x, fr y] ∧ Fit x ∧ Fit y ∧ k (fr (x * y))
theorem len_times : ∀ ds k kx, sp_times ds k kx → ds.length = 2 := by
  intro _ _ _ h
  unfold sp_times at h
  obtain ⟨_, _, rfl, _⟩ := h; rfl
theorem pure_times (ds : List D) (k : D → Prop) (kx : Addr → Prop) (h : sp_times ds k kx) : t_times { nx := fun _ => k .non, rt := k, ex := kx } (dstart N_times ds) := by
  obtain ⟨x, y, rfl, hx, hy, h⟩ := h
  refine ⟨hx.nn hy, hx.dd hy, _, _, rfl, (hx.bot hy).1, (hx.bot hy).2, ?_⟩
  rw [toNat_dd, ← Rat.mul_def']
  exact h
abbrev N_by : List Str := ["one", "other"]
def t_by : DS :=
  (dRet (dCall sp_made (dCons (dMul (dOp dIx (dVar 0) (dC (.int 0))) (dOp dIx (dVar 1) (dC (.int 1)))) (dCons (dMul (dOp dIx (dVar 0) (dC (.int 1))) (dOp dIx (dVar 1) (dC (.int 0)))) dNil))))

def sp_by : DSp := fun ds k _ => ∃ (x y : Rat), ds = [fr x, fr y] ∧ Fit x ∧ Fit y ∧ 0 < y ∧ k (fr (x / y))
theorem len_by : ∀ ds k kx, sp_by ds k kx → ds.length = 2 := by
  intro _ _ _ h
  unfold sp_by at h
  obtain ⟨_, _, rfl, _⟩ := h; rfl
theorem pure_by (ds : List D) (k : D → Prop) (kx : Addr → Prop) (h : sp_by ds k kx) : t_by { nx := fun _ => k .non, rt := k, ex := kx } (dstart N_by ds) := by
  obtain ⟨x, y, rfl, hx, hy, hp, h⟩ := h
  have hn := num_pos hp
  have e : (y.num.toNat : Int) = y.num := by omega
  have p := Nat.mul_pos x.den_pos (show 0 < y.num.toNat by omega)
  have e2 : ((x.den : Int) * y.num) = ((x.den * y.num.toNat : Nat) : Int) := by rw [Int.natCast_mul, e]
  have h9 : x.den * y.num.toNat < 2 ^ 9000 := Nat.lt_of_lt_of_le (mul_lt_pow hx.1 (show y.num.toNat < 2 ^ 4490 by have := hy.2; omega)) pow_le9
  refine ⟨hx.nd hy, hx.dn hy, _, _, rfl, by omega, by rw [e2, Int.natAbs_natCast]; exact h9, ?_⟩
  rw [show ((x.den : Int) * y.num).toNat = x.den * y.num.toNat by rw [e2, Int.toNat_natCast], ← div_def' hp]
  exact h
abbrev N_is_less : List Str := ["one", "other"]
def t_is_less : DS :=
  (dRet (dLt (dMul (dOp dIx (dVar 0) (dC (.int 0))) (dOp dIx (dVar 1) (dC (.int 1)))) (dMul (dOp dIx (dVar 1) (dC (.int 0))) (dOp dIx (dVar 0) (dC (.int 1))))))

def sp_is_less : DSp := fun ds k _ => ∃ (x y : Rat), ds = [fr x, fr y] ∧ Fit x ∧ Fit y ∧ k (.bl (decide (x < y)))
theorem len_is_less : ∀ ds k kx, sp_is_less ds k kx → ds.length = 2 := by
  intro _ _ _ h
  unfold sp_is_less at h
  obtain ⟨_, _, rfl, _⟩ := h; rfl
theorem dec_lt (x y : Rat) : decide (x < y) = decide (x.num * (y.den : Int) < y.num * (x.den : Int)) := by
  by_cases c : x < y
  · rw [decide_eq_true c, decide_eq_true ((Rat.lt_iff x y).mp c)]
  · rw [decide_eq_false c, decide_eq_false (fun q => c ((Rat.lt_iff x y).mpr q))]
theorem pure_is_less (ds : List D) (k : D → Prop) (kx : Addr → Prop) (h : sp_is_less ds k kx) : t_is_less { nx := fun _ => k .non, rt := k, ex := kx } (dstart N_is_less ds) := by
  obtain ⟨x, y, rfl, hx, hy, h⟩ := h
  rw [dec_lt] at h
  exact ⟨hx.nd hy, hy.nd hx, h⟩
end DL
/-! Parts, shares, rows known; refusals; pours. -/
namespace DL
open PySem PySem.Spec PyProof.Rows L2 PB
abbrev GREAT : Nat := 100000000000000000000
def Share (x : Rat) : Prop := 0 ≤ x ∧ x ≤ 1 ∧ x.den < GREAT
def Part (p : Rat) : Prop := 0 < p ∧ p < 1 ∧ p.den ≤ 12
def Parts (p q : Rat) : Prop := Part p ∧ Part q ∧ 1 ≤ p + q
def IsShare (d : D) : Prop := ∃ x, d = fr x ∧ Share x
def pts (p q : Rat) : D := .tup [fr p, fr q]
def IsParts (d : D) : Prop := ∃ p q, d = pts p q ∧ Parts p q
def IsRow (d : D) : Prop := ∃ r : List Bool, d = rw_ r ∧ r.length ≤ 40
theorem plain_ok {d : D} (h : d.plain = true) : d.ok = true := by
  cases d <;> first | rfl | (simp [D.plain] at h; done)
theorem plain_tup {ds : List D} (h : (D.tup ds).plain = true) : ∀ d ∈ ds, d.plain = true := by
  have h' : plains ds = true := by simpa [D.plain] using h
  clear h
  induction ds with
  | nil => intro d hd; cases hd
  | cons a r ih =>
    have h2 : a.plain = true ∧ plains r = true := by simpa [plains] using h'
    intro d hd
    rcases List.mem_cons.mp hd with e | e
    · rw [e]; exact h2.1
    · exact ih h2.2 d e
theorem plain_lst {ds : List D} (h : (D.lst ds).plain = true) : ∀ d ∈ ds, d.plain = true := plain_tup (ds := ds) h
theorem plains_of {ds : List D} (h : ∀ d ∈ ds, d.plain = true) : plains ds = true := by
  induction ds with
  | nil => rfl
  | cons a r ih =>
    show (a.plain && plains r) = true
    rw [h a List.mem_cons_self, ih (fun d hd => h d (List.mem_cons_of_mem _ hd))]; rfl
theorem fr_plain (x : Rat) : (fr x).plain = true := rfl
theorem fr_shp (x : Rat) : (fr x).shp = true := rfl
/-- two whole numbers make a fraction -/
theorem fr_of {t b : Int} (hb : 0 < b) (hg : Int.gcd t b = 1) : ∃ x : Rat, D.tup [.int t, .int b] = fr x ∧ x.num = t ∧ (x.den : Int) = b := by
  have e : ((b.toNat : Nat) : Int) = b := by omega
  refine ⟨⟨t, b.toNat, by omega, ?_⟩, ?_, rfl, e⟩
  · show t.natAbs.gcd b.toNat = 1
    have : t.natAbs.gcd b.natAbs = 1 := hg
    rwa [show b.natAbs = b.toNat by omega] at this
  · unfold fr
    rw [e]
theorem fr_gcd (x : Rat) : Int.gcd x.num x.den = 1 := x.reduced
abbrev N_is_share : List Str := ["thing"]
def t_is_share : DS :=
  (dSeq (dIfS (dOr (dNot (dB (dIsi "tuple" (dVar 0)))) (dOr (dB (dOp dNe (dC1 cLen (dVar 0)) (dC (.int 2)))) (dNot (dB (dCall sp_is_within (dCons (dOp dIx (dVar 0) (dC (.int 1))) (dCons (dC (.int 1)) (dCons (dSub (dC (.int 100000000000000000000)) (dC (.int 1))) dNil)))))))) (dRet (dC (.bl false))) dNext)
    (dRet (dAndV (dCall sp_is_within (dCons (dOp dIx (dVar 0) (dC (.int 0))) (dCons (dC (.int 0)) (dCons (dOp dIx (dVar 0) (dC (.int 1))) dNil)))) (dOp dEq (dCall sp_common (dCons (dOp dIx (dVar 0) (dC (.int 0))) (dCons (dOp dIx (dVar 0) (dC (.int 1))) dNil))) (dC (.int 1))))))

def sp_is_share : DSp := fun ds k _ => ∃ (d : D), ds = [d] ∧ d.plain = true ∧ ∀ b : Bool, (b = true ↔ IsShare d) → k (.bl b)
theorem len_is_share : ∀ ds k kx, sp_is_share ds k kx → ds.length = 1 := by
  intro _ _ _ h
  unfold sp_is_share at h
  obtain ⟨_, rfl, _⟩ := h; rfl
theorem not_share {d : D} (h : ∀ x, d ≠ fr x) : false = true ↔ IsShare d := ⟨(fun q => nomatch q), fun ⟨x, e, _⟩ => absurd e (h x)⟩
theorem within_int {d : D} {lo hi : Int} (h : within d lo hi = true) : ∃ i, d = .int i ∧ lo ≤ i ∧ i ≤ hi := by
  cases d <;> first | (simp [within] at h; done) | skip
  rename_i i
  simp [within] at h
  exact ⟨i, rfl, h.1, h.2⟩
theorem within_of {i lo hi : Int} (h1 : lo ≤ i) (h2 : i ≤ hi) : within (.int i) lo hi = true := by simp [within, h1, h2]
theorem share_num {x : Rat} (h0 : 0 ≤ x) (h1 : x ≤ 1) : 0 ≤ x.num ∧ x.num ≤ x.den := by
  have h2 := (Rat.le_iff x 1).mp h1
  have h3 := Rat.num_nonneg.mpr h0
  simp at h2
  omega
theorem share_of_num {x : Rat} (h0 : 0 ≤ x.num) (h1 : x.num ≤ x.den) : 0 ≤ x ∧ x ≤ 1 := by
  refine ⟨Rat.num_nonneg.mp h0, (Rat.le_iff x 1).mpr ?_⟩
  simp; omega
theorem pure_is_share (ds : List D) (k : D → Prop) (kx : Addr → Prop) (h : sp_is_share ds k kx) : t_is_share { nx := fun _ => k .non, rt := k, ex := kx } (dstart N_is_share ds) := by
  obtain ⟨d, rfl, pl, h⟩ := h
  refine dIsi_of (isi_tuple (plain_ok pl)) ?_
  cases d with
  | tup ds =>
    have hne : ds.length ≠ 2 → k (.bl false) := fun hl => h false (not_share fun x e => by
      injection e with e
      rw [e] at hl
      exact hl rfl)
    refine iteF ?_
    by_cases hl : ds.length = 2
    · refine ne_intT (show (ds.length : Int) = 2 by omega) (iteF ?_)
      match ds, hl, pl, h with
      | [a, b], _, pl, h =>
        have pa := plain_tup pl a (by simp)
        have pb := plain_tup pl b (by simp)
        refine ⟨b, 1, 100000000000000000000 - 1, rfl, plain_ok pb, ?_⟩
        show if (!within b 1 (100000000000000000000 - 1)) = true then _ else _
        cases hw : within b 1 (100000000000000000000 - 1) with
        | false =>
          refine iteT (h false ⟨(fun q => nomatch q), fun ⟨x, e, s1, s2, s3⟩ => ?_⟩)
          unfold fr at e
          injection e with e
          injection e with e1 e2
          injection e2 with e2
          rw [e2] at hw
          have := x.den_pos
          rw [within_of (by omega) (by have : x.den < 100000000000000000000 := s3; omega)] at hw
          cases hw
        | true =>
          obtain ⟨n, rfl, h1, h2⟩ := within_int hw
          refine iteF ?_
          refine ⟨a, 0, n, rfl, plain_ok pa, ?_⟩
          show if within a 0 n = true then _ else _
          cases hv : within a 0 n with
          | false =>
            refine iteF (h false ⟨(fun q => nomatch q), fun ⟨x, e, s1, s2, s3⟩ => ?_⟩)
            unfold fr at e
            injection e with e
            injection e with e1 e2
            injection e2 with e2
            injection e2 with e2
            rw [e1] at hv
            have := share_num s1 s2
            rw [within_of (by omega) (by omega)] at hv
            cases hv
          | true =>
            obtain ⟨t, rfl, h3, h4⟩ := within_int hv
            refine iteT ⟨t, n, rfl, h3, by omega, eq_int ?_⟩
            refine h _ ⟨fun q => ?_, fun ⟨x, e, s1, s2, s3⟩ => ?_⟩
            · have hg : Int.gcd t n = 1 := by have := of_decide_eq_true q; omega
              obtain ⟨x, e, ex, ed⟩ := fr_of (by omega) hg
              have := share_of_num (x := x) (by omega) (by omega)
              exact ⟨x, e, this.1, this.2, by show x.den < 100000000000000000000; omega⟩
            · unfold fr at e
              injection e with e
              injection e with e1 e2
              injection e1 with e1
              injection e2 with e2
              injection e2 with e2
              rw [e1, e2, fr_gcd]; rfl
    · exact ne_intF (show ¬ (ds.length : Int) = 2 by omega) (iteT (hne hl))
  | _ => exact iteT (iteT (h false (not_share fun x e => by unfold fr at e; cases e)))
end DL
namespace DL
open PySem PySem.Spec PyProof.Rows L2 PB
/-! ### all([.. for .. in ..]) -/
theorem all_lc {items : List D} {P : D → Prop} {k : D → Prop} {j : Nat} {de : DE} {δw : Dst} (hl : items.length ≤ 100000)
    (hs : ∀ d ∈ items, ∀ k' : D → Prop, (∀ b : Bool, (b = true ↔ P d) → k' (.bl b)) → de (δw.set j (some d)) k' (fun _ => False)) (hk : ∀ b : Bool, (b = true ↔ ∀ d ∈ items, P d) → k (.bl b)) :
    items.length ≤ 100000 ∧ ∃ Iv : Nat → List D → Prop, Iv 0 [] ∧
      (∀ i acc d, items[i]? = some d → Iv i acc → gN j d δw (fun δ2 => dYes δ2 (fun b => if b = true then de δ2 (fun y => Iv (i + 1) (acc ++ [y])) (fun _ => False) else Iv (i + 1) acc) (fun _ => False))) ∧ ∀ acc, Iv items.length acc → cAll (.lst acc) k := by
  refine ⟨hl, fun i acc => ∃ bs : List Bool, acc = bs.map D.bl ∧ (bs.all id = true ↔ ∀ d ∈ items.take i, P d), ⟨[], rfl, by simp⟩, fun i acc d hd hI => ?_, fun acc hI => ?_⟩
  · obtain ⟨bs, rfl, hb⟩ := hI
    refine hs d (List.mem_of_getElem? hd) _ fun b hb2 => ⟨bs ++ [b], by simp, ?_⟩
    rw [List.take_add_one, hd]
    simp only [List.all_append, Bool.and_eq_true, hb, Option.toList_some, List.mem_append, List.mem_singleton, List.all_cons, List.all_nil, id, Bool.and_true, hb2]
    constructor
    · rintro ⟨h1, h2⟩ x (hx | rfl)
      · exact h1 x hx
      · exact h2
    · intro h
      exact ⟨fun x hx => h x (.inl hx), h d (.inr rfl)⟩
  · obtain ⟨bs, rfl, hb⟩ := hI
    rw [List.take_length] at hb
    exact ⟨bs, rfl, hk _ hb⟩
theorem shareD_fr {x : Rat} : IsShare (fr x) ↔ Share x := ⟨fun ⟨y, e, h⟩ => fr_inj e ▸ h, fun h => ⟨x, rfl, h⟩⟩
theorem part_share {p : Rat} (h : Part p) : Share p := ⟨Rat.le_of_lt h.1, Rat.le_of_lt h.2.1, Nat.lt_of_le_of_lt h.2.2 (by decide)⟩
theorem part_sz {p : Rat} (h : Part p) : sz p 4 := sz_unit (Rat.le_of_lt h.1) (Rat.le_of_lt h.2.1) (Nat.lt_of_le_of_lt h.2.2 (by decide))
theorem lt_num1 {x : Rat} : x < 1 ↔ x.num < x.den := by
  rw [Rat.lt_iff]; simp
theorem pos_num {x : Rat} : 0 < x ↔ 0 < x.num := by
  rw [Rat.lt_iff]; simp
theorem part_iff {x : Rat} : Part x ↔ (0 < x.num ∧ x.num < x.den ∧ (x.den : Int) ≤ 12) := by
  unfold Part
  rw [pos_num, lt_num1]
  constructor
  · rintro ⟨a, b, c⟩; exact ⟨a, b, by omega⟩
  · rintro ⟨a, b, c⟩; exact ⟨a, b, by omega⟩
abbrev N_are_parts : List Str := ["thing", "one"]
def t_are_parts : DS :=
  (dSeq (dIfS (dOr (dNot (dB (dIsi "tuple" (dVar 0)))) (dOr (dB (dOp dNe (dC1 cLen (dVar 0)) (dC (.int 2)))) (dNot (dB (dC1 cAll (dLc (dItT (dVar 0)) (gN 1) dYes (dCall sp_is_share (dCons (dVar 1) dNil)) [1])))))) (dRet (dC (.bl false))) dNext)
    (dSeq (dIfS (dNot (dB (dC1 cAll (dLc (dItT (dVar 0)) (gN 1) dYes (dChain3 rLt rLt rLe (dC (.int 0)) (dOp dIx (dVar 1) (dC (.int 0))) (dOp dIx (dVar 1) (dC (.int 1))) (dC (.int 12))) [1])))) (dRet (dC (.bl false))) dNext)
    (dRet (dNotV (dCall sp_is_less (dCons (dCall sp_plus (dCons (dOp dIx (dVar 0) (dC (.int 0))) (dCons (dOp dIx (dVar 0) (dC (.int 1))) dNil))) (dCons (dTup (dCons (dC (.int 1)) (dCons (dC (.int 1)) dNil))) dNil)))))))

def sp_are_parts : DSp := fun ds k _ => ∃ (d : D), ds = [d] ∧ d.plain = true ∧ ∀ b : Bool, (b = true ↔ IsParts d) → k (.bl b)
theorem len_are_parts : ∀ ds k kx, sp_are_parts ds k kx → ds.length = 1 := by
  intro _ _ _ h
  unfold sp_are_parts at h
  obtain ⟨_, rfl, _⟩ := h; rfl
theorem noParts {d : D} (h : ∀ p q, Parts p q → d ≠ pts p q) : false = true ↔ IsParts d := ⟨(fun q => nomatch q), fun ⟨p, q, e, z⟩ => absurd e (h p q z)⟩
theorem one_part (x : Rat) : IsShare (fr x) ∨ True := .inr trivial
theorem pure_are_parts (ds : List D) (k : D → Prop) (kx : Addr → Prop) (h : sp_are_parts ds k kx) : t_are_parts { nx := fun _ => k .non, rt := k, ex := kx } (dstart N_are_parts ds) := by
  obtain ⟨d, rfl, pl, h⟩ := h
  refine dIsi_of (isi_tuple (plain_ok pl)) ?_
  cases d with
  | tup ds =>
    refine iteF ?_
    by_cases hl : ds.length = 2
    · refine ne_intT (show (ds.length : Int) = 2 by omega) (iteF ?_)
      match ds, hl, pl, h with
      | [a, b], _, pl, h =>
        refine all_lc (P := IsShare) (by simp) (fun d hd k' hk => ⟨d, rfl, plain_tup pl d hd, hk⟩) (fun c hc => ?_)
        show if (!c) = true then _ else _
        cases c with
        | false =>
          refine iteT (h false (noParts fun p q hpq e => ?_))
          injection e with e
          injection e with e1 e2
          injection e2 with e2
          have := hc.mpr (fun d hd => by
            simp at hd
            rcases hd with rfl | rfl
            · rw [e1]; exact ⟨p, rfl, part_share hpq.1⟩
            · rw [e2]; exact ⟨q, rfl, part_share hpq.2.1⟩)
          cases this
        | true =>
          refine iteF ?_
          have hs := hc.mp rfl
          obtain ⟨x, rfl, hx⟩ := hs a (by simp)
          obtain ⟨y, rfl, hy⟩ := hs b (by simp)
          have hx1 := share_num hx.1 hx.2.1
          have hy1 := share_num hy.1 hy.2.1
          refine all_lc (P := fun d => ∀ z, d = fr z → Part z) (by simp) (fun d hd k' hk => ?_) (fun c hc => ?_)
          · have key : ∀ z : Rat, (∀ b : Bool, (b = true ↔ Part z) → k' (.bl b)) → dChain3 rLt rLt rLe (dC (.int 0)) (dOp dIx (dVar 1) (dC (.int 0))) (dOp dIx (dVar 1) (dC (.int 1))) (dC (.int 12)) [some (.tup [fr x, fr y]), some (fr z)] k' (fun _ => False) := fun z hz => by
              show if decide ((0 : Int) < z.num) = true then _ else _
              rw [show Part z ↔ _ from part_iff] at hz
              refine iteB (fun c1 => ?_) (fun c1 => ?_)
              · show if decide (z.num < (z.den : Int)) = true then _ else _
                have c1 := of_decide_eq_true c1
                refine iteB (fun c2 => ?_) (fun c2 => ?_)
                · have c2 := of_decide_eq_true c2
                  refine hz _ ⟨fun c3 => ⟨c1, c2, of_decide_eq_true c3⟩, fun c3 => decide_eq_true c3.2.2⟩
                · have c2 := of_decide_eq_false c2
                  exact hz false ⟨(fun q => nomatch q), fun q => absurd q.2.1 c2⟩
              · have c1 := of_decide_eq_false c1
                exact hz false ⟨(fun q => nomatch q), fun q => absurd q.1 c1⟩
            have hd' : d = fr x ∨ d = fr y := by simpa using hd
            rcases hd' with rfl | rfl
            · exact key x fun b hb => hk b (hb.trans ⟨fun q z e => fr_inj e ▸ q, fun q => q x rfl⟩)
            · exact key y fun b hb => hk b (hb.trans ⟨fun q z e => fr_inj e ▸ q, fun q => q y rfl⟩)
          · show if (!c) = true then _ else _
            cases c with
            | false =>
              refine iteT (h false (noParts fun p q hpq e => ?_))
              injection e with e
              injection e with e1 e2
              injection e2 with e2
              have e1 := fr_inj e1
              have e2 := fr_inj e2
              subst e1 e2
              have := hc.mpr (fun d hd => by
                simp at hd
                rcases hd with rfl | rfl
                · intro z e; exact fr_inj e ▸ hpq.1
                · intro z e; exact fr_inj e ▸ hpq.2.1)
              cases this
            | true =>
              refine iteF ?_
              have hp := hc.mp rfl
              have px := hp (fr x) (by simp) x rfl
              have py := hp (fr y) (by simp) y rfl
              have fx := Fit.of (part_sz px)
              have fy := Fit.of (part_sz py)
              refine ⟨x, y, rfl, fx, fy, x + y, 1, rfl, Fit.of (sz_add (part_sz px) (part_sz py)), Fit.of sz_one, ?_⟩
              show k (.bl (!decide (x + y < 1)))
              refine h _ ⟨fun c => ⟨x, y, rfl, px, py, ?_⟩, fun ⟨p, q, e, hpq⟩ => ?_⟩
              · have c' : decide (x + y < 1) = false := by simpa using c
                exact Rat.not_lt.mp (of_decide_eq_false c')
              · injection e with e
                injection e with e1 e2
                injection e2 with e2
                have e1 := fr_inj e1
                have e2 := fr_inj e2
                subst e1 e2
                rw [decide_eq_false (Rat.not_lt.mpr hpq.2.2)]; rfl
    · refine ne_intF (show ¬ (ds.length : Int) = 2 by omega) (iteT (h false (noParts fun p q _ e => hl ?_)))
      injection e with e
      rw [e]; rfl
  | _ => exact iteT (iteT (h false (noParts fun p q _ e => by unfold pts at e; cases e)))
/-! ### pours, rows -/
def IsPour (d : D) : Prop := ∃ b, d = wd b
abbrev N_is_pour : List Str := ["thing"]
def t_is_pour : DS :=
  (dRet (dAndV (dIsi "str" (dVar 0)) (dOp (dIn false) (dVar 0) (dTup (dCons (dC (.str "right")) (dCons (dC (.str "left")) dNil))))))

def sp_is_pour : DSp := fun ds k _ => ∃ (d : D), ds = [d] ∧ d.plain = true ∧ ∀ b : Bool, (b = true ↔ IsPour d) → k (.bl b)
theorem len_is_pour : ∀ ds k kx, sp_is_pour ds k kx → ds.length = 1 := by
  intro _ _ _ h
  unfold sp_is_pour at h
  obtain ⟨_, rfl, _⟩ := h; rfl
theorem in_pour (x : Str) : (inD (.str x) [.str "right", .str "left"] = true) ↔ IsPour (.str x) := by
  show ([V.str "right", V.str "left"].any fun y => eqV y (.str x)) = true ↔ _
  simp only [List.any_cons, List.any_nil, Bool.or_false, Bool.or_eq_true]
  constructor
  · rintro (h | h)
    · exact ⟨false, by rw [← show ("right" : Str) = x from eq_of_beq h]; rfl⟩
    · exact ⟨true, by rw [← show ("left" : Str) = x from eq_of_beq h]; rfl⟩
  · rintro ⟨b, e⟩
    cases b with
    | false => injection e with e; exact .inl (by rw [e]; exact beq_self_eq_true _)
    | true => injection e with e; exact .inr (by rw [e]; exact beq_self_eq_true _)
theorem pure_is_pour (ds : List D) (k : D → Prop) (kx : Addr → Prop) (h : sp_is_pour ds k kx) : t_is_pour { nx := fun _ => k .non, rt := k, ex := kx } (dstart N_is_pour ds) := by
  obtain ⟨d, rfl, pl, h⟩ := h
  refine dIsi_of (isi_str (plain_ok pl)) ?_
  cases d with
  | str x =>
    refine iteT ⟨rfl, rfl, ?_⟩
    exact h _ (in_pour x)
  | _ => exact iteF (h false ⟨(fun q => nomatch q), fun ⟨b, e⟩ => by cases b <;> cases e⟩)
abbrev N_is_row : List Str := ["thing", "pour"]
def t_is_row : DS :=
  (dRet (dAndV (dIsi "tuple" (dVar 0)) (dAndV (dLe (dC1 cLen (dVar 0)) (dC (.int 40))) (dC1 cAll (dLc (dItT (dVar 0)) (gN 1) dYes (dCall sp_is_pour (dCons (dVar 1) dNil)) [1])))))

def sp_is_row : DSp := fun ds k _ => ∃ (d : D), ds = [d] ∧ d.plain = true ∧ (∀ es, d = .tup es → es.length ≤ 100000) ∧ ∀ b : Bool, (b = true ↔ IsRow d) → k (.bl b)
theorem len_is_row : ∀ ds k kx, sp_is_row ds k kx → ds.length = 1 := by
  intro _ _ _ h
  unfold sp_is_row at h
  obtain ⟨_, rfl, _⟩ := h; rfl
theorem rows_of {es : List D} (h : ∀ d ∈ es, IsPour d) : ∃ r : List Bool, es = r.map wd := by
  induction es with
  | nil => exact ⟨[], rfl⟩
  | cons a r ih =>
    obtain ⟨b, e⟩ := h a List.mem_cons_self
    obtain ⟨s, e2⟩ := ih fun d hd => h d (List.mem_cons_of_mem _ hd)
    exact ⟨b :: s, by rw [e, e2]; rfl⟩
theorem pure_is_row (ds : List D) (k : D → Prop) (kx : Addr → Prop) (h : sp_is_row ds k kx) : t_is_row { nx := fun _ => k .non, rt := k, ex := kx } (dstart N_is_row ds) := by
  obtain ⟨d, rfl, pl, hl, h⟩ := h
  refine dIsi_of (isi_tuple (plain_ok pl)) ?_
  cases d with
  | tup es =>
    refine iteT ?_
    show if decide ((es.length : Int) ≤ 40) = true then _ else _
    refine iteB (fun c => ?_) (fun c => ?_)
    · have c := of_decide_eq_true c
      refine all_lc (P := IsPour) (hl es rfl) (fun d hd k' hk => ⟨d, rfl, plain_tup pl d hd, hk⟩) (fun b hb => h b (hb.trans ⟨fun q => ?_, fun ⟨r, e, hr⟩ d hd => ?_⟩))
      · obtain ⟨r, e⟩ := rows_of q
        refine ⟨r, by rw [e]; rfl, ?_⟩
        rw [e, List.length_map] at c
        omega
      · injection e with e
        rw [e] at hd
        obtain ⟨b, _, e2⟩ := List.mem_map.mp hd
        exact ⟨b, e2.symm⟩
    · have c := of_decide_eq_false c
      refine h false ⟨(fun q => nomatch q), fun ⟨r, e, hr⟩ => ?_⟩
      injection e with e
      rw [e, List.length_map] at c
      omega
  | _ => exact iteF (h false ⟨(fun q => nomatch q), fun ⟨r, e, _⟩ => by unfold rw_ at e; cases e⟩)
/-! ### refusals -/
abbrev N_need_parts : List Str := ["parts"]
def t_need_parts (er : Er) : DS :=
  (dIfS (dNot (dB (dCall sp_are_parts (dCons (dVar 0) dNil)))) (dRaise er.NoParts) dNext)

def sp_need_parts (er : Er) : DSp := fun ds k kx => ∃ (d : D), ds = [d] ∧ d.plain = true ∧ (IsParts d → k .non) ∧ (¬ IsParts d → kx er.NoParts)
theorem len_need_parts (er : Er) : ∀ ds k kx, sp_need_parts er ds k kx → ds.length = 1 := by
  intro _ _ _ h
  unfold sp_need_parts at h
  obtain ⟨_, rfl, _⟩ := h; rfl
theorem pure_need_parts (er : Er) (ds : List D) (k : D → Prop) (kx : Addr → Prop) (h : sp_need_parts er ds k kx) : t_need_parts er { nx := fun _ => k .non, rt := k, ex := kx } (dstart N_need_parts ds) := by
  obtain ⟨d, rfl, pl, h1, h2⟩ := h
  refine ⟨d, rfl, pl, fun b hb => ?_⟩
  cases b with
  | true => exact iteF (h1 (hb.mp rfl))
  | false => exact iteT (h2 fun q => by have := hb.mpr q; cases this)
abbrev N_need_share : List Str := ["share"]
def t_need_share (er : Er) : DS :=
  (dIfS (dNot (dB (dCall sp_is_share (dCons (dVar 0) dNil)))) (dRaise er.NoShare) dNext)

def sp_need_share (er : Er) : DSp := fun ds k kx => ∃ (d : D), ds = [d] ∧ d.plain = true ∧ (IsShare d → k .non) ∧ (¬ IsShare d → kx er.NoShare)
theorem len_need_share (er : Er) : ∀ ds k kx, sp_need_share er ds k kx → ds.length = 1 := by
  intro _ _ _ h
  unfold sp_need_share at h
  obtain ⟨_, rfl, _⟩ := h; rfl
theorem pure_need_share (er : Er) (ds : List D) (k : D → Prop) (kx : Addr → Prop) (h : sp_need_share er ds k kx) : t_need_share er { nx := fun _ => k .non, rt := k, ex := kx } (dstart N_need_share ds) := by
  obtain ⟨d, rfl, pl, h1, h2⟩ := h
  refine ⟨d, rfl, pl, fun b hb => ?_⟩
  cases b with
  | true => exact iteF (h1 (hb.mp rfl))
  | false => exact iteT (h2 fun q => by have := hb.mpr q; cases this)
abbrev N_need_row : List Str := ["row"]
def t_need_row (er : Er) : DS :=
  (dIfS (dNot (dB (dCall sp_is_row (dCons (dVar 0) dNil)))) (dRaise er.NoRow) dNext)

def sp_need_row (er : Er) : DSp := fun ds k kx => ∃ (d : D), ds = [d] ∧ d.plain = true ∧ (∀ es, d = .tup es → es.length ≤ 100000) ∧ (IsRow d → k .non) ∧ (¬ IsRow d → kx er.NoRow)
theorem len_need_row (er : Er) : ∀ ds k kx, sp_need_row er ds k kx → ds.length = 1 := by
  intro _ _ _ h
  unfold sp_need_row at h
  obtain ⟨_, rfl, _⟩ := h; rfl
theorem pure_need_row (er : Er) (ds : List D) (k : D → Prop) (kx : Addr → Prop) (h : sp_need_row er ds k kx) : t_need_row er { nx := fun _ => k .non, rt := k, ex := kx } (dstart N_need_row ds) := by
  obtain ⟨d, rfl, pl, hl, h1, h2⟩ := h
  refine ⟨d, rfl, pl, hl, fun b hb => ?_⟩
  cases b with
  | true => exact iteF (h1 (hb.mp rfl))
  | false => exact iteT (h2 fun q => by have := hb.mpr q; cases this)
end DL
namespace DL
open PySem PySem.Spec PyProof.Rows L2 PB
/-! ### the mathematics of pours -/
def pour (p q x : Rat) (w : Bool) : Rat := if w then x * (1 - q) + q else x * (1 - p)
def pours (p q x : Rat) (r : List Bool) : Rat := r.foldl (pour p q) x
theorem den_le {x : Rat} {N : Nat} {t : Int} (hN : 0 < N) (h : x * (N : Rat) = (t : Rat)) : x.den ≤ N := Nat.le_of_dvd hN (den_dvd h)
theorem part_sub {p : Rat} (h : Part p) : Part (1 - p) := by
  obtain ⟨h1, h2, h3⟩ := h
  refine ⟨by grind, by grind, Nat.le_trans (den_le (t := (p.den : Int) - p.num) p.den_pos ?_) h3⟩
  have e := mul_den p
  rw [Rat.intCast_sub, ← e]
  have : (((p.den : Nat) : Int) : Rat) = (p.den : Rat) := rfl
  rw [this]; grind
/-- a share with a bottom below 2 ^ n -/
def U (x : Rat) (n : Nat) : Prop := 0 ≤ x ∧ x ≤ 1 ∧ x.den < 2 ^ n
theorem U.sz {x : Rat} {n : Nat} (h : U x n) : sz x n := sz_unit h.1 h.2.1 h.2.2
theorem U.mono {x : Rat} {n m : Nat} (h : U x n) (l : n ≤ m) : U x m := ⟨h.1, h.2.1, Nat.lt_of_lt_of_le h.2.2 (Nat.pow_le_pow_right (by decide) l)⟩
theorem share_U {x : Rat} (h : Share x) : U x 67 := ⟨h.1, h.2.1, Nat.lt_trans h.2.2 (by decide)⟩
theorem U_pour {p q x : Rat} {n : Nat} (hp : Part p) (hq : Part q) (hx : U x n) (w : Bool) : U (pour p q x w) (n + 4) := by
  obtain ⟨h0, h1, h2⟩ := hx
  cases w with
  | false =>
    have hp' := part_sub hp
    have a1 : 0 ≤ x * (1 - p) := Rat.mul_nonneg h0 (Rat.le_of_lt hp'.1)
    have a2 : x * (1 - p) ≤ 1 * 1 := Rat.le_trans (Rat.mul_le_mul_of_nonneg_right h1 (Rat.le_of_lt hp'.1)) (by have := hp'.2.1; grind)
    refine ⟨a1, by show x * (1 - p) ≤ 1; grind, ?_⟩
    show (x * (1 - p)).den < _
    exact (sz_mul (sz_unit h0 h1 h2) (part_sz hp')).1
  | true =>
    have hq' := part_sub hq
    have a1 : 0 ≤ x * (1 - q) := Rat.mul_nonneg h0 (Rat.le_of_lt hq'.1)
    have a2 : x * (1 - q) ≤ 1 * (1 - q) := Rat.mul_le_mul_of_nonneg_right h1 (Rat.le_of_lt hq'.1)
    have b := hq.1
    refine ⟨by show 0 ≤ x * (1 - q) + q; grind, by show x * (1 - q) + q ≤ 1; grind, ?_⟩
    show (x * (1 - q) + q).den < _
    refine Nat.lt_of_le_of_lt (den_le (N := x.den * q.den) (t := x.num * ((q.den : Int) - q.num) + q.num * x.den) (Nat.mul_pos x.den_pos q.den_pos) ?_) (mul_lt_pow h2 (Nat.lt_of_le_of_lt hq.2.2 (by decide)))
    have e := mul_den x
    have e2 := mul_den q
    rw [Rat.intCast_add, Rat.intCast_mul, Rat.intCast_mul, Rat.intCast_sub, ← e, ← e2, Rat.natCast_mul]
    have t1 : (((q.den : Nat) : Int) : Rat) = (q.den : Rat) := rfl
    have t2 : (((x.den : Nat) : Int) : Rat) = (x.den : Rat) := rfl
    rw [t1, t2]
    grind
theorem U_pours {p q : Rat} (hp : Part p) (hq : Part q) : ∀ (r : List Bool) {x : Rat} {n : Nat}, U x n → U (pours p q x r) (n + 4 * r.length)
  | [], x, n, h => h
  | w :: r, x, n, h => by
    have := U_pours hp hq r (U_pour hp hq h w)
    rw [List.length_cons, show n + 4 * (r.length + 1) = n + 4 + 4 * r.length by omega]
    exact this
theorem pours_snoc (p q x : Rat) (r : List Bool) (w : Bool) : pours p q x (r ++ [w]) = pour p q (pours p q x r) w := by
  unfold pours; rw [List.foldl_append]; rfl
theorem take_snoc {α : Type} {l : List α} {i : Nat} {x : α} (h : l[i]? = some x) : l.take (i + 1) = l.take i ++ [x] := by
  rw [List.take_add_one, h]; rfl
theorem map_get {α β : Type} {f : α → β} {l : List α} {i : Nat} {y : β} (h : (l.map f)[i]? = some y) : ∃ x, l[i]? = some x ∧ y = f x := by
  rw [List.getElem?_map] at h
  cases e : l[i]? with
  | none => rw [e] at h; cases h
  | some x => rw [e] at h; exact ⟨x, rfl, (Option.some.inj h).symm⟩
/-! ### poured, unpoured -/
theorem wd_eq (w : Bool) : eqD (wd w) (.str "right") = !w := by
  unfold eqD
  cases w with
  | false => decide +kernel
  | true => decide +kernel
theorem wd_eqL (w : Bool) : eqD (wd w) (.str "left") = w := by
  unfold eqD
  cases w with
  | false => decide +kernel
  | true => decide +kernel
theorem wd_shp (w : Bool) : (wd w).shp = true := by cases w <;> decide +kernel
theorem str_shpR : (D.str "right").shp = true := by decide +kernel
theorem str_shpL : (D.str "left").shp = true := by decide +kernel
abbrev N_poured : List Str := ["parts", "share", "pour"]
def t_poured : DS :=
  (dSeq (dIfS (dB (dOp dEq (dVar 2) (dC (.str "right")))) (dRet (dCall sp_times (dCons (dVar 1) (dCons (dCall sp_minus (dCons (dTup (dCons (dC (.int 1)) (dCons (dC (.int 1)) dNil))) (dCons (dOp dIx (dVar 0) (dC (.int 0))) dNil))) dNil)))) dNext)
    (dRet (dCall sp_plus (dCons (dCall sp_times (dCons (dVar 1) (dCons (dCall sp_minus (dCons (dTup (dCons (dC (.int 1)) (dCons (dC (.int 1)) dNil))) (dCons (dOp dIx (dVar 0) (dC (.int 1))) dNil))) dNil))) (dCons (dOp dIx (dVar 0) (dC (.int 1))) dNil)))))

def sp_poured : DSp := fun ds k _ => ∃ (p q x : Rat) (w : Bool), ds = [pts p q, fr x, wd w] ∧ Part p ∧ Part q ∧ sz x 4480 ∧ k (fr (pour p q x w))
theorem len_poured : ∀ ds k kx, sp_poured ds k kx → ds.length = 3 := by
  intro _ _ _ h
  unfold sp_poured at h
  obtain ⟨_, _, _, _, rfl, _⟩ := h; rfl
theorem pure_poured (ds : List D) (k : D → Prop) (kx : Addr → Prop) (h : sp_poured ds k kx) : t_poured { nx := fun _ => k .non, rt := k, ex := kx } (dstart N_poured ds) := by
  obtain ⟨p, q, x, w, rfl, hp, hq, hx, h⟩ := h
  refine eq_of (wd_shp w) str_shpR (wd_eq w) ?_
  cases w with
  | false =>
    refine iteT ⟨1, p, rfl, Fit.of sz_one, Fit.of (part_sz hp), x, 1 - p, rfl, hx.mono (by decide), Fit.of (part_sz (part_sub hp)), h⟩
  | true =>
    refine iteF ⟨1, q, rfl, Fit.of sz_one, Fit.of (part_sz hq), x, 1 - q, rfl, hx.mono (by decide), Fit.of (part_sz (part_sub hq)), x * (1 - q), q, rfl, (sz_mul hx (part_sz (part_sub hq))).mono (by decide), Fit.of (part_sz hq), h⟩
def unpour (p q x : Rat) (w : Bool) : Rat := if w then (x - q) / (1 - q) else x / (1 - p)
abbrev N_unpoured : List Str := ["parts", "share", "pour"]
def t_unpoured : DS :=
  (dSeq (dIfS (dB (dOp dEq (dVar 2) (dC (.str "right")))) (dRet (dCall sp_by (dCons (dVar 1) (dCons (dCall sp_minus (dCons (dTup (dCons (dC (.int 1)) (dCons (dC (.int 1)) dNil))) (dCons (dOp dIx (dVar 0) (dC (.int 0))) dNil))) dNil)))) dNext)
    (dRet (dCall sp_by (dCons (dCall sp_minus (dCons (dVar 1) (dCons (dOp dIx (dVar 0) (dC (.int 1))) dNil))) (dCons (dCall sp_minus (dCons (dTup (dCons (dC (.int 1)) (dCons (dC (.int 1)) dNil))) (dCons (dOp dIx (dVar 0) (dC (.int 1))) dNil))) dNil)))))

def sp_unpoured : DSp := fun ds k _ => ∃ (p q x : Rat) (w : Bool), ds = [pts p q, fr x, wd w] ∧ Part p ∧ Part q ∧ sz x 4480 ∧ k (fr (unpour p q x w))
theorem len_unpoured : ∀ ds k kx, sp_unpoured ds k kx → ds.length = 3 := by
  intro _ _ _ h
  unfold sp_unpoured at h
  obtain ⟨_, _, _, _, rfl, _⟩ := h; rfl
theorem pure_unpoured (ds : List D) (k : D → Prop) (kx : Addr → Prop) (h : sp_unpoured ds k kx) : t_unpoured { nx := fun _ => k .non, rt := k, ex := kx } (dstart N_unpoured ds) := by
  obtain ⟨p, q, x, w, rfl, hp, hq, hx, h⟩ := h
  refine eq_of (wd_shp w) str_shpR (wd_eq w) ?_
  cases w with
  | false =>
    refine iteT ⟨1, p, rfl, Fit.of sz_one, Fit.of (part_sz hp), x, 1 - p, rfl, hx.mono (by decide), Fit.of (part_sz (part_sub hp)), (part_sub hp).1, h⟩
  | true =>
    refine iteF ⟨x, q, rfl, hx.mono (by decide), Fit.of (part_sz hq), 1, q, rfl, Fit.of sz_one, Fit.of (part_sz hq), x - q, 1 - q, rfl, (sz_sub hx (part_sz hq)).mono (by decide), Fit.of (part_sz (part_sub hq)), (part_sub hq).1, h⟩
abbrev N_end_of : List Str := ["parts", "share", "row", "pour"]
def t_end_of : DS :=
  (dSeq (dFor (dItT (dVar 2)) (gN 3)
    (dSet 1 (dCall sp_poured (dCons (dVar 0) (dCons (dVar 1) (dCons (dVar 3) dNil))))))
    (dRet (dVar 1)))

@[irreducible] def sp_end_of : DSp := fun ds k _ => ∃ (p q x : Rat) (r : List Bool) (n : Nat), ds = [pts p q, fr x, rw_ r] ∧ Part p ∧ Part q ∧ U x n ∧ n + 4 * r.length ≤ 4480 ∧ k (fr (pours p q x r))
theorem len_end_of : ∀ ds k kx, sp_end_of ds k kx → ds.length = 3 := by
  intro _ _ _ h
  unfold sp_end_of at h
  obtain ⟨_, _, _, _, _, rfl, _⟩ := h; rfl
theorem end_mk {p q x : Rat} {r : List Bool} {n : Nat} {k : D → Prop} {kx : Addr → Prop} (hp : Part p) (hq : Part q) (hx : U x n) (hn : n + 4 * r.length ≤ 4480) (h : k (fr (pours p q x r))) : sp_end_of [pts p q, fr x, rw_ r] k kx := by
  unfold sp_end_of
  exact ⟨p, q, x, r, n, rfl, hp, hq, hx, hn, h⟩
theorem pure_end_of (ds : List D) (k : D → Prop) (kx : Addr → Prop) (h : sp_end_of ds k kx) : t_end_of { nx := fun _ => k .non, rt := k, ex := kx } (dstart N_end_of ds) := by
  unfold sp_end_of at h
  obtain ⟨p, q, x, r, n, rfl, hp, hq, hx, hn, h⟩ := h
  refine ⟨fun i δ => ∃ z, δ = [some (pts p q), some (fr (pours p q x (r.take i))), some (rw_ r), z], ⟨none, rfl⟩, ?_, ?_⟩
  · rintro i d δ' hd ⟨z, rfl⟩
    obtain ⟨w, hw, rfl⟩ := map_get hd
    have hu := U_pours hp hq (r.take i) hx
    have hl : i < r.length := (List.getElem?_eq_some_iff.mp hw).1
    refine ⟨p, q, pours p q x (r.take i), w, rfl, hp, hq, hu.sz.mono (by rw [List.length_take]; omega), some (wd w), ?_⟩
    rw [take_snoc hw, pours_snoc]; rfl
  · rintro δ' ⟨z, rfl⟩
    rw [List.length_map, List.take_length]
    exact h
/-! ### behind -/
theorem pts_plain (p q : Rat) : (pts p q).plain = true := rfl
theorem rw_plain (r : List Bool) : (rw_ r).plain = true := by
  show plains (r.map wd) = true
  refine plains_of fun d hd => ?_
  obtain ⟨b, _, rfl⟩ := List.mem_map.mp hd
  cases b <;> rfl
def short (d : D) : Prop := ∀ es, d = .tup es → es.length ≤ 100000
abbrev N_behind : List Str := ["parts", "share", "row"]
def t_behind (er : Er) : DS :=
  (dSeq (dDrop (dCall (sp_need_parts er) (dCons (dVar 0) dNil)))
    (dSeq (dDrop (dCall (sp_need_share er) (dCons (dVar 1) dNil)))
    (dSeq (dDrop (dCall (sp_need_row er) (dCons (dVar 2) dNil)))
    (dRet (dCall sp_end_of (dCons (dVar 0) (dCons (dVar 1) (dCons (dVar 2) dNil))))))))

@[irreducible] def sp_behind (er : Er) : DSp := fun ds k kx => ∃ (d1 d2 d3 : D), ds = [d1, d2, d3] ∧ (d1.plain = true ∧ (IsParts d1 → d2.plain = true ∧ (IsShare d2 → d3.plain = true ∧ short d3))) ∧
  (¬ IsParts d1 → kx er.NoParts) ∧ (IsParts d1 → ¬ IsShare d2 → kx er.NoShare) ∧ (IsParts d1 → IsShare d2 → ¬ IsRow d3 → kx er.NoRow) ∧
  ∀ p q x r, d1 = pts p q → Parts p q → d2 = fr x → Share x → d3 = rw_ r → r.length ≤ 40 → k (fr (pours p q x r))
theorem len_behind (er : Er) : ∀ ds k kx, sp_behind er ds k kx → ds.length = 3 := by
  intro _ _ _ h
  unfold sp_behind at h
  obtain ⟨_, _, _, rfl, _⟩ := h; rfl
theorem pure_behind (er : Er) (ds : List D) (k : D → Prop) (kx : Addr → Prop) (h : sp_behind er ds k kx) : t_behind er { nx := fun _ => k .non, rt := k, ex := kx } (dstart N_behind ds) := by
  unfold sp_behind at h
  obtain ⟨d1, d2, d3, rfl, ⟨p1, p2⟩, e1, e2, e3, h⟩ := h
  refine ⟨d1, rfl, p1, fun i1 => ?_, fun n1 => e1 n1⟩
  obtain ⟨p2, p3⟩ := p2 i1
  refine ⟨d2, rfl, p2, fun i2 => ?_, fun n2 => e2 i1 n2⟩
  obtain ⟨p3, p4⟩ := p3 i2
  refine ⟨d3, rfl, p3, p4, fun i3 => ?_, fun n3 => e3 i1 i2 n3⟩
  obtain ⟨p, q, rfl, hpq⟩ := i1
  obtain ⟨x, rfl, hx⟩ := i2
  obtain ⟨r, rfl, hr⟩ := i3
  exact end_mk hpq.1 hpq.2.1 (share_U hx) (by omega) (h p q x r rfl hpq rfl hx rfl hr)
/-- all shares behind the pours of a row -/
def alls (p q x : Rat) (r : List Bool) : List Rat := (List.range r.length).map fun i => pours p q x (r.take (i + 1))
abbrev N_all_behind : List Str := ["parts", "share", "row", "found", "pour"]
def t_all_behind (er : Er) : OS :=
  (oSeq (oLift (dDrop (dCall (sp_need_parts er) (dCons (dVar 0) dNil))))
    (oSeq (oLift (dDrop (dCall (sp_need_share er) (dCons (dVar 1) dNil))))
    (oSeq (oLift (dDrop (dCall (sp_need_row er) (dCons (dVar 2) dNil))))
    (oSeq (oNewL 3 dNil)
    (oSeq (oFor (dItT (dVar 2)) (gN 4)
    (oSeq (oLift (dSet 1 (dCall sp_poured (dCons (dVar 0) (dCons (dVar 1) (dCons (dVar 4) dNil))))))
    (oApp 3 (dVar 1))))
    (oRetN 3))))))

@[irreducible] def sp_all_behind (er : Er) : DSpN := fun ds k kn kx => ∃ (d1 d2 d3 : D), ds = [d1, d2, d3] ∧ (d1.plain = true ∧ (IsParts d1 → d2.plain = true ∧ (IsShare d2 → d3.plain = true ∧ short d3))) ∧
  (¬ IsParts d1 → kx er.NoParts) ∧ (IsParts d1 → ¬ IsShare d2 → kx er.NoShare) ∧ (IsParts d1 → IsShare d2 → ¬ IsRow d3 → kx er.NoRow) ∧
  ∀ p q x r, d1 = pts p q → Parts p q → d2 = fr x → Share x → d3 = rw_ r → r.length ≤ 40 → kn ((alls p q x r).map fr)
theorem len_all_behind (er : Er) : ∀ ds k kn kx, sp_all_behind er ds k kn kx → ds.length = 3 := by
  intro _ _ _ _ h
  unfold sp_all_behind at h
  obtain ⟨_, _, _, rfl, _⟩ := h; rfl
theorem pure_all_behind (er : Er) (ds : List D) (k : D → Prop) (kn : List D → Prop) (kx : Addr → Prop) (h : sp_all_behind er ds k kn kx) : t_all_behind er { nx := fun _ _ => k .non, rt := k, rn := kn, ex := kx } (dstart N_all_behind ds) [] := by
  unfold sp_all_behind at h
  obtain ⟨d1, d2, d3, rfl, ⟨p1, p2⟩, e1, e2, e3, h⟩ := h
  refine ⟨d1, rfl, p1, fun i1 => ?_, fun n1 => e1 n1⟩
  obtain ⟨p2, p3⟩ := p2 i1
  refine ⟨d2, rfl, p2, fun i2 => ?_, fun n2 => e2 i1 n2⟩
  obtain ⟨p3, p4⟩ := p3 i2
  refine ⟨d3, rfl, p3, p4, fun i3 => ?_, fun n3 => e3 i1 i2 n3⟩
  obtain ⟨p, q, rfl, hpq⟩ := i1
  obtain ⟨x, rfl, hx⟩ := i2
  obtain ⟨r, rfl, hr⟩ := i3
  intro a _
  refine ⟨fun i δ μ => ∃ z, δ = [some (pts p q), some (fr (pours p q x (r.take i))), some (rw_ r), some (.adr a), z] ∧ i ≤ r.length ∧ μ = [(a, ((List.range i).map fun j => pours p q x (r.take (j + 1))).map fr)], ⟨none, rfl, Nat.zero_le _, rfl⟩, ?_, ?_⟩
  · rintro i d δ' μ' hd ⟨z, rfl, hi, rfl⟩
    obtain ⟨w, hw, rfl⟩ := map_get hd
    have hu := U_pours hpq.1 hpq.2.1 (r.take i) (share_U hx)
    have hl : i < r.length := (List.getElem?_eq_some_iff.mp hw).1
    refine ⟨p, q, pours p q x (r.take i), w, rfl, hpq.1, hpq.2.1, hu.sz.mono (by rw [List.length_take]; omega), a, [], _, [], rfl, rfl, ?_, some (wd w), ?_, hl, ?_⟩
    · rw [List.length_map, List.length_map, List.length_range]; omega
    · rw [take_snoc hw, pours_snoc]; rfl
    · show [(a, _ ++ [fr (pour p q (pours p q x (r.take i)) w)])] = _
      rw [List.range_succ, List.map_append, List.map_append, List.map_singleton, List.map_singleton, take_snoc hw, pours_snoc]
  · rintro δ' μ' ⟨z, rfl, hi, rfl⟩
    refine ⟨a, [], _, [], rfl, rfl, ?_⟩
    rw [show (rw_ r) = .tup (r.map wd) from rfl] at *
    have := h p q x r rfl hpq rfl hx rfl hr
    unfold alls at this
    rw [List.length_map]
    exact this
end DL
/-! The law's own helpers. -/
namespace DL
open PySem PySem.Spec PyProof.Rows L2 PB
/-! ### the same defs under the law's names -/
abbrev sp_law_common := sp_common
abbrev sp_law_made := sp_made
abbrev sp_law_plus := sp_plus
abbrev sp_law_minus := sp_minus
abbrev sp_law_times := sp_times
abbrev sp_law_below := sp_is_less
abbrev N_law_common : List Str := ["one", "other"]
def t_law_common : DS :=
  (dSeq (dWhile (dB (dOp dNe (dVar 1) (dC (.int 0))))
    (dPar 0 1 (dVar 1) (dMod (dVar 0) (dVar 1))))
    (dRet (dVar 0)))

abbrev N_law_made : List Str := ["top", "bottom", "measure"]
def t_law_made : DS :=
  (dSeq (dSet 2 (dCall sp_law_common (dCons (dC1 cAbs (dVar 0)) (dCons (dVar 1) dNil))))
    (dRet (dTup (dCons (dDiv (dVar 0) (dVar 2)) (dCons (dDiv (dVar 1) (dVar 2)) dNil)))))

abbrev N_law_plus : List Str := ["one", "other"]
def t_law_plus : DS :=
  (dRet (dCall sp_law_made (dCons (dAdd (dMul (dOp dIx (dVar 0) (dC (.int 0))) (dOp dIx (dVar 1) (dC (.int 1)))) (dMul (dOp dIx (dVar 1) (dC (.int 0))) (dOp dIx (dVar 0) (dC (.int 1))))) (dCons (dMul (dOp dIx (dVar 0) (dC (.int 1))) (dOp dIx (dVar 1) (dC (.int 1)))) dNil))))

abbrev N_law_minus : List Str := ["one", "other"]
def t_law_minus : DS :=
  (dRet (dCall sp_law_made (dCons (dSub (dMul (dOp dIx (dVar 0) (dC (.int 0))) (dOp dIx (dVar 1) (dC (.int 1)))) (dMul (dOp dIx (dVar 1) (dC (.int 0))) (dOp dIx (dVar 0) (dC (.int 1))))) (dCons (dMul (dOp dIx (dVar 0) (dC (.int 1))) (dOp dIx (dVar 1) (dC (.int 1)))) dNil))))

abbrev N_law_times : List Str := ["one", "other"]
def t_law_times : DS :=
  (dRet (dCall sp_law_made (dCons (dMul (dOp dIx (dVar 0) (dC (.int 0))) (dOp dIx (dVar 1) (dC (.int 0)))) (dCons (dMul (dOp dIx (dVar 0) (dC (.int 1))) (dOp dIx (dVar 1) (dC (.int 1)))) dNil))))

abbrev N_law_below : List Str := ["one", "other"]
def t_law_below : DS :=
  (dRet (dLt (dMul (dOp dIx (dVar 0) (dC (.int 0))) (dOp dIx (dVar 1) (dC (.int 1)))) (dMul (dOp dIx (dVar 1) (dC (.int 0))) (dOp dIx (dVar 0) (dC (.int 1))))))

abbrev len_law_common := len_common
abbrev len_law_made := len_made
abbrev len_law_plus := len_plus
abbrev len_law_minus := len_minus
abbrev len_law_times := len_times
abbrev len_law_below := len_is_less
theorem pure_law_common (ds : List D) (k : D → Prop) (kx : Addr → Prop) (h : sp_law_common ds k kx) : t_law_common { nx := fun _ => k .non, rt := k, ex := kx } (dstart N_law_common ds) := pure_common ds k kx h
theorem pure_law_made (ds : List D) (k : D → Prop) (kx : Addr → Prop) (h : sp_law_made ds k kx) : t_law_made { nx := fun _ => k .non, rt := k, ex := kx } (dstart N_law_made ds) := pure_made ds k kx h
theorem pure_law_plus (ds : List D) (k : D → Prop) (kx : Addr → Prop) (h : sp_law_plus ds k kx) : t_law_plus { nx := fun _ => k .non, rt := k, ex := kx } (dstart N_law_plus ds) := pure_plus ds k kx h
theorem pure_law_minus (ds : List D) (k : D → Prop) (kx : Addr → Prop) (h : sp_law_minus ds k kx) : t_law_minus { nx := fun _ => k .non, rt := k, ex := kx } (dstart N_law_minus ds) := pure_minus ds k kx h
theorem pure_law_times (ds : List D) (k : D → Prop) (kx : Addr → Prop) (h : sp_law_times ds k kx) : t_law_times { nx := fun _ => k .non, rt := k, ex := kx } (dstart N_law_times ds) := pure_times ds k kx h
theorem pure_law_below (ds : List D) (k : D → Prop) (kx : Addr → Prop) (h : sp_law_below ds k kx) : t_law_below { nx := fun _ => k .non, rt := k, ex := kx } (dstart N_law_below ds) := pure_is_less ds k kx h
/-! ### draws -/
abbrev N_law_cell_at : List Str := ["script", "k"]
def t_law_cell_at : DS :=
  (dSeq (dIfS (dB (dLt (dVar 1) (dC1 cLen (dVar 0)))) (dRet (dOp dIx (dVar 0) (dVar 1))) dNext)
    (dRet (dC (.int 0))))

def sp_law_cell_at : DSp := fun ds k _ => ∃ (ns : List Int) (i : Int), ds = [.scr ns, .int i] ∧ 0 ≤ i ∧ ∀ c : Int, k (.int c)
theorem len_law_cell_at : ∀ ds k kx, sp_law_cell_at ds k kx → ds.length = 2 := by
  intro _ _ _ h
  unfold sp_law_cell_at at h
  obtain ⟨_, _, rfl, _⟩ := h; rfl
theorem pure_law_cell_at (ds : List D) (k : D → Prop) (kx : Addr → Prop) (h : sp_law_cell_at ds k kx) : t_law_cell_at { nx := fun _ => k .non, rt := k, ex := kx } (dstart N_law_cell_at ds) := by
  obtain ⟨ns, i, rfl, hi, h⟩ := h
  show if decide (i < (ns.length : Int)) = true then _ else _
  refine iteB (fun c => ?_) (fun c => h 0)
  have c := of_decide_eq_true c
  have hl : i.toNat < ns.length := by omega
  have e : atI ns i = some ns[i.toNat] := by
    have := atI_nat (xs := ns) (j := i.toNat) (v := ns[i.toNat]) (List.getElem?_eq_getElem hl)
    rwa [show ((i.toNat : Nat) : Int) = i by omega] at this
  show (match atI ns i with | some d => k (.int d) | none => False)
  rw [e]
  exact h _
abbrev N_law_draws : List Str := ["cell", "many", "size", "found", "rest", "stirred", "k"]
def t_law_draws : OS :=
  (oSeq (oNewL 3 dNil)
    (oSeq (oLift (dSet 4 (dMulS (dVar 0) (dC1 cInt (dGe (dVar 0) (dPow (dC (.int 10)) (dC (.int 18))))))))
    (oSeq (oLift (dSet 5 (dMod (dVar 0) (dC (.int 2305843009213693951)))))
    (oSeq (oFor (dItR1 (dAdd (dVar 1) (dC (.int 3)))) (gN 6)
    (oSeq (oLift (dSet 5 (dMod (dAdd (dAdd (dAdd (dMul (dVar 5) (dVar 5)) (dMul (dC (.int 48271)) (dVar 5))) (dVar 6)) (dC (.int 1))) (dC (.int 2305843009213693951)))))
    (oIf (dAnd (dB (dGt (dVar 6) (dC (.int 2)))) (dB (dGt (dVar 4) (dC (.int 0))))) (oSeq (oApp 3 (dMod (dVar 4) (dVar 2)))
    (oLift (dSet 4 (dDiv (dVar 4) (dVar 2))))) (oIf (dB (dGt (dVar 6) (dC (.int 2)))) (oApp 3 (dMod (dDiv (dVar 5) (dC (.int 4096))) (dVar 2))) oNext))))
    (oRetN 3)))))

def sp_law_draws : DSpN := fun ds k kn kx => ∃ (c : Int), ds = [.int c, .int 400, .int 1000] ∧ ∀ ns : List Int, ns.length = 400 → (∀ x ∈ ns, 0 ≤ x ∧ x < 1000) → kn (ns.map D.int)
theorem len_law_draws : ∀ ds k kn kx, sp_law_draws ds k kn kx → ds.length = 3 := by
  intro _ _ _ _ h
  unfold sp_law_draws at h
  obtain ⟨_, rfl, _⟩ := h; rfl
theorem mod1000 (x : Int) : 0 ≤ x % 1000 ∧ x % 1000 < 1000 := ⟨Int.emod_nonneg _ (by decide), Int.emod_lt_of_pos _ (by decide)⟩
theorem cdiv {i j : Int} (h : 0 < j) (h2 : j < 1000000) : CDivW i j := wide_div (b := 20) h (by omega) (by decide) (by decide)
theorem rng_get {lo : Int} {n i : Nat} {d : D} (h : (rngD lo n)[i]? = some d) : i < n ∧ d = .int (lo + (i : Int)) := by
  obtain ⟨j, hj, rfl⟩ := map_get h
  have hlt : i < n := by
    have := (List.getElem?_eq_some_iff.mp hj).1
    rwa [List.length_range] at this
  rw [List.getElem?_range hlt] at hj
  cases hj
  exact ⟨hlt, rfl⟩
theorem rng_len {lo : Int} {n : Nat} : (rngD lo n).length = n := by
  unfold rngD; rw [List.length_map, List.length_range]
theorem pure_law_draws (ds : List D) (k : D → Prop) (kn : List D → Prop) (kx : Addr → Prop) (h : sp_law_draws ds k kn kx) : t_law_draws { nx := fun _ _ => k .non, rt := k, rn := kn, ex := kx } (dstart N_law_draws ds) [] := by
  obtain ⟨c, rfl, h⟩ := h
  intro a _
  refine ⟨⟨by decide, by decide, by decide⟩, .inr ?_, (show (0 : Int) < 2305843009213693951 by decide), ⟨by decide, by decide⟩, ?_⟩
  · show -(2 ^ 64) < (if decide ((10 : Int) ^ (18 : Int).toNat ≤ c) = true then (1 : Int) else 0) ∧ (if decide ((10 : Int) ^ (18 : Int).toNat ≤ c) = true then (1 : Int) else 0) < 2 ^ 64
    split <;> decide
  · refine ⟨fun i δ μ => ∃ (rest st : Int) (ns : List Int) (z : Option D), δ = [some (.int c), some (.int 400), some (.int 1000), some (.adr a), some (.int rest), some (.int st), z] ∧ 0 ≤ st ∧ st < 2305843009213693951 ∧ ns.length = i - 3 ∧ (∀ x ∈ ns, 0 ≤ x ∧ x < 1000) ∧ μ = [(a, ns.map D.int)],
      ⟨_, _, [], none, rfl, Int.emod_nonneg _ (by decide), Int.emod_lt_of_pos _ (by decide), rfl, (fun x hx => nomatch hx), rfl⟩, ?_, ?_⟩
    · rintro i d δ' μ' hd ⟨rest, st, ns, z, rfl, s0, s1, hl, hr, rfl⟩
      obtain ⟨hi, rfl⟩ := rng_get hd
      have hi' : i < 403 := hi
      have hst : st.natAbs < 2 ^ 61 := by omega
      refine ⟨mulW hst hst (by decide) (by decide) (by decide), mulW (n := 20) (by decide) hst (by decide) (by decide) (by decide), (show (0 : Int) < 2305843009213693951 by decide), ?_⟩
      have m0 : 0 ≤ (st * st + 48271 * st + (0 + (i : Int)) + 1) % 2305843009213693951 := Int.emod_nonneg _ (by decide)
      have m1 : (st * st + 48271 * st + (0 + (i : Int)) + 1) % 2305843009213693951 < 2305843009213693951 := Int.emod_lt_of_pos _ (by decide)
      show if decide ((2 : Int) < 0 + (i : Int)) = true then (if decide ((0 : Int) < rest) = true then _ else _) else _
      have fin : ∀ (x rest' : Int), 2 < i → 0 ≤ x ∧ x < 1000 → ∃ (rest st' : Int) (ns' : List Int) (z : Option D), [some (.int c), some (.int 400), some (.int 1000), some (.adr a), some (.int rest'), some (.int ((st * st + 48271 * st + (0 + (i : Int)) + 1) % 2305843009213693951)), some (D.int (0 + (i : Int)))] = [some (.int c), some (.int 400), some (.int 1000), some (.adr a), some (.int rest), some (.int st'), z] ∧ 0 ≤ st' ∧ st' < 2305843009213693951 ∧ ns'.length = i + 1 - 3 ∧ (∀ x ∈ ns', 0 ≤ x ∧ x < 1000) ∧ [(a, ns.map D.int ++ [D.int x])] = [(a, ns'.map D.int)] := fun x rest' hi2 hx =>
        ⟨rest', _, ns ++ [x], _, rfl, m0, m1, by rw [List.length_append, hl]; show i - 3 + 1 = i + 1 - 3; omega, fun y hy => by
          rcases List.mem_append.mp hy with q | q
          · exact hr y q
          · rw [List.mem_singleton.mp q]; exact hx, by rw [List.map_append]; rfl⟩
      have len5 : (ns.map D.int).length < 100000 := by rw [List.length_map, hl]; omega
      refine iteB (fun c1 => ?_) (fun c1 => ?_)
      · have c1 := of_decide_eq_true c1
        refine iteB (fun c2 => ?_) (fun c2 => ?_)
        · exact ⟨a, [], _, [], rfl, rfl, len5, (show (0 : Int) < 1000 by decide), cdiv (by decide) (by decide), fin _ _ (by omega) (mod1000 _)⟩
        · show if decide ((2 : Int) < 0 + (i : Int)) = true then _ else _
          refine iteB (fun _ => ?_) (fun c3 => absurd c1 (of_decide_eq_false c3))
          exact ⟨a, [], _, [], rfl, rfl, len5, cdiv (by decide) (by decide), (show (0 : Int) < 1000 by decide), fin _ _ (by omega) (mod1000 _)⟩
      · have c1' := of_decide_eq_false c1
        show if decide ((2 : Int) < 0 + (i : Int)) = true then _ else _
        rw [c1]
        exact iteF ⟨rest, _, ns, _, rfl, m0, m1, by rw [hl]; omega, hr, rfl⟩
    · rintro δ' μ' ⟨rest, st, ns, z, rfl, s0, s1, hl, hr, rfl⟩
      rw [rng_len] at hl
      exact ⟨a, [], _, [], rfl, rfl, h ns hl hr⟩
/-! ### taking -/
abbrev N_law_take : List Str := ["bag", "many"]
def sp_law_take : DSp := fun ds k _ => ∃ (m : Int), ds = [.bag, .int m] ∧ 0 < m ∧ ∀ r : Int, 0 ≤ r → r < m → k (.int r)
theorem len_law_take : ∀ ds k kx, sp_law_take ds k kx → ds.length = 2 := by
  intro _ _ _ h
  unfold sp_law_take at h
  obtain ⟨_, rfl, _⟩ := h; rfl
abbrev N_law_far_draw : List Str := ["bag", "many", "found", "much"]
def t_law_far_draw : DS :=
  (dSeq (dPar 2 3 (dC (.int 0)) (dVar 1))
    (dSeq (dWhile (dB (dGt (dVar 3) (dC (.int 0))))
    (dPar 2 3 (dAdd (dMulS (dC (.int 1000)) (dVar 2)) (dCall sp_law_take (dCons (dVar 0) (dCons (dC (.int 1000)) dNil)))) (dDiv (dVar 3) (dC (.int 1000)))))
    (dRet (dOp dIx (dLst (dCons (dMod (dVar 2) (dVar 1)) (dCons (dC (.int 0)) (dCons (dSub (dVar 1) (dC (.int 1))) (dCons (dMod (dVar 2) (dVar 1)) dNil))))) (dCall sp_law_take (dCons (dVar 0) (dCons (dC (.int 4)) dNil)))))))

def sp_law_far_draw : DSp := fun ds k _ => ∃ (m : Int), ds = [.bag, .int m] ∧ 0 < m ∧ m ≤ 10 ^ 30 ∧ ∀ r : Int, 0 ≤ r → r < m → k (.int r)
theorem len_law_far_draw : ∀ ds k kx, sp_law_far_draw ds k kx → ds.length = 2 := by
  intro _ _ _ h
  unfold sp_law_far_draw at h
  obtain ⟨_, rfl, _⟩ := h; rfl
theorem pure_law_far_draw (ds : List D) (k : D → Prop) (kx : Addr → Prop) (h : sp_law_far_draw ds k kx) : t_law_far_draw { nx := fun _ => k .non, rt := k, ex := kx } (dstart N_law_far_draw ds) := by
  obtain ⟨m, rfl, hm, hM, h⟩ := h
  refine ⟨fun n δ => ∃ (f u : Int), δ = [some .bag, some (.int m), some (.int f), some (.int u)] ∧ 0 ≤ u ∧ 0 ≤ f ∧ n = u.toNat, ⟨_, 0, m, rfl, by omega, by decide, rfl⟩, ?_⟩
  rintro n δ' ⟨f, u, rfl, hu, hf, rfl⟩
  show if decide ((0 : Int) < u) = true then _ else _
  refine iteB (fun c => ?_) (fun c => ?_)
  · have c := of_decide_eq_true c
    refine ⟨.inl ⟨by decide, by decide⟩, 1000, rfl, by decide, fun r r0 r1 => ⟨cdiv (by decide) (by decide), _, ?_, _, _, rfl, by omega, by omega, rfl⟩⟩
    have : u / 1000 < u := by omega
    omega
  · refine ⟨hm, hm, 4, rfl, by decide, fun r r0 r1 => ?_⟩
    have a0 : 0 ≤ f % m := Int.emod_nonneg _ (by omega)
    have a1 : f % m < m := Int.emod_lt_of_pos _ hm
    have hr : r = 0 ∨ r = 1 ∨ r = 2 ∨ r = 3 := by omega
    rcases hr with rfl | rfl | rfl | rfl
    · exact h _ a0 a1
    · exact h 0 (by decide) hm
    · exact h (m - 1) (by omega) (by omega)
    · exact h _ a0 a1
end DL
namespace DL
open PySem PySem.Spec PyProof.Rows L2 PB
theorem mk_pos {t : Int} {n : Nat} (ht : 0 < t) (hn : 0 < n) : 0 < mkRat t n := by
  rw [Rat.mkRat_eq_div]
  have h1 : (0 : Rat) < (t : Rat) := Rat.intCast_pos.mpr ht
  have h2 : (0 : Rat) < (n : Rat) := Rat.natCast_pos.mpr hn
  rw [Rat.lt_div_iff h2]; grind
theorem mk_nonneg {t : Int} {n : Nat} (ht : 0 ≤ t) (hn : 0 < n) : 0 ≤ mkRat t n := by
  rcases Int.lt_or_eq_of_le ht with h | h
  · exact Rat.le_of_lt (mk_pos h hn)
  · rw [← h]; simp
theorem mk_lt1 {t : Int} {n : Nat} (ht : t < n) (hn : 0 < n) : mkRat t n < 1 := by
  rw [Rat.mkRat_eq_div]
  have h2 : (0 : Rat) < (n : Rat) := Rat.natCast_pos.mpr hn
  rw [Rat.div_lt_iff h2]
  have h3 : (t : Rat) < ((n : Int) : Rat) := Rat.intCast_lt_intCast.mpr ht
  have : (((n : Nat) : Int) : Rat) = (n : Rat) := rfl
  rw [this] at h3; grind
theorem mk_le1 {t : Int} {n : Nat} (ht : t ≤ n) (hn : 0 < n) : mkRat t n ≤ 1 := by
  rcases Int.lt_or_eq_of_le ht with h | h
  · exact Rat.le_of_lt (mk_lt1 h hn)
  · rw [h]
    have e : mkRat (n : Int) n = 1 := by
      have := Rat.mkRat_mul_left (n := 1) (d := 1) (a := n) (by omega)
      rw [Int.mul_one, Nat.mul_one] at this
      rw [this]; rfl
    rw [e]; exact Rat.le_refl
theorem mk_part {t b : Int} (h1 : 1 ≤ t) (h2 : t < b) (h3 : b ≤ 12) : Part (mkRat t b.toNat) :=
  ⟨mk_pos (by omega) (by omega), mk_lt1 (by omega) (by omega), Nat.le_trans (mkRat_den_le _ _ (by omega)) (by omega)⟩
abbrev N_law_a_part : List Str := ["bag", "bottom"]
def t_law_a_part : DS :=
  (dSeq (dSet 1 (dAdd (dC (.int 2)) (dCall sp_law_take (dCons (dVar 0) (dCons (dC (.int 11)) dNil)))))
    (dRet (dCall sp_law_made (dCons (dAdd (dC (.int 1)) (dCall sp_law_take (dCons (dVar 0) (dCons (dSub (dVar 1) (dC (.int 1))) dNil)))) (dCons (dVar 1) dNil)))))

def sp_law_a_part : DSp := fun ds k _ => ds = [.bag] ∧ ∀ x : Rat, Part x → k (fr x)
theorem len_law_a_part : ∀ ds k kx, sp_law_a_part ds k kx → ds.length = 1 := by
  intro _ _ _ h
  unfold sp_law_a_part at h
  obtain ⟨rfl, _⟩ := h; rfl
theorem small_abs {b : Int} (h0 : 0 ≤ b) (h : b < 2 ^ 200) : b.natAbs < 2 ^ 9000 := Nat.lt_of_lt_of_le (show b.natAbs < 2 ^ 200 by omega) (Nat.pow_le_pow_right (n := 2) (by decide) (by decide))
theorem pure_law_a_part (ds : List D) (k : D → Prop) (kx : Addr → Prop) (h : sp_law_a_part ds k kx) : t_law_a_part { nx := fun _ => k .non, rt := k, ex := kx } (dstart N_law_a_part ds) := by
  obtain ⟨rfl, h⟩ := h
  refine ⟨11, rfl, by decide, fun r r0 r1 => ⟨2 + r - 1, rfl, by omega, fun s s0 s1 => ⟨1 + s, 2 + r, rfl, by omega, small_abs (by omega) (by omega), h _ (mk_part (by omega) (by omega) (by omega))⟩⟩⟩
abbrev N_law_two_parts : List Str := ["bag", "one", "other"]
def t_law_two_parts : DS :=
  (dSeq (dPar 1 2 (dCall sp_law_a_part (dCons (dVar 0) dNil)) (dCall sp_law_a_part (dCons (dVar 0) dNil)))
    (dSeq (dIfS (dB (dOp dEq (dCall sp_law_take (dCons (dVar 0) (dCons (dC (.int 4)) dNil))) (dC (.int 0)))) (dSet 2 (dCall sp_law_minus (dCons (dTup (dCons (dC (.int 1)) (dCons (dC (.int 1)) dNil))) (dCons (dVar 1) dNil)))) dNext)
    (dSeq (dIfS (dB (dCall sp_law_below (dCons (dCall sp_law_plus (dCons (dVar 1) (dCons (dVar 2) dNil))) (dCons (dTup (dCons (dC (.int 1)) (dCons (dC (.int 1)) dNil))) dNil)))) (dPar 1 2 (dCall sp_law_minus (dCons (dTup (dCons (dC (.int 1)) (dCons (dC (.int 1)) dNil))) (dCons (dVar 1) dNil))) (dCall sp_law_minus (dCons (dTup (dCons (dC (.int 1)) (dCons (dC (.int 1)) dNil))) (dCons (dVar 2) dNil)))) dNext)
    (dRet (dTup (dCons (dVar 1) (dCons (dVar 2) dNil)))))))

def sp_law_two_parts : DSp := fun ds k _ => ds = [.bag] ∧ ∀ p q : Rat, Parts p q → k (pts p q)
theorem len_law_two_parts : ∀ ds k kx, sp_law_two_parts ds k kx → ds.length = 1 := by
  intro _ _ _ h
  unfold sp_law_two_parts at h
  obtain ⟨rfl, _⟩ := h; rfl
theorem pure_law_two_parts (ds : List D) (k : D → Prop) (kx : Addr → Prop) (h : sp_law_two_parts ds k kx) : t_law_two_parts { nx := fun _ => k .non, rt := k, ex := kx } (dstart N_law_two_parts ds) := by
  obtain ⟨rfl, h⟩ := h
  have fit : ∀ {p : Rat}, Part p → Fit p := fun hp => Fit.of (part_sz hp)
  have f1 : Fit 1 := Fit.of sz_one
  have fin : ∀ p q : Rat, Part p → Part q → (dSeq (dIfS (dB (dCall sp_law_below (dCons (dCall sp_law_plus (dCons (dVar 1) (dCons (dVar 2) dNil))) (dCons (dTup (dCons (dC (.int 1)) (dCons (dC (.int 1)) dNil))) dNil)))) (dPar 1 2 (dCall sp_law_minus (dCons (dTup (dCons (dC (.int 1)) (dCons (dC (.int 1)) dNil))) (dCons (dVar 1) dNil))) (dCall sp_law_minus (dCons (dTup (dCons (dC (.int 1)) (dCons (dC (.int 1)) dNil))) (dCons (dVar 2) dNil)))) dNext)
      (dRet (dTup (dCons (dVar 1) (dCons (dVar 2) dNil))))) { nx := fun _ => k .non, rt := k, ex := kx } [some .bag, some (fr p), some (fr q)] := fun p q hp hq => by
    refine ⟨p, q, rfl, fit hp, fit hq, p + q, 1, rfl, Fit.of (sz_add (part_sz hp) (part_sz hq)), f1, ?_⟩
    show if decide (p + q < 1) = true then _ else _
    refine iteB (fun c => ?_) (fun c => ?_)
    · have c := of_decide_eq_true c
      exact ⟨1, p, rfl, f1, fit hp, 1, q, rfl, f1, fit hq, h _ _ ⟨part_sub hp, part_sub hq, by grind⟩⟩
    · exact h _ _ ⟨hp, hq, Rat.not_lt.mp (of_decide_eq_false c)⟩
  refine ⟨rfl, fun p hp => ⟨rfl, fun q hq => ⟨4, rfl, by decide, fun r r0 r1 => eq_int ?_⟩⟩⟩
  show if decide (r = 0) = true then _ else _
  refine iteB (fun c => ?_) (fun c => fin p q hp hq)
  exact ⟨1, p, rfl, f1, fit hp, fin p (1 - p) hp (part_sub hp)⟩
abbrev N_law_a_share : List Str := ["bag", "bottom"]
def t_law_a_share : DS :=
  (dSeq (dSet 1 (dAdd (dC (.int 1)) (dOp dIx (dLst (dCons (dC (.int 0)) (dCons (dCall sp_law_take (dCons (dVar 0) (dCons (dC (.int 12)) dNil))) (dCons (dCall sp_law_far_draw (dCons (dVar 0) (dCons (dPow (dC (.int 10)) (dC (.int 17))) dNil))) dNil)))) (dCall sp_law_take (dCons (dVar 0) (dCons (dC (.int 3)) dNil))))))
    (dRet (dCall sp_law_made (dCons (dCall sp_law_far_draw (dCons (dVar 0) (dCons (dAdd (dVar 1) (dC (.int 1))) dNil))) (dCons (dVar 1) dNil)))))

def sp_law_a_share : DSp := fun ds k _ => ds = [.bag] ∧ ∀ x : Rat, Share x → k (fr x)
theorem len_law_a_share : ∀ ds k kx, sp_law_a_share ds k kx → ds.length = 1 := by
  intro _ _ _ h
  unfold sp_law_a_share at h
  obtain ⟨rfl, _⟩ := h; rfl
theorem pure_law_a_share (ds : List D) (k : D → Prop) (kx : Addr → Prop) (h : sp_law_a_share ds k kx) : t_law_a_share { nx := fun _ => k .non, rt := k, ex := kx } (dstart N_law_a_share ds) := by
  obtain ⟨rfl, h⟩ := h
  refine ⟨12, rfl, by decide, fun a a0 a1 => ⟨⟨by decide, by decide, by decide⟩, 10 ^ 17, rfl, by decide, by decide, fun b b0 b1 => ⟨3, rfl, by decide, fun c c0 c1 => ?_⟩⟩⟩
  have fin : ∀ v : Int, 0 ≤ v → v < 10 ^ 17 → (dRet (dCall sp_law_made (dCons (dCall sp_law_far_draw (dCons (dVar 0) (dCons (dAdd (dVar 1) (dC (.int 1))) dNil))) (dCons (dVar 1) dNil)))) { nx := fun _ => k .non, rt := k, ex := kx } [some .bag, some (.int (1 + v))] := fun v v0 v1 => by
    refine ⟨1 + v + 1, rfl, by omega, by omega, fun t t0 t1 => ⟨t, 1 + v, rfl, by omega, small_abs (by omega) (by omega), h _ ⟨mk_nonneg t0 (by omega), mk_le1 (by omega) (by omega), Nat.lt_of_le_of_lt (mkRat_den_le _ _ (by omega)) (by show (1 + v).toNat < 100000000000000000000; omega)⟩⟩⟩
  have hr : c = 0 ∨ c = 1 ∨ c = 2 := by omega
  rcases hr with rfl | rfl | rfl
  · exact fin 0 (by decide) (by decide)
  · exact fin a a0 (by omega)
  · exact fin b b0 b1
abbrev N_law_a_row : List Str := ["bag", "most", "turn"]
def t_law_a_row : DS :=
  (dRet (dC1 cTup (dLc (dItR1 (dCall sp_law_take (dCons (dVar 0) (dCons (dAdd (dVar 1) (dC (.int 1))) dNil)))) (gN 2) dYes (dOp dIx (dLst (dCons (dC (.str "right")) (dCons (dC (.str "left")) dNil))) (dCall sp_law_take (dCons (dVar 0) (dCons (dC (.int 2)) dNil)))) [2])))

def sp_law_a_row : DSp := fun ds k _ => ∃ (m : Int), ds = [.bag, .int m] ∧ 0 ≤ m ∧ m ≤ 1000 ∧ ∀ r : List Bool, (r.length : Int) ≤ m → k (rw_ r)
theorem len_law_a_row : ∀ ds k kx, sp_law_a_row ds k kx → ds.length = 2 := by
  intro _ _ _ h
  unfold sp_law_a_row at h
  obtain ⟨_, rfl, _⟩ := h; rfl
theorem pick2 {r : Int} (h0 : 0 ≤ r) (h1 : r < 2) : atI [D.str "right", D.str "left"] r = some (wd (decide (r = 1))) := by
  have hr : r = 0 ∨ r = 1 := by omega
  rcases hr with rfl | rfl <;> rfl
theorem pure_law_a_row (ds : List D) (k : D → Prop) (kx : Addr → Prop) (h : sp_law_a_row ds k kx) : t_law_a_row { nx := fun _ => k .non, rt := k, ex := kx } (dstart N_law_a_row ds) := by
  obtain ⟨m, rfl, hm, hM, h⟩ := h
  refine ⟨m + 1, rfl, by omega, fun n n0 n1 => ⟨⟨by omega, by omega⟩, by rw [rng_len]; omega, fun i acc => ∃ r : List Bool, r.length = i ∧ acc = r.map wd, ⟨[], rfl, rfl⟩, ?_, ?_⟩⟩
  · rintro i acc d hd ⟨r, hr, rfl⟩
    refine ⟨2, rfl, by decide, fun c c0 c1 => ?_⟩
    show (match atI [D.str "right", D.str "left"] c with | some d => _ | none => False)
    rw [pick2 c0 c1]
    exact ⟨r ++ [decide (c = 1)], by rw [List.length_append, hr]; rfl, by rw [List.map_append]; rfl⟩
  · rintro acc ⟨r, hr, rfl⟩
    rw [rng_len] at hr
    exact h r (by omega)
abbrev N_law_end : List Str := ["parts", "share", "row", "pour", "left_tub", "right_tub", "some"]
def t_law_end : DS :=
  (dSeq (dPar 4 5 (dVar 1) (dCall sp_law_minus (dCons (dTup (dCons (dC (.int 1)) (dCons (dC (.int 1)) dNil))) (dCons (dVar 1) dNil))))
    (dSeq (dFor (dItT (dVar 2)) (gN 3)
    (dIfS (dB (dOp dEq (dVar 3) (dC (.str "right")))) (dSeq (dSet 6 (dCall sp_law_times (dCons (dVar 4) (dCons (dOp dIx (dVar 0) (dC (.int 0))) dNil))))
    (dPar 4 5 (dCall sp_law_minus (dCons (dVar 4) (dCons (dVar 6) dNil))) (dCall sp_law_plus (dCons (dVar 5) (dCons (dVar 6) dNil))))) (dSeq (dSet 6 (dCall sp_law_times (dCons (dVar 5) (dCons (dOp dIx (dVar 0) (dC (.int 1))) dNil))))
    (dPar 4 5 (dCall sp_law_plus (dCons (dVar 4) (dCons (dVar 6) dNil))) (dCall sp_law_minus (dCons (dVar 5) (dCons (dVar 6) dNil)))))))
    (dRet (dVar 4))))

abbrev sp_law_end := sp_end_of
abbrev len_law_end := len_end_of
theorem U_sub {x : Rat} {n : Nat} (h : U x n) : U (1 - x) n := by
  obtain ⟨h0, h1, h2⟩ := h
  refine ⟨by grind, by grind, Nat.lt_of_le_of_lt (den_le (t := (x.den : Int) - x.num) x.den_pos ?_) h2⟩
  have e := mul_den x
  rw [Rat.intCast_sub, ← e]
  have : (((x.den : Nat) : Int) : Rat) = (x.den : Rat) := rfl
  rw [this]; grind
theorem pure_law_end (ds : List D) (k : D → Prop) (kx : Addr → Prop) (h : sp_law_end ds k kx) : t_law_end { nx := fun _ => k .non, rt := k, ex := kx } (dstart N_law_end ds) := by
  unfold sp_law_end sp_end_of at h
  obtain ⟨p, q, x, r, n, rfl, hp, hq, hx, hn, h⟩ := h
  refine ⟨1, x, rfl, Fit.of sz_one, hx.sz.mono (by omega), ?_⟩
  refine ⟨fun i δ => ∃ z1 z2, δ = [some (pts p q), some (fr x), some (rw_ r), z1, some (fr (pours p q x (r.take i))), some (fr (1 - pours p q x (r.take i))), z2], ⟨none, none, rfl⟩, ?_, ?_⟩
  · rintro i d δ' hd ⟨z1, z2, rfl⟩
    obtain ⟨w, hw, rfl⟩ := map_get hd
    have hl : i < r.length := (List.getElem?_eq_some_iff.mp hw).1
    have hu : U (pours p q x (r.take i)) 4476 := (U_pours hp hq (r.take i) hx).mono (by rw [List.length_take]; omega)
    have hs : ∀ y : Rat, y = pour p q (pours p q x (r.take i)) w → y = pours p q x (r.take (i + 1)) := fun y e => by rw [take_snoc hw, pours_snoc]; exact e
    generalize pours p q x (r.take i) = y at *
    have hv := U_sub hu
    refine eq_of (wd_shp w) str_shpR (wd_eq w) ?_
    have fy : Fit y := hu.sz.mono (by decide)
    have fv : Fit (1 - y) := hv.sz.mono (by decide)
    cases w with
    | false =>
      have fs : Fit (y * p) := (sz_mul hu.sz (part_sz hp)).mono (by decide)
      refine iteT ⟨y, p, rfl, fy, Fit.of (part_sz hp), y, y * p, rfl, fy, fs, 1 - y, y * p, rfl, fv, fs, some (wd false), some (fr (y * p)), ?_⟩
      have e1 : y - y * p = pours p q x (r.take (i + 1)) := hs _ (by show _ = y * (1 - p); grind)
      have e2 : 1 - y + y * p = 1 - pours p q x (r.take (i + 1)) := by rw [← e1]; grind
      rw [e1, e2]; rfl
    | true =>
      have fs : Fit ((1 - y) * q) := (sz_mul hv.sz (part_sz hq)).mono (by decide)
      refine iteF ⟨1 - y, q, rfl, fv, Fit.of (part_sz hq), y, (1 - y) * q, rfl, fy, fs, 1 - y, (1 - y) * q, rfl, fv, fs, some (wd true), some (fr ((1 - y) * q)), ?_⟩
      have e1 : y + (1 - y) * q = pours p q x (r.take (i + 1)) := hs _ (by show _ = y * (1 - q) + q; grind)
      have e2 : 1 - y - (1 - y) * q = 1 - pours p q x (r.take (i + 1)) := by rw [← e1]; grind
      rw [e1, e2]; rfl
  · rintro δ' ⟨z1, z2, rfl⟩
    rw [List.length_map, List.take_length]
    exact h
abbrev N_law_drawn : List Str := ["bag", "most", "parts", "share"]
def t_law_drawn : DS :=
  (dSeq (dSet 2 (dCall sp_law_two_parts (dCons (dVar 0) dNil)))
    (dSeq (dSet 3 (dCall sp_law_a_share (dCons (dVar 0) dNil)))
    (dRet (dTup (dCons (dVar 2) (dCons (dVar 3) (dCons (dCall sp_law_a_row (dCons (dVar 0) (dCons (dVar 1) dNil))) dNil)))))))

def sp_law_drawn : DSp := fun ds k _ => ∃ (m : Int), ds = [.bag, .int m] ∧ 0 ≤ m ∧ m ≤ 1000 ∧ ∀ p q x r, Parts p q → Share x → ((List.length r : Nat) : Int) ≤ m → k (.tup [pts p q, fr x, rw_ r])
theorem len_law_drawn : ∀ ds k kx, sp_law_drawn ds k kx → ds.length = 2 := by
  intro _ _ _ h
  unfold sp_law_drawn at h
  obtain ⟨_, rfl, _⟩ := h; rfl
theorem pure_law_drawn (ds : List D) (k : D → Prop) (kx : Addr → Prop) (h : sp_law_drawn ds k kx) : t_law_drawn { nx := fun _ => k .non, rt := k, ex := kx } (dstart N_law_drawn ds) := by
  obtain ⟨m, rfl, hm, hM, h⟩ := h
  exact ⟨rfl, fun p q hpq => ⟨rfl, fun x hx => ⟨m, rfl, hm, hM, fun r hr => h p q x r hpq hx hr⟩⟩⟩
end DL
/-! The bag: taking, making; the law's loop over bags. -/
namespace DL
open PySem PySem.Spec PyProof.Rows L2 PB
/-! ### _law_take -/
def t_take (K : PySem.W.Frag) : TS :=
  tSeq (tAsg (tOp (rI0 fun i j => .int (i + j)) (tOp (rIxL K) (tVar 0) (tC (.int 1))) (tC (.int 1))) (gSub (tVar 0) (tC (.int 1)) rSetL))
    (tRet (tOp (rI (fun _ j => 0 < j) fun i j => .int (i % j)) (tOp (rIxL K) (tOp (rIxL K) (tVar 0) (tC (.int 0)))
      (tOp (rI (fun _ j => 0 < j) fun i j => .int (i % j)) (tOp (rIxL K) (tVar 0) (tC (.int 1))) (tCB (fun xs H Q => ∃ p ys, xs = [.ref p] ∧ (SqL K H p ys ∨ SqT K H p ys) ∧ Q (.int ys.length) H) (tCons (tOp (rIxL K) (tVar 0) (tC (.int 0))) tNil)))) (tVar 1)))
theorem read_take {K : PySem.W.Frag} {vs : List V} {H : Hp} {Q : VK} {E : XK} (h : spD K sp_law_take vs H Q E) : t_take K { nx := fun _ H' => Q .non H', rt := Q } (L2.start N_law_take vs) H := by
  obtain ⟨B, M, ds, k, kx, ok, r, ⟨m, rfl, hm, hk⟩, hq, hx⟩ := h
  obtain ⟨v, w, rfl, ⟨b, eb, rfl⟩, rfl⟩ := RDs.two r
  obtain ⟨dr, n, ns, W⟩ := ok.bag b eb
  have hb := W.at_
  have hdr := hid_of W.dr_
  have ndb : dr ≠ b := fun e => hdr.1 (e ▸ W.mem)
  refine ⟨.ref b, rfl, b, _, 1, .int n, rfl, rfl, SqL.of hb, rfl, n, 1, rfl, rfl, .ref b, rfl, b, _, 1, 1, rfl, rfl, hb, rfl, ?_⟩
  have hb2 : (upd H b (.lst [.ref dr, .int (n + 1)])) b = some (.lst [.ref dr, .int (n + 1)]) := upd_same
  have hd2 : (upd H b (.lst [.ref dr, .int (n + 1)])) dr = some (.lst (ns.map V.int)) := (upd_ne ndb).trans hdr.2
  have j0 : 0 ≤ (n + 1) % 400 := Int.emod_nonneg _ (by decide)
  have j1 : (n + 1) % 400 < 400 := Int.emod_lt_of_pos _ (by decide)
  have hlt : ((n + 1) % 400).toNat < ns.length := by rw [W.len]; omega
  have e400 : ((ns.map V.int).length : Int) = 400 := by rw [List.length_map, W.len]; rfl
  have at1 : atI (ns.map V.int) ((n + 1) % 400) = some (.int ns[((n + 1) % 400).toNat]) := by
    have := atI_nat (xs := ns.map V.int) (j := ((n + 1) % 400).toNat) (v := .int ns[((n + 1) % 400).toNat]) (by rw [List.getElem?_map, List.getElem?_eq_getElem hlt]; rfl)
    rwa [show ((((n + 1) % 400).toNat : Nat) : Int) = (n + 1) % 400 by omega] at this
  refine ⟨.ref b, rfl, b, _, 0, .ref dr, rfl, rfl, SqL.of hb2, rfl, .ref b, rfl, b, _, 1, .int (n + 1), rfl, rfl, SqL.of hb2, rfl, .ref b, rfl, b, _, 0, .ref dr, rfl, rfl, SqL.of hb2, rfl, dr, _, rfl, .inl (SqL.of hd2), n + 1, 400, rfl, by rw [e400], (show (0 : Int) < 400 by decide), dr, _, (n + 1) % 400, _, rfl, rfl, SqL.of hd2, at1, .int m, rfl, _, m, rfl, rfl, hm, ?_⟩
  refine hq _ (.int (ns[((n + 1) % 400).toNat] % m)) _ ⟨?_, fun a ma na => ?_, fun b' dr' n' ns' e' w' => ?_⟩ rfl (hk _ (Int.emod_nonneg _ (by omega)) (Int.emod_lt_of_pos _ hm))
  · rw [hid_upd_mem W.mem]; exact fun _ _ q => q
  · exact upd_ne fun e => na (e ▸ eb)
  · have eb' : b' = b := by rw [eb] at e'; exact (Option.some.inj e').symm
    subst eb'
    have e1 := w'.at_
    rw [hb] at e1
    have e2 : dr = dr' := by simpa using (Option.some.inj e1 |> HO.lst.inj |> List.cons.inj).1
    subst e2
    exact ⟨n + 1, w'.mem, hb2, by rw [hid_upd_mem w'.mem]; exact w'.dr_, w'.len, w'.rng⟩
/-! ### bags -/
/-- a new bag at b -/
structure NewBag (H' : Hp) (b dr : Addr) (ns : List Int) : Prop where
  at_ : H' b = some (.lst [.ref dr, .int 0])
  dr_ : H' dr = some (.lst (ns.map V.int))
  ne : b ≠ dr
  len : ns.length = 400
  rng : ∀ x ∈ ns, 0 ≤ x ∧ x < 1000
def spBag (K : PySem.W.Frag) : Sp := fun vs H Q _ => ∃ (a : Addr) (xs : List Int) (i : Int), vs = [.ref a, .int i] ∧ SqL K H a (xs.map V.int) ∧ 0 ≤ i ∧ ∀ H' b dr ns, Ex H H' → H b = none → H dr = none → NewBag H' b dr ns → Q (.ref b) H'
def t_bag (K : PySem.W.Frag) (E : XK) : TS := tRet (tLst (tCons (tCall (spN K sp_law_draws) [] E (tCons (tCall (spD K sp_law_cell_at) [] E (tCons (tVar 0) (tCons (tVar 1) tNil))) (tCons (tC (.int 400)) (tCons (tC (.int 1000)) tNil)))) (tCons (tC (.int 0)) tNil)))
theorem ok0 {K : PySem.W.Frag} {H : Hp} : Ok K none [] H := ⟨fun a m => absurd m (List.not_mem_nil), fun b e => by cases e⟩
theorem stp0 {K : PySem.W.Frag} {H H2 : Hp} (t : Stp K none [] H H2) : Ex H H2 := fun a o e => (hid_of (t.ex a o (hid_at (List.not_mem_nil) e))).2
theorem hid0 (H : Hp) : hid [] H = H := by funext a; unfold hid; rw [if_neg (List.not_mem_nil)]
theorem read_bag {K : PySem.W.Frag} {vs : List V} {H : Hp} {Q : VK} {E : XK} (h : spBag K vs H Q E) : t_bag K E { nx := fun _ H' => Q .non H', rt := Q } (L2.start ["script", "k"] vs) H := by
  obtain ⟨a, xs, i, rfl, hS, hi, h⟩ := h
  refine ⟨.ref a, rfl, .int i, rfl, none, [], [.scr xs, .int i], fun d => ∃ c : Int, d = .int c, fun _ => False, ok0, ⟨_, _, rfl, ⟨a, rfl, by rw [hid0]; exact hS⟩, _, _, rfl, rfl, rfl⟩, ⟨xs, i, rfl, hi, fun c => ⟨c, rfl⟩⟩, ?_, fun _ _ _ q => q.elim⟩
  rintro v d H1 t1 r1 ⟨c, rfl⟩
  have ev : v = .int c := r1
  subst ev
  have e1 := stp0 t1
  refine ⟨none, [], [.int c, .int 400, .int 1000], fun _ => False, fun es => ∃ ns : List Int, es = ns.map D.int ∧ ns.length = 400 ∧ ∀ x ∈ ns, 0 ≤ x ∧ x < 1000, fun _ => False, ok0, ⟨_, _, rfl, rfl, _, _, rfl, rfl, _, _, rfl, rfl, rfl⟩, ⟨c, rfl, fun ns h1 h2 => ⟨ns, rfl, h1, h2⟩⟩, fun _ _ _ _ _ q => q.elim, ?_, fun _ _ _ q => q.elim⟩
  rintro dr es H2 t2 _ hdr ⟨ws, h1, h2⟩ ⟨ns, rfl, hl, hr⟩
  have e2 := stp0 t2
  have ew := RDs.of_ints ns ws h2
  subst ew
  refine ⟨line1000 (show 2 ≤ 1000 by decide), fun b hb => h _ b dr ns (fun q o e => ?_) (Evl.fresh_back e1 (Evl.fresh_back e2 hb)) (Evl.fresh_back e1 hdr) ⟨upd_same, (upd_ne (ne_of_none h1 hb)).trans h1, (ne_of_none h1 hb).symm, hl, hr⟩⟩
  exact Evl.Ex.new hb _ _ (e2 _ _ (e1 _ _ e))
/-- new bags, one apart from another, listed at p -/
structure NewBags (H' : Hp) (p : Addr) (bs : List Addr) : Prop where
  at_ : H' p = some (.lst (bs.map V.ref))
  nd : bs.Nodup
  each : ∀ b ∈ bs, b ≠ p ∧ ∃ dr ns, NewBag H' b dr ns ∧ dr ∉ bs
def spBags (K : PySem.W.Frag) : Sp := fun vs H Q _ => ∃ (a : Addr) (xs : List Int) (l : Int), vs = [.ref a, .int l] ∧ SqL K H a (xs.map V.int) ∧ 0 ≤ l ∧ l ≤ 63 ∧ ∀ H' p bs, Ex H H' → (∀ b ∈ bs, H b = none) → NewBags H' p bs → Q (.ref p) H'
abbrev N_law_bags : List Str := ["script", "limit", "k"]
def di_bags : DI := dItR1 (dOp cMax (dC (.int 1)) (dOp cMin (dVar 1) (dC1 cLen (dVar 0))))
def te_bags (K : PySem.W.Frag) : TE := tCall (spBag K) [] E0 (tCons (tVar 0) (tCons (tVar 2) tNil))
theorem read_bags {K : PySem.W.Frag} {vs : List V} {H : Hp} {Q : VK} {E : XK} {wi : TI} (hi : SI K E wi di_bags) (h : spBags K vs H Q E) : tRet (tLc wi (gName 2) tYes (te_bags K) [2]) { nx := fun _ H' => Q .non H', rt := Q } (L2.start N_law_bags vs) H := by
  obtain ⟨a, xs, l, rfl, hS, hl0, hl1, h⟩ := h
  have rp : Rep K none [] H (L2.start N_law_bags [.ref a, .int l]) (dstart N_law_bags [.scr xs, .int l]) := rep_start ok0 ⟨_, _, rfl, ⟨a, rfl, by rw [hid0]; exact hS⟩, _, _, rfl, rfl, rfl⟩
  refine hi none [] _ _ H (fun items => ∃ n : Nat, items = rngD 0 n ∧ n ≤ 63) (fun _ => False) _ rp ?_ ?_ (fun _ _ _ q => q.elim)
  · show (-(2 ^ 62) ≤ (if (if (xs.length : Int) < l then (xs.length : Int) else l) > 1 then (if (xs.length : Int) < l then (xs.length : Int) else l) else 1) ∧ (if (if (xs.length : Int) < l then (xs.length : Int) else l) > 1 then (if (xs.length : Int) < l then (xs.length : Int) else l) else 1) < 2 ^ 62) ∧ _
    refine ⟨⟨?_, ?_⟩, _, rfl, ?_⟩
    · split <;> split <;> omega
    · split <;> split <;> omega
    · split <;> split <;> omega
  · rintro J items H1 t1 wk ⟨n, rfl, hn⟩
    have e1 := stp0 t1
    intro L hL
    have hS1 : SqL K H1 a (xs.map V.int) := Evl.ex_l e1 hS
    refine ⟨fun i m H' => i + m = n ∧ Ex H1 H' ∧ ∃ bs : List Addr, bs.length = i ∧ H' L = some (.lst (bs.map V.ref)) ∧ bs.Nodup ∧ ∀ b ∈ bs, b ≠ L ∧ H1 b = none ∧ ∃ dr ns, NewBag H' b dr ns ∧ dr ∉ bs ∧ dr ≠ L, ⟨n, by omega, Evl.Ex.new hL, [], rfl, upd_same, List.nodup_nil, fun b hb => absurd hb (List.not_mem_nil)⟩, fun i m H' hW => ?_⟩
    obtain ⟨em, ex', bs, hb, hL', nd, each⟩ := hW
    obtain ⟨go, stop⟩ := wk [] H' (by rw [hid0, hid0]; exact ex') ok0
    rw [rng_len] at stop
    by_cases c : i = n
    · subst c
      exact .inl ⟨stop, h H' L bs (fun q o e => ex' _ _ (e1 _ _ e)) (fun b q => Evl.fresh_back e1 (each b q).2.1) ⟨hL', nd, fun b q => ⟨(each b q).1, by
        obtain ⟨_, _, dr, ns, w, h1, _⟩ := each b q
        exact ⟨dr, ns, w, h1⟩⟩⟩⟩
    · have hi' : i < n := by omega
      have hget : (rngD 0 n)[i]? = some (.int (0 + (i : Int))) := by unfold rngD; rw [List.getElem?_map, List.getElem?_range hi']; rfl
      obtain ⟨hg, hy⟩ := go i _ hget
      refine .inr ⟨hg, fun H2 => Ex H1 H2 ∧ ∃ bs : List Addr, bs.length = i + 1 ∧ H2 L = some (.lst (bs.map V.ref)) ∧ bs.Nodup ∧ ∀ b ∈ bs, b ≠ L ∧ H1 b = none ∧ ∃ dr ns, NewBag H2 b dr ns ∧ dr ∉ bs ∧ dr ≠ L, fun H2 hN => ⟨m - 1, by omega, by omega, hN⟩, fun x H2 hyl => ?_⟩
      obtain ⟨ex2, rx⟩ := hy x H2 hyl
      have ex12 : x = .int (0 + (i : Int)) := rx
      subst ex12
      refine ⟨rfl, .ref a, rfl, .int (0 + (i : Int)), rfl, a, xs, 0 + (i : Int), rfl, Evl.ex_l ex2 (Evl.ex_l ex' hS1), by omega, fun H3 b dr ns ex3 hb3 hdr3 w => ?_⟩
      have hL3 : H3 L = some (.lst (bs.map V.ref)) := ex3 _ _ (ex2 _ _ hL')
      have nbL : b ≠ L := fun e => by rw [e, ex2 _ _ hL'] at hb3; cases hb3
      have ndL : dr ≠ L := fun e => by rw [e, ex2 _ _ hL'] at hdr3; cases hdr3
      have keep : ∀ q o, q ≠ L → H3 q = some o → upd H3 L (.lst (bs.map V.ref ++ [.ref b])) q = some o := fun q o e z => (upd_ne e).trans z
      have exf : Ex H1 (upd H3 L (.lst (bs.map V.ref ++ [.ref b]))) := fun q o e => keep q o (ne_of_none e hL) (ex3 _ _ (ex2 _ _ (ex' _ _ e)))
      have old : ∀ b' ∈ bs, H' b' ≠ none := fun b' q => by
        obtain ⟨_, _, dr', ns', w', _⟩ := each b' q
        rw [w'.at_]; simp
      have hb3' : H' b = none := Evl.fresh_back ex2 hb3
      have hdr3' : H' dr = none := Evl.fresh_back ex2 hdr3
      have nbs : b ∉ bs := fun q => old b q hb3'
      have ndrs : dr ∉ bs := fun q => old dr q hdr3'
      refine ⟨bs.map V.ref, hL3, Nat.lt_of_le_of_lt (m := 63) (by rw [List.length_map]; omega) (by rw [sizeLine_eq]; decide), exf, bs ++ [b], by rw [List.length_append, hb]; rfl, by rw [upd_same, List.map_append]; rfl, ?_, fun b' hb' => ?_⟩
      · exact List.nodup_append.mpr ⟨nd, List.nodup_cons.mpr ⟨List.not_mem_nil, List.nodup_nil⟩, fun u hu v hv e => nbs (by rw [List.mem_singleton.mp hv] at e; exact e ▸ hu)⟩
      · rcases List.mem_append.mp hb' with q | q
        · obtain ⟨z1, z2, dr', ns', w', z3, z4⟩ := each b' q
          have ndb' : dr' ≠ b := fun e => by
            have := w'.dr_
            rw [e, hb3'] at this; cases this
          exact ⟨z1, z2, dr', ns', ⟨keep _ _ z1 (ex3 _ _ (ex2 _ _ w'.at_)), keep _ _ z4 (ex3 _ _ (ex2 _ _ w'.dr_)), w'.ne, w'.len, w'.rng⟩, fun z => by
            rcases List.mem_append.mp z with z | z
            · exact z3 z
            · exact ndb' (List.mem_singleton.mp z), z4⟩
        · rw [List.mem_singleton.mp q]
          exact ⟨nbL, Evl.fresh_back ex' hb3', dr, ns, ⟨keep _ _ nbL w.at_, keep _ _ ndL w.dr_, w.ne, w.len, w.rng⟩, fun z => by
            rcases List.mem_append.mp z with z | z
            · exact ndrs z
            · exact w.ne (List.mem_singleton.mp z).symm, ndL⟩
/-! ### the law's own body: nothing is hidden -/
def SS0 (K : PySem.W.Frag) (E : XK) (ts : TS) (ds : DS) : Prop := ∀ σ δ H D0 D1, Rep K none [] H σ δ → ds D0 δ → Lk K E none [] H D0 D1 → ts D1 σ H
def PDS0 (X : Cx) (E : XK) (s : Stmt) (ds : DS) : Prop := ∃ te, PS X s te ∧ SS0 X.K E te ds
def PDB0 (X : Cx) (E : XK) (s : List Stmt) (ds : DS) : Prop := ∃ te, PSs X s te ∧ SS0 X.K E te ds
section
variable {X : Cx} {E : XK} {st : Stmt} {rest : List Stmt} {s1 s2 : DS}
theorem b0_cons : PDS0 X E st s1 → PDB0 X E rest s2 → PDB0 X E (st :: rest) (dSeq s1 s2)
  | ⟨_, p1, q1⟩, ⟨_, p2, q2⟩ => ⟨_, pss_cons p1 p2, fun σ δ H D0 D1 rp h l => q1 σ δ H _ _ rp h
      ⟨fun σ' δ' H2 t r h2 => q2 σ' δ' H2 D0 D1 r h2 (l.stp t), l.rt, l.ex, l.bk, l.ct⟩⟩
theorem b0_lift : PDB X E rest s1 → PDB0 X E rest s1
  | ⟨_, p, q⟩ => ⟨_, p, fun σ δ H D0 D1 rp h l => q none [] σ δ H D0 D1 rp h l⟩
/-- for bag in _law_bags(script, l): body. Behind each turn only the script is known -/
def blank (n is : Nat) (ns : List Int) : Dst := (List.replicate n none).set is (some (.scr ns))
def dBags (n is ib : Nat) (l : Int) (os : OS) : DS := fun D δ => ∃ ns, δ = blank n is ns ∧ 0 ≤ l ∧ l ≤ 63 ∧ ib < n ∧ is < n ∧ is ≠ ib ∧ os { nx := fun δ' _ => δ'.length = n ∧ δ'[is]? = some (some (.scr ns)), rt := fun _ => False, rn := fun _ => False, ex := fun _ => False } ((blank n is ns).set ib (some .bag)) [] ∧ D.nx (blank n is ns)
theorem rep_blank {K : PySem.W.Frag} {H : Hp} {n is : Nat} {ns : List Int} {σ : L2.St} {v : V} (hl : σ.length = n) (hi : is < n) (hs : σ[is]? = some (some v)) (hr : RD K none H (.scr ns) v) : Rep K none [] H σ (blank n is ns) := by
  refine ⟨ok0, by unfold blank; rw [List.length_set, List.length_replicate]; exact hl, fun j d hj => ?_⟩
  unfold blank at hj
  by_cases c : is = j
  · subst c
    rw [List.getElem?_set_self (by rw [List.length_replicate]; exact hi)] at hj
    cases hj
    exact ⟨v, hs, by rw [hid0]; exact hr⟩
  · rw [List.getElem?_set_ne c, List.getElem?_replicate] at hj
    split at hj <;> cases hj
theorem blank_at {n is : Nat} {ns : List Int} (hi : is < n) : (blank n is ns)[is]? = some (some (.scr ns)) := by
  unfold blank
  rw [List.getElem?_set_self (by rw [List.length_replicate]; exact hi)]
/-- the state within a turn, its bag at b -/
theorem rep_turn {K : PySem.W.Frag} {H : Hp} {n is ib : Nat} {ns : List Int} {σ : L2.St} {v : V} {b dr : Addr} {ms : List Int} (hl : σ.length = n) (hi : is < n) (hb : ib < n) (hne : is ≠ ib) (hs : σ[is]? = some (some v)) (hr : RD K none H (.scr ns) v) (w : NewBag H b dr ms) :
    Rep K (some b) [b] H (σ.set ib (some (.ref b))) ((blank n is ns).set ib (some .bag)) := by
  have ok : Ok K (some b) [b] H := ⟨fun a m => by rw [List.mem_singleton.mp m]; exact ⟨_, w.at_⟩, fun b' e => by
    cases e
    exact ⟨dr, 0, ms, List.mem_singleton.mpr rfl, w.at_, hid_at (fun m => w.ne (List.mem_singleton.mp m).symm) w.dr_, w.len, w.rng⟩⟩
  have hr' : RD K (some b) (hid [b] H) (.scr ns) v := by
    obtain ⟨a, e, q⟩ := hr
    refine ⟨a, e, ?_⟩
    rcases q with (q | ⟨o, q⟩) | q
    · by_cases c : a = b
      · exfalso
        rw [c, w.at_] at q
        have := HO.lst.inj (Option.some.inj q)
        cases ns with
        | nil => cases this
        | cons x xs => simp at this
      · exact .inl (.inl (hid_at (fun m => c (List.mem_singleton.mp m)) q))
    · refine .inl (.inr ⟨o, hid_at (fun m => ?_) q⟩)
      rw [List.mem_singleton.mp m, w.at_] at q
      cases q
    · exact .inr q
  have base : Rep K (some b) [b] H σ (blank n is ns) := ⟨ok, by unfold blank; rw [List.length_set, List.length_replicate]; exact hl, fun j d hj => by
    unfold blank at hj
    by_cases c : is = j
    · subst c
      rw [List.getElem?_set_self (by rw [List.length_replicate]; exact hi)] at hj
      cases hj
      exact ⟨v, hs, hr'⟩
    · rw [List.getElem?_set_ne c, List.getElem?_replicate] at hj
      split at hj <;> cases hj⟩
  exact base.set (d := .bag) (v := .ref b) ⟨b, rfl, rfl⟩
theorem ss_bags {K : PySem.W.Frag} {n is ib : Nat} {l : Int} {tb : TS} {os : OS} (hb : SSo K E tb os) : SS0 K E (tFor (iList K (tCall (spBags K) [] E (tCons (tVar is) (tCons (tC (.int l)) tNil)))) (gName ib) tb) (dBags n is ib l os) := by
  intro σ δ H D0 D1 rp h lk
  obtain ⟨ns, rfl, hl0, hl1, hib, his, hne, hos, hnx⟩ := h
  obtain ⟨v, hs, hv⟩ := rp.at_ is _ (blank_at his)
  rw [hid0] at hv
  obtain ⟨a, rfl, hS⟩ := hv
  have hlen : σ.length = n := by rw [rp.len]; unfold blank; rw [List.length_set, List.length_replicate]
  refine ⟨.ref a, hs, a, ns, l, rfl, hS, hl0, hl1, fun H' p bs ex fr nb => ⟨p, rfl, ⟨_, SqL.of nb.at_⟩, ?_⟩⟩
  refine ⟨fun i m σ' H2 => i + m = bs.length ∧ Ex H H2 ∧ H2 p = some (.lst (bs.map V.ref)) ∧ (∀ j b, i ≤ j → bs[j]? = some b → ∃ dr ms, NewBag H2 b dr ms ∧ dr ∉ bs) ∧ σ'.length = n ∧ ∃ v, σ'[is]? = some (some v) ∧ RD K none H2 (.scr ns) v,
    ⟨bs.length, by omega, ex, nb.at_, fun j b _ hj => (nb.each b (List.mem_of_getElem? hj)).2, hlen, .ref a, hs, a, rfl, Evl.ex_l ex hS⟩, fun i m σ' H2 hW => ?_⟩
  obtain ⟨em, exH, hp, later, hl', v, hs', hv'⟩ := hW
  by_cases c : i = bs.length
  · subst c
    refine .inl ⟨⟨_, SqL.of hp, by rw [List.length_map]; exact Nat.le_refl _⟩, ?_⟩
    exact lk.nx _ _ H2 (Stp.same exH ok0) (rep_blank hl' his hs' hv') hnx
  · have hi : i < bs.length := by omega
    have hg : bs[i]? = some bs[i] := List.getElem?_eq_getElem hi
    have hg2 : (bs.map V.ref)[i]? = some (.ref bs[i]) := by rw [List.getElem?_map, hg]; rfl
    obtain ⟨dr, ms, w, hdr⟩ := later i _ (Nat.le_refl _) hg
    have hmem : bs[i] ∈ bs := List.mem_of_getElem? hg
    refine .inr ⟨⟨_, _, SqL.of hp, hg2⟩, fun σ3 H3 => Ex H H3 ∧ H3 p = some (.lst (bs.map V.ref)) ∧ (∀ j b, i + 1 ≤ j → bs[j]? = some b → ∃ dr ms, NewBag H3 b dr ms ∧ dr ∉ bs) ∧ σ3.length = n ∧ ∃ v, σ3[is]? = some (some v) ∧ RD K none H3 (.scr ns) v, fun σ3 H3 hN => ⟨m - 1, by omega, by omega, hN⟩, fun x H3 hy => ?_⟩
    obtain ⟨rfl, hx⟩ := hy
    have ex1 := hx _ (SqL.of hp)
    rw [hg2] at ex1
    cases ex1
    have rt := rep_turn (b := bs[i]) hl' his hib hne hs' hv' w
    have rg : RepG K (some bs[i]) [bs[i]] (hid [bs[i]] H3) H3 H3 (σ'.set ib (some (.ref bs[i]))) ((blank n is ns).set ib (some .bag)) [] :=
      ⟨fun _ _ _ => rfl, fun b e => by cases e; exact List.mem_singleton.mpr rfl, fun b dr n ns e w => ⟨n, w⟩, rt, fun p hp => absurd hp List.not_mem_nil, List.nodup_nil, fun e he => absurd he List.not_mem_nil, fun _ _ q => q⟩
    refine hb _ _ _ _ _ _ _ _ _ _ rg hos ⟨fun σ4 δ4 μ4 H4 r4 h4 => ?_, fun _ _ _ _ _ q => q.elim, fun _ _ _ _ q => q.elim, fun _ _ _ q => q.elim, fun _ _ _ _ _ q => q.elim, fun _ _ _ _ _ q => q.elim⟩
    have keep : ∀ q o, q ≠ bs[i] → H3 q = some o → H4 q = some o := fun q o ne e => (hid_of (r4.ex q o (hid_at (fun m => ne (List.mem_singleton.mp m)) e))).2
    obtain ⟨h41, h42⟩ := h4
    obtain ⟨v4, q1, a4, e4, q2⟩ := r4.rep.at_ is _ h42
    refine ⟨fun q o e => keep q o (fun z => by rw [z, fr _ hmem] at e; cases e) (exH q o e), keep p _ (nb.each _ hmem).1.symm hp, fun j b hj hjb => ?_, by rw [r4.rep.len]; exact h41, v4, q1, a4, e4, Evl.ex_l (hid_ex _ _) q2⟩
    obtain ⟨dr', ms', w', hdr'⟩ := later j b (by omega) hjb
    have nbj : b ≠ bs[i] := fun z => by
      have h1 : bs[j]? = bs[i]? := by rw [hjb, hg, z]
      have hjl : j < bs.length := (List.getElem?_eq_some_iff.mp hjb).1
      have := (List.getElem?_inj hi nb.nd).mp h1.symm
      omega
    exact ⟨dr', ms', ⟨keep _ _ nbj w'.at_, keep _ _ (fun z => hdr' (z ▸ hmem)) w'.dr_, w'.ne, w'.len, w'.rng⟩, hdr'⟩
/-- the def _law_bags -/
def DefBags (P : Program) (w : World) (K : PySem.W.Frag) (mg : Str → Option Value) (base : Heap) (k : Nat) : Prop :=
  ∃ f fd, FnOk P w K mg base (L2.CX P w) k f fd ["script", "limit"] (spBags K) ∧ mg "_law_bags" = some (.ref f) ∧ PySem.W.keepIn K (.ref f) = true ∧ Binds K fd ["script", "limit"] []
def DefBag (P : Program) (w : World) (K : PySem.W.Frag) (mg : Str → Option Value) (base : Heap) (k : Nat) : Prop :=
  ∃ f fd, FnOk P w K mg base (L2.CX P w) k f fd ["script", "k"] (spBag K) ∧ mg "_law_bag" = some (.ref f) ∧ PySem.W.keepIn K (.ref f) = true ∧ Binds K fd ["script", "k"] []
theorem s0_bags {n is ib j k : Nat} {l : Int} {os : OS} {body : List Stmt} {p1 p2 p3 p4 p5 pos : Pos} {jj : Nat} (hx : Passes (CXL X) X E) (hpo : PassesOwn (model X.prog X.w) X.A X.env X.xe) (hr : Room j X.A) (D : DefBags X.prog X.w X.K X.mg X.base k) (hb : PDBo X E body os) (hN : X.N.Nodup) (hi : X.N[ib]? = some "bag") (hi2 : X.N[is]? = some "script")
    (hkj : k ≤ j := by decide) (hc : X.calm = true := by rfl) (hg : Gl X "_law_bags" := by rfl) (hlo : Loc X.env.scope "bag" := by first | exact Or.inl rfl | exact Or.inr rfl) (hv : Vis X.env.scope "script" := by first | exact Or.inl rfl | exact Or.inr (Or.inl rfl) | exact Or.inr (Or.inr rfl)) (hf : X.fn "bag" = true ∨ X.env.scope.names.lookup ("bag" : Str) = some .local := by first | exact .inl rfl | exact .inr rfl)
    (he : starEach [.Name "script" p3, .Constant (.int l) jj p4] X.env = (false, eval (.Name "script" p3) X.env) :: starEach [.Constant (.int l) jj p4] X.env := by rfl) (he2 : starEach [.Constant (.int l) jj p4] X.env = (false, eval (.Constant (.int l) jj p4) X.env) :: starEach [] X.env := by rfl)
    (hpl : (backTo p5 (starEach [.Constant (.int l) jj p4] X.env)).any (·.1) = false := by rfl)
    (hs : ∀ x, foldedSetIterable (.Call (.Name "_law_bags" p2) [.Name "script" p3, .Constant (.int l) jj p4] [] p5) X.env x = pure x := by intro _; rfl) :
    PDS0 X E (.For (.Name "bag" p1) (.Call (.Name "_law_bags" p2) [.Name "script" p3, .Constant (.int l) jj p4] [] p5) body [] pos) (dBags n is ib l os) := by
  obtain ⟨f, fd, F, hm, hk, hbd⟩ := D
  obtain ⟨tb, q1, q2⟩ := hb
  exact ⟨_, ps_for hpo hc (pi_list (pe_call (F.mono hkj) hr hg hm hk hbd .nil hx (pa_cons (pe_var hi2 hv) (pa_cons pe_int pa_nil he2) he) (by decide) he hpl)) (pg_name hN hi hlo hf) q1 hs, ss_bags q2⟩
end
/-! ### the law's promise -/
def spLaw (K : PySem.W.Frag) : Sp := fun vs H Q _ => ∃ (a : Addr) (ns : List Int), vs = [.ref a] ∧ SqL K H a (ns.map V.int) ∧ ∀ H', Q (.bl true) H'
theorem read_law {K : PySem.W.Frag} {N : List Str} {vs : List V} {H : Hp} {Q : VK} {E : XK} {ts : TS} {ds : DS} (hs : SS0 K E ts ds) (hN : 0 < N.length) (h : spLaw K vs H Q E) (hd : ∀ ns, ds { nx := fun _ => False, rt := fun d => d = .bl true, ex := fun _ => False } (blank N.length 0 ns)) : ts { nx := fun _ H' => Q .non H', rt := Q } (L2.start N vs) H := by
  obtain ⟨a, ns, rfl, hS, h⟩ := h
  have e : blank N.length 0 ns = dstart N [.scr ns] := by
    unfold blank dstart
    cases N with
    | nil => cases hN
    | cons x xs => simp [List.replicate_succ]
  have rp : Rep K none [] H (L2.start N [.ref a]) (blank N.length 0 ns) := by
    rw [e]
    exact rep_start ok0 ⟨_, _, rfl, ⟨a, rfl, by rw [hid0]; exact hS⟩, rfl⟩
  refine hs _ _ H _ _ rp (hd ns) ⟨fun _ _ _ _ _ q => q.elim, fun v d H2 _ r q => ?_, fun _ _ _ q => q.elim, fun _ _ _ _ _ q => q.elim, fun _ _ _ _ _ q => q.elim⟩
  rw [q] at r
  rw [show v = .bl true from r]
  exact h _
end DL
/-! == of data; doors opened with right things. -/
namespace DL
open PySem PySem.Spec PyProof.Rows L2 PB
/-- may be compared, at most n deep -/
def D.sh (n : Nat) (d : D) : Prop := d.plain = true ∧ d.py.canLay0 = true ∧ d.py.depth ≤ n
theorem D.sh.shp {n : Nat} {d : D} (h : d.sh n) (hn : n ≤ 64 := by decide) : d.shp = true := by
  unfold D.shp SeqAt.shaped
  rw [h.1, h.2.1, decide_eq_true (Nat.le_trans h.2.2 hn)]; rfl
theorem sh_all {n : Nat} : ∀ {ds : List D}, (∀ d ∈ ds, D.sh n d) → plains ds = true ∧ PyData.canLayAll0 (pys ds) = true ∧ PyData.depthAll (pys ds) ≤ n
  | [], _ => ⟨rfl, by simp [pys, PyData.canLayAll0], by simp [pys, PyData.depthAll]⟩
  | d :: ds, h => by
    have h1 := h d List.mem_cons_self
    have h2 := sh_all (ds := ds) fun e he => h e (List.mem_cons_of_mem _ he)
    refine ⟨by show (d.plain && plains ds) = true; rw [h1.1, h2.1]; rfl, ?_, ?_⟩
    · simp only [pys, PyData.canLayAll0, h1.2.1, h2.2.1, Bool.and_self]
    · simp only [pys, PyData.depthAll]
      exact Nat.max_le.mpr ⟨h1.2.2, h2.2.2⟩
theorem sh_lst {n : Nat} {ds : List D} (h : ∀ d ∈ ds, D.sh n d) : D.sh (n + 1) (.lst ds) := by
  have h2 := sh_all h
  refine ⟨h2.1, ?_, ?_⟩
  · simp only [D.py, PyData.canLay0]; exact h2.2.1
  · simp only [D.py, PyData.depth]; exact Nat.succ_le_succ h2.2.2
theorem sh_tup {n : Nat} {ds : List D} (h : ∀ d ∈ ds, D.sh n d) : D.sh (n + 1) (.tup ds) := by
  have h2 := sh_all h
  refine ⟨h2.1, ?_, ?_⟩
  · simp only [D.py, PyData.canLay0]; exact h2.2.1
  · simp only [D.py, PyData.depth]; exact Nat.succ_le_succ h2.2.2
theorem sh_int (i : Int) (n : Nat) : D.sh n (.int i) := ⟨rfl, rfl, by simp [D.py, PyData.depth]⟩
theorem sh_bl (i : Bool) (n : Nat) : D.sh n (.bl i) := ⟨rfl, rfl, by simp [D.py, PyData.depth]⟩
theorem sh_non (n : Nat) : D.sh n .non := ⟨rfl, rfl, by simp [D.py, PyData.depth]⟩
theorem sh_wd (w : Bool) (n : Nat) : D.sh n (wd w) := by
  refine ⟨by cases w <;> rfl, by cases w <;> decide +kernel, ?_⟩
  cases w <;> simp [wd, D.py, PyData.depth]
theorem sh_fr (x : Rat) (n : Nat) : D.sh (n + 1) (fr x) := sh_tup fun d hd => by
  simp at hd
  rcases hd with rfl | rfl <;> exact sh_int _ _
theorem sh_rw (r : List Bool) (n : Nat) : D.sh (n + 1) (rw_ r) := sh_tup fun d hd => by
  obtain ⟨b, _, rfl⟩ := List.mem_map.mp hd
  exact sh_wd _ _
theorem rw_shp (r : List Bool) : (rw_ r).shp = true := (sh_rw r 0).shp
theorem frs_shp (xs : List Rat) : (D.lst (xs.map fr)).shp = true := (sh_lst (n := 1) fun d hd => by
  obtain ⟨x, _, rfl⟩ := List.mem_map.mp hd
  exact sh_fr x 0).shp
/-! equal -/
theorem eqD_tup (a b : List D) : eqD (.tup a) (.tup b) = PyData.eqvAll (pys a) (pys b) := by
  unfold eqD; simp only [D.py, PyData.eqv]
theorem eqD_lst (a b : List D) : eqD (.lst a) (.lst b) = PyData.eqvAll (pys a) (pys b) := by
  unfold eqD; simp only [D.py, PyData.eqv]
theorem eqA_cons (a b : D) (as bs : List D) : PyData.eqvAll (pys (a :: as)) (pys (b :: bs)) = (eqD a b && PyData.eqvAll (pys as) (pys bs)) := by
  unfold eqD; simp only [pys, PyData.eqvAll]
theorem eqA_nil : PyData.eqvAll (pys []) (pys []) = true := by simp only [pys, PyData.eqvAll]
theorem eqA_nc (b : D) (bs : List D) : PyData.eqvAll (pys []) (pys (b :: bs)) = false := by simp only [pys, PyData.eqvAll]
theorem eqA_cn (b : D) (bs : List D) : PyData.eqvAll (pys (b :: bs)) (pys []) = false := by simp only [pys, PyData.eqvAll]
theorem eqD_fr (x y : Rat) : eqD (fr x) (fr y) = decide (x = y) := by
  unfold fr
  rw [eqD_tup, eqA_cons, eqA_cons, eqA_nil, eqD_int, eqD_int]
  by_cases c : x = y
  · subst c; simp
  · rw [decide_eq_false c]
    by_cases c1 : x.num = y.num
    · have : ¬ ((x.den : Int) = y.den) := fun e => c (Rat.ext c1 (by omega))
      simp [this]
    · simp [c1]
theorem eqD_wd (a b : Bool) : eqD (wd a) (wd b) = decide (a = b) := by
  unfold eqD
  cases a <;> cases b <;> decide +kernel
/-- lists of like things: equal if all are -/
theorem eqA_map {α : Type} [DecidableEq α] {f : α → D} (h : ∀ x y, eqD (f x) (f y) = decide (x = y)) : ∀ (xs ys : List α), PyData.eqvAll (pys (xs.map f)) (pys (ys.map f)) = decide (xs = ys)
  | [], [] => by rw [List.map_nil, eqA_nil]; rfl
  | [], y :: ys => by rw [List.map_nil, List.map_cons, eqA_nc]; rfl
  | x :: xs, [] => by rw [List.map_nil, List.map_cons, eqA_cn]; rfl
  | x :: xs, y :: ys => by
    rw [List.map_cons, List.map_cons, eqA_cons, h, eqA_map h xs ys]
    by_cases c1 : x = y <;> by_cases c2 : xs = ys <;> simp [c1, c2]
theorem eqD_rw (r s : List Bool) : eqD (rw_ r) (rw_ s) = decide (r = s) := by
  unfold rw_
  rw [eqD_tup, eqA_map eqD_wd]
theorem eqD_frs (xs ys : List Rat) : eqD (.lst (xs.map fr)) (.lst (ys.map fr)) = decide (xs = ys) := by
  rw [eqD_lst, eqA_map eqD_fr]
section
variable {k : D → Prop}
theorem fr_ne {x y : Rat} (e : x = y) (h : k (.bl false)) : dNe (fr x) (fr y) k := ne_of (fr_shp x) (fr_shp y) ((eqD_fr x y).trans (decide_eq_true e)) h
theorem fr_neF {x y : Rat} (e : x ≠ y) (h : k (.bl true)) : dNe (fr x) (fr y) k := ne_of (fr_shp x) (fr_shp y) ((eqD_fr x y).trans (decide_eq_false e)) h
theorem fr_neB {x y : Rat} (h : k (.bl (!decide (x = y)))) : dNe (fr x) (fr y) k := ne_of (fr_shp x) (fr_shp y) (eqD_fr x y) h
theorem fr_eq {x y : Rat} (e : x = y) (h : k (.bl true)) : dEq (fr x) (fr y) k := eq_of (fr_shp x) (fr_shp y) ((eqD_fr x y).trans (decide_eq_true e)) h
theorem fr_eqB {x y : Rat} (h : k (.bl (decide (x = y)))) : dEq (fr x) (fr y) k := eq_of (fr_shp x) (fr_shp y) (eqD_fr x y) h
theorem rw_ne {r s : List Bool} (e : r = s) (h : k (.bl false)) : dNe (rw_ r) (rw_ s) k := ne_of (rw_shp r) (rw_shp s) ((eqD_rw r s).trans (decide_eq_true e)) h
theorem rw_neF {r s : List Bool} (e : r ≠ s) (h : k (.bl true)) : dNe (rw_ r) (rw_ s) k := ne_of (rw_shp r) (rw_shp s) ((eqD_rw r s).trans (decide_eq_false e)) h
theorem rw_neB {r s : List Bool} (h : k (.bl (!decide (r = s)))) : dNe (rw_ r) (rw_ s) k := ne_of (rw_shp r) (rw_shp s) (eqD_rw r s) h
theorem rw_eqB {r s : List Bool} (h : k (.bl (decide (r = s)))) : dEq (rw_ r) (rw_ s) k := eq_of (rw_shp r) (rw_shp s) (eqD_rw r s) h
theorem frs_ne {xs ys : List Rat} (e : xs = ys) (h : k (.bl false)) : dNe (.lst (xs.map fr)) (.lst (ys.map fr)) k := ne_of (frs_shp xs) (frs_shp ys) ((eqD_frs xs ys).trans (decide_eq_true e)) h
end
/-! ### doors -/
theorem wd_inj {a b : Bool} (h : wd a = wd b) : a = b := by
  have : eqD (wd a) (wd a) = eqD (wd a) (wd b) := by rw [← h]
  rw [eqD_wd, eqD_wd] at this
  simpa using this
theorem rw_inj {r s : List Bool} (h : rw_ r = rw_ s) : r = s := by
  have : eqD (rw_ r) (rw_ r) = eqD (rw_ r) (rw_ s) := by rw [← h]
  rw [eqD_rw, eqD_rw] at this
  simpa using this
theorem pts_inj {p q p' q' : Rat} (h : pts p q = pts p' q') : p = p' ∧ q = q' := by
  injection h with h
  injection h with h1 h2
  injection h2 with h2
  exact ⟨fr_inj h1, fr_inj h2⟩
theorem short_rw {r : List Bool} (h : r.length ≤ 40) : short (rw_ r) := fun es e => by
  injection e with e
  rw [← e, List.length_map]; omega
theorem behind_ok {er : Er} {p q x : Rat} {r : List Bool} {k : D → Prop} {kx : Addr → Prop} (hpq : Parts p q) (hx : Share x) (hr : r.length ≤ 40) (h : k (fr (pours p q x r))) : sp_behind er [pts p q, fr x, rw_ r] k kx := by
  unfold sp_behind
  exact ⟨_, _, _, rfl, ⟨pts_plain p q, fun _ => ⟨fr_plain x, fun _ => ⟨rw_plain r, short_rw hr⟩⟩⟩, fun n => absurd ⟨p, q, rfl, hpq⟩ n, fun _ n => absurd ⟨x, rfl, hx⟩ n, fun _ _ n => absurd ⟨r, rfl, hr⟩ n,
    fun p' q' x' r' e1 _ e2 _ e3 _ => by
      obtain ⟨rfl, rfl⟩ := pts_inj e1
      obtain rfl := fr_inj e2
      obtain rfl := rw_inj e3
      exact h⟩
theorem all_behind_ok {er : Er} {p q x : Rat} {r : List Bool} {k : D → Prop} {kn : List D → Prop} {kx : Addr → Prop} (hpq : Parts p q) (hx : Share x) (hr : r.length ≤ 40) (h : kn ((alls p q x r).map fr)) : sp_all_behind er [pts p q, fr x, rw_ r] k kn kx := by
  unfold sp_all_behind
  exact ⟨_, _, _, rfl, ⟨pts_plain p q, fun _ => ⟨fr_plain x, fun _ => ⟨rw_plain r, short_rw hr⟩⟩⟩, fun n => absurd ⟨p, q, rfl, hpq⟩ n, fun _ n => absurd ⟨x, rfl, hx⟩ n, fun _ _ n => absurd ⟨r, rfl, hr⟩ n,
    fun p' q' x' r' e1 _ e2 _ e3 _ => by
      obtain ⟨rfl, rfl⟩ := pts_inj e1
      obtain rfl := fr_inj e2
      obtain rfl := rw_inj e3
      exact h⟩
theorem ix_of {ds : List D} {i : Int} {d : D} {k : D → Prop} (h : atI ds i = some d) (q : k d) : dIx (.lst ds) (.int i) k := by
  show (match atI ds i with | some d => k d | none => False)
  rw [h]; exact q
theorem ixT_of {ds : List D} {i : Int} {d : D} {k : D → Prop} (h : atI ds i = some d) (q : k d) : dIx (.tup ds) (.int i) k := by
  show (match atI ds i with | some d => k d | none => False)
  rw [h]; exact q
/-! slices -/
theorem cut_take (xs : List D) (n : Nat) : cutD xs none (some (n : Int)) = xs.take n := by
  unfold cutD
  rw [HT.sIx_none, HT.sIx_nat]
  simp only [List.drop_zero, Nat.sub_zero]
  by_cases c : n ≤ xs.length
  · rw [Nat.min_eq_left c]
  · rw [Nat.min_eq_right (by omega), List.take_length, List.take_of_length_le (by omega)]
theorem cut_drop (xs : List D) (n : Nat) : cutD xs (some (n : Int)) none = xs.drop n := by
  unfold cutD
  rw [HT.sIx_none, HT.sIx_nat]
  by_cases c : n ≤ xs.length
  · rw [Nat.min_eq_left c, List.take_of_length_le (by rw [List.length_drop]; exact Nat.le_refl _)]
  · rw [Nat.min_eq_right (by omega), List.drop_of_length_le (Nat.le_refl _), List.drop_of_length_le (by omega)]
    simp
theorem cut_last (xs : List D) (y : D) : cutD (xs ++ [y]) none (some (-1)) = xs := by
  unfold cutD
  have e : HT.sIx (xs ++ [y]).length (xs ++ [y]).length (some (-1)) = xs.length := by
    show (if (-1 : Int) < 0 then (-1 + ((xs ++ [y]).length : Int)).toNat else min (-1 : Int).toNat (xs ++ [y]).length) = _
    rw [if_pos (by decide), List.length_append]
    show (-1 + ((xs.length + 1 : Nat) : Int)).toNat = _
    omega
  rw [e, HT.sIx_none]
  simp
theorem share_zero : Share 0 := ⟨Rat.le_refl, by decide, by decide⟩
theorem share_one : Share 1 := ⟨by decide, Rat.le_refl, by decide⟩
end DL
namespace DL
open PySem PySem.Spec PyProof.Rows L2 PB
/-! ### the law's own reading of parts, shares, rows -/
abbrev N_law_from : List Str := ["thing", "least", "top"]
def t_law_from : DS :=
  (dRet (dAndV (dIsi "int" (dVar 0)) (dAndV (dNotV (dIsi "bool" (dVar 0))) (dAndV (dLe (dVar 1) (dVar 0)) (dLe (dVar 0) (dVar 2))))))

abbrev sp_law_from := sp_is_within
abbrev len_law_from := len_is_within
theorem pure_law_from (ds : List D) (k : D → Prop) (kx : Addr → Prop) (h : sp_law_from ds k kx) : t_law_from { nx := fun _ => k .non, rt := k, ex := kx } (dstart N_law_from ds) := by
  obtain ⟨d, lo, hi, rfl, ok, h⟩ := h
  refine dIsi_of (isi_int ok) ?_
  show if d.isInt = true then _ else _
  refine iteB (fun c => ?_) (fun c => ?_)
  · refine dIsi_of (isi_bool ok) ?_
    show if (!d.isBl) = true then _ else _
    cases d <;> first | (simp [D.isInt] at c; done) | skip
    · exact iteF h
    · rename_i i
      refine iteT ?_
      show if decide (lo ≤ i) = true then k (.bl (decide (i ≤ hi))) else k (.bl false)
      have h' : k (.bl (decide (lo ≤ i) && decide (i ≤ hi))) := h
      refine iteB (fun c => ?_) (fun c => ?_)
      · rw [c] at h'; exact h'
      · rw [c] at h'; exact h'
  · cases d <;> first | (simp [D.isInt] at c; done) | exact h
abbrev N_law_is_share : List Str := ["thing"]
def t_law_is_share : DS :=
  (dSeq (dIfS (dOr (dNot (dB (dIsi "tuple" (dVar 0)))) (dOr (dB (dOp dNe (dC1 cLen (dVar 0)) (dC (.int 2)))) (dNot (dB (dCall sp_law_from (dCons (dOp dIx (dVar 0) (dC (.int 1))) (dCons (dC (.int 1)) (dCons (dSub (dPow (dC (.int 10)) (dC (.int 20))) (dC (.int 1))) dNil)))))))) (dRet (dC (.bl false))) dNext)
    (dRet (dAndV (dCall sp_law_from (dCons (dOp dIx (dVar 0) (dC (.int 0))) (dCons (dC (.int 0)) (dCons (dOp dIx (dVar 0) (dC (.int 1))) dNil)))) (dOp dEq (dCall sp_law_common (dCons (dOp dIx (dVar 0) (dC (.int 0))) (dCons (dOp dIx (dVar 0) (dC (.int 1))) dNil))) (dC (.int 1))))))

abbrev sp_law_is_share := sp_is_share
abbrev len_law_is_share := len_is_share
theorem pure_law_is_share (ds : List D) (k : D → Prop) (kx : Addr → Prop) (h : sp_law_is_share ds k kx) : t_law_is_share { nx := fun _ => k .non, rt := k, ex := kx } (dstart N_law_is_share ds) := by
  obtain ⟨d, rfl, pl, h⟩ := h
  refine dIsi_of (isi_tuple (plain_ok pl)) ?_
  cases d with
  | tup ds =>
    have hne : ds.length ≠ 2 → k (.bl false) := fun hl => h false (not_share fun x e => by
      injection e with e
      rw [e] at hl
      exact hl rfl)
    refine iteF ?_
    by_cases hl : ds.length = 2
    · refine ne_intT (show (ds.length : Int) = 2 by omega) (iteF ?_)
      match ds, hl, pl, h with
      | [a, b], _, pl, h =>
        have pa := plain_tup pl a (by simp)
        have pb := plain_tup pl b (by simp)
        refine ⟨⟨by decide, by decide, by decide⟩, b, 1, 100000000000000000000 - 1, rfl, plain_ok pb, ?_⟩
        show if (!within b 1 (100000000000000000000 - 1)) = true then _ else _
        cases hw : within b 1 (100000000000000000000 - 1) with
        | false =>
          refine iteT (h false ⟨(fun q => nomatch q), fun ⟨x, e, s1, s2, s3⟩ => ?_⟩)
          unfold fr at e
          injection e with e
          injection e with e1 e2
          injection e2 with e2
          rw [e2] at hw
          have := x.den_pos
          rw [within_of (by omega) (by have : x.den < 100000000000000000000 := s3; omega)] at hw
          cases hw
        | true =>
          obtain ⟨n, rfl, h1, h2⟩ := within_int hw
          refine iteF ?_
          refine ⟨a, 0, n, rfl, plain_ok pa, ?_⟩
          show if within a 0 n = true then _ else _
          cases hv : within a 0 n with
          | false =>
            refine iteF (h false ⟨(fun q => nomatch q), fun ⟨x, e, s1, s2, s3⟩ => ?_⟩)
            unfold fr at e
            injection e with e
            injection e with e1 e2
            injection e2 with e2
            injection e2 with e2
            rw [e1] at hv
            have := share_num s1 s2
            rw [within_of (by omega) (by omega)] at hv
            cases hv
          | true =>
            obtain ⟨t, rfl, h3, h4⟩ := within_int hv
            refine iteT ⟨t, n, rfl, h3, by omega, eq_int ?_⟩
            refine h _ ⟨fun q => ?_, fun ⟨x, e, s1, s2, s3⟩ => ?_⟩
            · have hg : Int.gcd t n = 1 := by have := of_decide_eq_true q; omega
              obtain ⟨x, e, ex, ed⟩ := fr_of (by omega) hg
              have := share_of_num (x := x) (by omega) (by omega)
              exact ⟨x, e, this.1, this.2, by show x.den < 100000000000000000000; omega⟩
            · unfold fr at e
              injection e with e
              injection e with e1 e2
              injection e1 with e1
              injection e2 with e2
              injection e2 with e2
              rw [e1, e2, fr_gcd]; rfl
    · exact ne_intF (show ¬ (ds.length : Int) = 2 by omega) (iteT (hne hl))
  | _ => exact iteT (iteT (h false (not_share fun x e => by unfold fr at e; cases e)))

theorem sum_ge (x y : Rat) : ((x.den : Int) * (y.den : Int) ≤ x.num * (y.den : Int) + y.num * (x.den : Int)) ↔ 1 ≤ x + y := by
  have e1 := mul_den x
  have e2 := mul_den y
  have h1 : (0 : Rat) < (x.den : Rat) := by
    have := x.den_pos
    exact Rat.natCast_pos.mpr this
  have h2 : (0 : Rat) < (y.den : Rat) := by
    have := y.den_pos
    exact Rat.natCast_pos.mpr this
  have h12 := Rat.mul_pos h1 h2
  rw [← Rat.intCast_le_intCast, Rat.intCast_mul, Rat.intCast_add, Rat.intCast_mul, Rat.intCast_mul]
  have t1 : (((x.den : Nat) : Int) : Rat) = (x.den : Rat) := rfl
  have t2 : (((y.den : Nat) : Int) : Rat) = (y.den : Rat) := rfl
  rw [t1, t2, ← e1, ← e2]
  generalize (x.den : Rat) = a at *
  generalize (y.den : Rat) = b at *
  have e : x * a * b + y * b * a = (x + y) * (a * b) := by grind
  rw [e]
  constructor
  · intro h
    refine Rat.not_lt.mp fun c => ?_
    have : (x + y) * (a * b) < 1 * (a * b) := Rat.mul_lt_mul_of_pos_right c h12
    grind
  · intro h
    have : 1 * (a * b) ≤ (x + y) * (a * b) := Rat.mul_le_mul_of_nonneg_right h (Rat.le_of_lt h12)
    grind
abbrev N_law_are_parts : List Str := ["thing", "top", "bottom", "other", "under", "one"]
def t_law_are_parts : DS :=
  (dSeq (dIfS (dOr (dNot (dB (dIsi "tuple" (dVar 0)))) (dOr (dB (dOp dNe (dC1 cLen (dVar 0)) (dC (.int 2)))) (dNot (dB (dC1 cAll (dLc (dItT (dVar 0)) (gN 5) dYes (dCall sp_law_is_share (dCons (dVar 5) dNil)) [5])))))) (dRet (dC (.bl false))) dNext)
    (dSeq (dIfS (dNot (dB (dC1 cAll (dLc (dItT (dVar 0)) (gN 5) dYes (dChain3 rLt rLt rLe (dC (.int 0)) (dOp dIx (dVar 5) (dC (.int 0))) (dOp dIx (dVar 5) (dC (.int 1))) (dC (.int 12))) [5])))) (dRet (dC (.bl false))) dNext)
    (dSeq (dAsg (dVar 0) (gTp 2 (gCn (gTp 2 (gCn (gN 1) (gCn (gN 2) gNl))) (gCn (gTp 2 (gCn (gN 3) (gCn (gN 4) gNl))) gNl))))
    (dRet (dGe (dAdd (dMul (dVar 1) (dVar 4)) (dMul (dVar 3) (dVar 2))) (dMul (dVar 2) (dVar 4)))))))

abbrev sp_law_are_parts := sp_are_parts
abbrev len_law_are_parts := len_are_parts
theorem pure_law_are_parts (ds : List D) (k : D → Prop) (kx : Addr → Prop) (h : sp_law_are_parts ds k kx) : t_law_are_parts { nx := fun _ => k .non, rt := k, ex := kx } (dstart N_law_are_parts ds) := by
  obtain ⟨d, rfl, pl, h⟩ := h
  refine dIsi_of (isi_tuple (plain_ok pl)) ?_
  cases d with
  | tup ds =>
    refine iteF ?_
    by_cases hl : ds.length = 2
    · refine ne_intT (show (ds.length : Int) = 2 by omega) (iteF ?_)
      match ds, hl, pl, h with
      | [a, b], _, pl, h =>
        refine all_lc (P := IsShare) (by simp) (fun d hd k' hk => ⟨d, rfl, plain_tup pl d hd, hk⟩) (fun c hc => ?_)
        show if (!c) = true then _ else _
        cases c with
        | false =>
          refine iteT (h false (noParts fun p q hpq e => ?_))
          injection e with e
          injection e with e1 e2
          injection e2 with e2
          have := hc.mpr (fun d hd => by
            simp at hd
            rcases hd with rfl | rfl
            · rw [e1]; exact ⟨p, rfl, part_share hpq.1⟩
            · rw [e2]; exact ⟨q, rfl, part_share hpq.2.1⟩)
          cases this
        | true =>
          refine iteF ?_
          have hs := hc.mp rfl
          obtain ⟨x, rfl, hx⟩ := hs a (by simp)
          obtain ⟨y, rfl, hy⟩ := hs b (by simp)
          have hx1 := share_num hx.1 hx.2.1
          have hy1 := share_num hy.1 hy.2.1
          refine all_lc (P := fun d => ∀ z, d = fr z → Part z) (by simp) (fun d hd k' hk => ?_) (fun c hc => ?_)
          · have key : ∀ z : Rat, (∀ b : Bool, (b = true ↔ Part z) → k' (.bl b)) → dChain3 rLt rLt rLe (dC (.int 0)) (dOp dIx (dVar 5) (dC (.int 0))) (dOp dIx (dVar 5) (dC (.int 1))) (dC (.int 12)) [some (.tup [fr x, fr y]), none, none, none, none, some (fr z)] k' (fun _ => False) := fun z hz => by
              show if decide ((0 : Int) < z.num) = true then _ else _
              rw [show Part z ↔ _ from part_iff] at hz
              refine iteB (fun c1 => ?_) (fun c1 => ?_)
              · show if decide (z.num < (z.den : Int)) = true then _ else _
                have c1 := of_decide_eq_true c1
                refine iteB (fun c2 => ?_) (fun c2 => ?_)
                · have c2 := of_decide_eq_true c2
                  refine hz _ ⟨fun c3 => ⟨c1, c2, of_decide_eq_true c3⟩, fun c3 => decide_eq_true c3.2.2⟩
                · have c2 := of_decide_eq_false c2
                  exact hz false ⟨(fun q => nomatch q), fun q => absurd q.2.1 c2⟩
              · have c1 := of_decide_eq_false c1
                exact hz false ⟨(fun q => nomatch q), fun q => absurd q.1 c1⟩
            have hd' : d = fr x ∨ d = fr y := by simpa using hd
            rcases hd' with rfl | rfl
            · exact key x fun b hb => hk b (hb.trans ⟨fun q z e => fr_inj e ▸ q, fun q => q x rfl⟩)
            · exact key y fun b hb => hk b (hb.trans ⟨fun q z e => fr_inj e ▸ q, fun q => q y rfl⟩)
          · show if (!c) = true then _ else _
            cases c with
            | false =>
              refine iteT (h false (noParts fun p q hpq e => ?_))
              injection e with e
              injection e with e1 e2
              injection e2 with e2
              have e1 := fr_inj e1
              have e2 := fr_inj e2
              subst e1 e2
              have := hc.mpr (fun d hd => by
                simp at hd
                rcases hd with rfl | rfl
                · intro z e; exact fr_inj e ▸ hpq.1
                · intro z e; exact fr_inj e ▸ hpq.2.1)
              cases this
            | true =>
              refine iteF ?_
              have hp := hc.mp rfl
              have px := hp (fr x) (by simp) x rfl
              have py := hp (fr y) (by simp) y rfl
              have fx := Fit.of (part_sz px)
              have fy := Fit.of (part_sz py)
              refine ⟨rfl, rfl, rfl, ?_⟩
              refine ⟨fx.nd fy, fy.nd fx, fx.dd fy, ?_⟩
              show k (.bl (decide ((x.den : Int) * (y.den : Int) ≤ x.num * (y.den : Int) + y.num * (x.den : Int))))
              have key : ((x.den : Int) * (y.den : Int) ≤ x.num * (y.den : Int) + y.num * (x.den : Int)) ↔ 1 ≤ x + y := sum_ge x y
              refine h _ ⟨fun c => ⟨x, y, rfl, px, py, key.mp (of_decide_eq_true c)⟩, fun ⟨p, q, e, hpq⟩ => ?_⟩
              injection e with e
              injection e with e1 e2
              injection e2 with e2
              have e1 := fr_inj e1
              have e2 := fr_inj e2
              subst e1 e2
              exact decide_eq_true (key.mpr hpq.2.2)
    · refine ne_intF (show ¬ (ds.length : Int) = 2 by omega) (iteT (h false (noParts fun p q _ e => hl ?_)))
      injection e with e
      rw [e]; rfl
  | _ => exact iteT (iteT (h false (noParts fun p q _ e => by unfold pts at e; cases e)))

abbrev N_law_is_row : List Str := ["thing", "pour"]
def t_law_is_row : DS :=
  (dSeq (dIfS (dOr (dNot (dB (dIsi "tuple" (dVar 0)))) (dB (dGt (dC1 cLen (dVar 0)) (dC (.int 40))))) (dRet (dC (.bl false))) dNext)
    (dRet (dC1 cAll (dLc (dItT (dVar 0)) (gN 1) dYes (dAndV (dIsi "str" (dVar 1)) (dOp (dIn false) (dVar 1) (dLst (dCons (dC (.str "right")) (dCons (dC (.str "left")) dNil))))) [1]))))

abbrev sp_law_is_row := sp_is_row
abbrev len_law_is_row := len_is_row
theorem pure_law_is_row (ds : List D) (k : D → Prop) (kx : Addr → Prop) (h : sp_law_is_row ds k kx) : t_law_is_row { nx := fun _ => k .non, rt := k, ex := kx } (dstart N_law_is_row ds) := by
  obtain ⟨d, rfl, pl, hl, h⟩ := h
  refine dIsi_of (isi_tuple (plain_ok pl)) ?_
  cases d with
  | tup es =>
    refine iteF ?_
    show if decide ((40 : Int) < (es.length : Int)) = true then _ else _
    refine iteB (fun c => ?_) (fun c => ?_)
    · have c := of_decide_eq_true c
      refine h false ⟨(fun q => nomatch q), fun ⟨r, e, hr⟩ => ?_⟩
      injection e with e
      rw [e, List.length_map] at c
      omega
    · have c := of_decide_eq_false c
      refine all_lc (P := IsPour) (hl es rfl) (fun d hd k' hk => ?_) (fun b hb => h b (hb.trans ⟨fun q => ?_, fun ⟨r, e, hr⟩ d hd => ?_⟩))
      · have pd := plain_tup pl d hd
        refine dIsi_of (isi_str (plain_ok pd)) ?_
        cases d with
        | str x => exact ⟨rfl, rfl, hk _ (in_pour x)⟩
        | _ => exact hk false ⟨(fun q => nomatch q), fun ⟨b, e⟩ => by cases b <;> cases e⟩
      · obtain ⟨r, e⟩ := rows_of q
        refine ⟨r, by rw [e]; rfl, ?_⟩
        rw [e, List.length_map] at c
        omega
      · injection e with e
        rw [e] at hd
        obtain ⟨b, _, e2⟩ := List.mem_map.mp hd
        exact ⟨b, e2.symm⟩
  | _ => exact iteT (h false ⟨(fun q => nomatch q), fun ⟨r, e, _⟩ => by unfold rw_ at e; cases e⟩)
/-! ### things: at most n deep, at most L long -/
def Gd (L : Nat) : Nat → D → Prop
  | 0, d => d.flat = true
  | n + 1, d => match d with
    | .lst ds => ds.length ≤ L ∧ ∀ e ∈ ds, Gd L n e
    | .tup ds => ds.length ≤ L ∧ ∀ e ∈ ds, Gd L n e
    | d => d.flat = true
theorem Gd.flat {L : Nat} {d : D} (h : d.flat = true) : ∀ n, Gd L n d
  | 0 => h
  | n + 1 => by cases d <;> first | exact h | (simp [D.flat] at h; done)
theorem Gd.mono {L L' : Nat} (hL : L ≤ L') : ∀ {n m : Nat} {d : D}, n ≤ m → Gd L n d → Gd L' m d
  | 0, m, d, _, h => Gd.flat h m
  | n + 1, 0, d, hm, _ => absurd hm (by omega)
  | n + 1, m + 1, d, hm, h => by
    cases d with
    | lst ds => exact ⟨Nat.le_trans h.1 hL, fun e he => Gd.mono hL (by omega) (h.2 e he)⟩
    | tup ds => exact ⟨Nat.le_trans h.1 hL, fun e he => Gd.mono hL (by omega) (h.2 e he)⟩
    | _ => exact h
theorem flat_plain {d : D} (h : d.flat = true) : d.plain = true := by cases d <;> first | rfl | (simp [D.flat] at h; done)
theorem Gd.plain {L : Nat} : ∀ {n : Nat} {d : D}, Gd L n d → d.plain = true
  | 0, d, h => flat_plain h
  | n + 1, d, h => by
    cases d with
    | lst ds => exact plains_of fun e he => Gd.plain (h.2 e he)
    | tup ds => exact plains_of fun e he => Gd.plain (h.2 e he)
    | _ => exact flat_plain h
theorem Gd.short {L n : Nat} {d : D} (hL : L ≤ 100000) (h : Gd L n d) : short d := fun es e => by
  subst e
  cases n with
  | zero => simp [Gd, D.flat] at h
  | succ n => exact Nat.le_trans h.1 hL
theorem gd_int (L n : Nat) (i : Int) : Gd L n (.int i) := Gd.flat rfl n
theorem gd_fr (L n : Nat) (x : Rat) (hL : 2 ≤ L) : Gd L (n + 1) (fr x) := ⟨hL, fun e he => by
  simp at he
  rcases he with rfl | rfl <;> exact gd_int _ _ _⟩
theorem gd_rw (L n : Nat) (r : List Bool) (h : r.length ≤ L) : Gd L (n + 1) (rw_ r) := ⟨by rw [List.length_map]; exact h, fun e he => by
  obtain ⟨b, _, rfl⟩ := List.mem_map.mp he
  cases b <;> exact Gd.flat rfl n⟩
/-! ### odd things -/
abbrev N_law_odd : List Str := ["picks", "odd"]
def t_law_odd : DS :=
  (dSeq (dSet 1 (dLst (dCons (dC .non) (dCons (dC (.bl true)) (dCons (dC (.bl false)) (dCons (dNeg (dC (.int 1))) (dCons (dC (.int 0)) (dCons (dC (.int 1)) (dCons (dC (.int 2)) (dCons (dC (.int 40)) (dCons (dPow (dC (.int 10)) (dC (.int 20))) dNil)))))))))))
    (dSeq (dSet 1 (dOp dCat (dVar 1) (dLst (dCons (dC (.str "")) (dCons (dC (.str "right")) (dCons (dC (.str "left")) (dCons (dC (.str "up")) (dCons (dTup (dCons (dC (.int 1)) (dCons (dC (.int 2)) dNil))) (dCons (dTup (dCons (dC (.int 0)) (dCons (dC (.int 1)) dNil))) (dCons (dTup (dCons (dC (.int 1)) (dCons (dC (.int 1)) dNil))) (dCons (dTup (dCons (dC (.int 2)) (dCons (dC (.int 1)) dNil))) dNil)))))))))))
    (dSeq (dSet 1 (dOp dCat (dVar 1) (dLst (dCons (dTup dNil) (dCons (dLst dNil) (dCons (dTup (dCons (dC (.int 2)) (dCons (dC (.int 4)) dNil))) (dCons (dTup (dCons (dNeg (dC (.int 1))) (dCons (dC (.int 2)) dNil))) (dCons (dTup (dCons (dC (.int 1)) (dCons (dC (.int 0)) dNil))) (dCons (dLst (dCons (dC (.int 1)) (dCons (dC (.int 2)) dNil))) dNil)))))))))
    (dSeq (dSet 1 (dOp dCat (dVar 1) (dLst (dCons (dTup (dCons (dTup (dCons (dC (.int 1)) (dCons (dC (.int 2)) dNil))) (dCons (dTup (dCons (dC (.int 1)) (dCons (dC (.int 2)) dNil))) dNil))) (dCons (dTup (dCons (dC (.str "right")) dNil)) (dCons (dLst (dCons (dC (.str "right")) dNil)) (dCons (dTup (dCons (dC (.str "Left")) dNil)) (dCons (dTup (dCons (dC .non) dNil)) dNil))))))))
    (dRet (dOp dIx (dVar 1) (dMod (dAdd (dOp dIx (dVar 0) (dC (.int 0))) (dMul (dC (.int 7)) (dOp dIx (dVar 0) (dC (.int 1))))) (dC1 cLen (dVar 1)))))))))

def sp_law_odd : DSp := fun ds k _ => ∃ (ns : List Int), ds = [.lst (ns.map D.int)] ∧ 2 ≤ ns.length ∧ (∀ x ∈ ns, 0 ≤ x ∧ x < 1000) ∧ ∀ d, Gd 10 2 d → k d
theorem len_law_odd : ∀ ds k kx, sp_law_odd ds k kx → ds.length = 1 := by
  intro _ _ _ h
  unfold sp_law_odd at h
  obtain ⟨_, rfl, _⟩ := h; rfl
def oddL : List D := [.non, .bl true, .bl false, .int (-1), .int 0, .int 1, .int 2, .int 40, .int (10 ^ 20), .str "", .str "right", .str "left", .str "up", .tup [.int 1, .int 2], .tup [.int 0, .int 1], .tup [.int 1, .int 1], .tup [.int 2, .int 1],
  .tup [], .lst [], .tup [.int 2, .int 4], .tup [.int (-1), .int 2], .tup [.int 1, .int 0], .lst [.int 1, .int 2], .tup [.tup [.int 1, .int 2], .tup [.int 1, .int 2]], .tup [.str "right"], .lst [.str "right"], .tup [.str "Left"], .tup [.non]]
theorem odd_gd : ∀ d ∈ oddL, Gd 10 2 d := by
  intro d hd
  unfold oddL at hd
  simp only [List.mem_cons, List.not_mem_nil, or_false] at hd
  rcases hd with rfl | rfl | rfl | rfl | rfl | rfl | rfl | rfl | rfl | rfl | rfl | rfl | rfl | rfl | rfl | rfl | rfl | rfl | rfl | rfl | rfl | rfl | rfl | rfl | rfl | rfl | rfl | rfl <;> simp [Gd, D.flat]
theorem map_at {ns : List Int} {i : Nat} {x : Int} (h : ns[i]? = some x) : atI (ns.map D.int) ((i : Nat) : Int) = some (.int x) := atI_nat (by rw [List.getElem?_map, h]; rfl)
theorem pure_law_odd (ds : List D) (k : D → Prop) (kx : Addr → Prop) (h : sp_law_odd ds k kx) : t_law_odd { nx := fun _ => k .non, rt := k, ex := kx } (dstart N_law_odd ds) := by
  obtain ⟨ns, rfl, hl, hr, h⟩ := h
  obtain ⟨a, ha⟩ : ∃ a, ns[0]? = some a := ⟨ns[0], List.getElem?_eq_getElem (by omega)⟩
  obtain ⟨b, hb⟩ : ∃ b, ns[1]? = some b := ⟨ns[1], List.getElem?_eq_getElem (by omega)⟩
  have ra := hr a (List.mem_of_getElem? ha)
  have rb := hr b (List.mem_of_getElem? hb)
  refine ⟨⟨by decide, by decide, by decide⟩, by decide, by decide, by decide, ?_⟩
  refine ix_of (map_at ha) ?_
  refine ix_of (map_at hb) ?_
  refine ⟨mulW (n := 10) (m := 10) (by decide) (by omega) (by decide) (by decide) (by decide), ?_⟩
  refine (show (0 : Int) < (oddL.length : Nat) ∧ dIx (.lst oddL) (.int ((a + 7 * b) % (oddL.length : Nat))) k from ⟨by decide, ?_⟩)
  have h0 := Int.emod_nonneg (a + 7 * b) (show ((oddL.length : Nat) : Int) ≠ 0 by decide)
  have h1 := Int.emod_lt_of_pos (a + 7 * b) (show (0 : Int) < (oddL.length : Nat) by decide)
  obtain ⟨j, ej⟩ : ∃ j : Nat, (a + 7 * b) % (oddL.length : Nat) = j := ⟨((a + 7 * b) % (oddL.length : Nat)).toNat, by omega⟩
  have hj : j < oddL.length := by omega
  rw [ej]
  exact ix_of (atI_nat (List.getElem?_eq_getElem hj)) (h _ (odd_gd _ (List.getElem_mem hj)))
end DL
namespace DL
open PySem PySem.Spec PyProof.Rows L2 PB
/-! ### things spoilt -/
abbrev N_law_spoilt : List Str := ["thing", "picks", "pieces", "at", "turn_by"]
def t_law_spoilt_fin : OS :=
  (oSeq (oLift (dIfS (dB (dOp dEq (dIsi "tuple" (dVar 0)) (dOp dEq (dVar 4) (dC (.int 4))))) (dRet (dVar 2)) dNext))
    (oLift (dRet (dC1 cTup (dVar 2)))))
def t_law_spoilt (spr : DSp) : OS :=
  (oSeq (oLift (dIfS (dOr (dNot (dB (dIsi2 "tuple" "list" (dVar 0)))) (dOr (dB (dOp dEq (dC1 cLen (dVar 0)) (dC (.int 0)))) (dOr (dB (dLt (dC1 cLen (dVar 1)) (dC (.int 9)))) (dB (dOp dEq (dMod (dOp dIx (dVar 1) (dC (.int 0))) (dC (.int 9))) (dC (.int 0))))))) (dRet (dCall sp_law_odd (dCons (dSl (dVar 1) (dSome (dC (.int 1))) dNo) dNil))) dNext))
    (oSeq (oNewC 2 (dVar 0))
    (oSeq (oSetB 2 3 (dMod (dOp dIx (dVar 1) (dC (.int 1))) (dC1 cLen (dVar 2))))
    (oSeq (oLift (dSet 4 (dMod (dOp dIx (dVar 1) (dC (.int 2))) (dC (.int 12)))))
    (oSeq (oIf (dB (dOp dEq (dVar 4) (dC (.int 0))))
    (oFrz 2 (oLift (dSet 2 (dOp dCat (dSl (dVar 2) dNo (dSome (dVar 3))) (dSl (dVar 2) (dSome (dAdd (dVar 3) (dC (.int 1)))) dNo)))))
    (oIf (dB (dOp dEq (dVar 4) (dC (.int 1))))
    (oFrz 2 (oLift (dSet 2 (dOp dCat (dSl (dVar 2) dNo (dSome (dAdd (dVar 3) (dC (.int 1))))) (dSl (dVar 2) (dSome (dVar 3)) dNo)))))
    (oIf (dB (dOp dEq (dVar 4) (dC (.int 2))))
    (oFrz 2 (oLift (dSet 2 (dOp dCat (dSl (dVar 2) (dSome (dVar 3)) dNo) (dSl (dVar 2) dNo (dSome (dVar 3)))))))
    (oIf (dB (dOp dEq (dVar 4) (dC (.int 3))))
    (oFrz 2 (oLift (dSet 2 (dOp dCat (dOp dCat (dSl (dVar 2) dNo (dSome (dVar 3))) (dLst (dCons (dCall sp_law_odd (dCons (dSl (dVar 1) (dSome (dC (.int 3))) dNo) dNil)) dNil))) (dSl (dVar 2) (dSome (dVar 3)) dNo)))))
    (oIf (dB (dGt (dVar 4) (dC (.int 4))))
    (oSeq (oRec 2 3 spr (dSl (dVar 1) (dSome (dC (.int 4))) dNo))
    (oFrz 2 oNext))
    (oFrz 2 oNext))))))
    t_law_spoilt_fin)))))

def spoN : Nat → DSp
  | 0 => fun _ _ _ => False
  | n + 1 => fun ds k _ => ∃ (d : D) (ns : List Int) (L m : Nat), ds = [d, .lst (ns.map D.int)] ∧ m ≤ n ∧ Gd L m d ∧ 10 ≤ L ∧ L ≤ 1000 ∧ 3 ≤ ns.length ∧ (∀ x ∈ ns, 0 ≤ x ∧ x < 1000) ∧ ∀ r, Gd (L + 1) (m + 2) r → k r
theorem spoN_len (n : Nat) (ds : List D) (k : D → Prop) (kx : Addr → Prop) (h : spoN n ds k kx) : ds.length = 2 := by
  cases n with
  | zero => exact h.elim
  | succ n => obtain ⟨d, ns, L, m, rfl, _⟩ := h; rfl
theorem eqD_bl (a b : Bool) : eqD (.bl a) (.bl b) = decide (a = b) := by
  unfold eqD
  cases a <;> cases b <;> decide +kernel
theorem cut_fromI (ns : List Int) (j : Nat) : cutD (ns.map D.int) (some (j : Int)) none = (ns.drop j).map D.int := by rw [cut_drop, List.map_drop]
theorem odd_ok {ns : List Int} {j : Nat} {k : D → Prop} {kx : Addr → Prop} (hl : j + 2 ≤ ns.length) (hr : ∀ x ∈ ns, 0 ≤ x ∧ x < 1000) (h : ∀ d, Gd 10 2 d → k d) : sp_law_odd [.lst (cutD (ns.map D.int) (some (j : Int)) none)] k kx := by
  rw [cut_fromI]
  exact ⟨ns.drop j, rfl, by rw [List.length_drop]; omega, fun x hx => hr x (List.mem_of_mem_drop hx), h⟩
theorem isi2_facts : (kitB "NoneType" "tuple" = some false ∧ kitB "NoneType" "list" = some false) ∧ (kitB "bool" "tuple" = some false ∧ kitB "bool" "list" = some false) ∧ (kitB "int" "tuple" = some false ∧ kitB "int" "list" = some false) ∧ (kitB "str" "tuple" = some false ∧ kitB "str" "list" = some false) ∧
    (kitB "list" "tuple" = some false ∧ kitB "list" "list" = some true) ∧ (kitB "tuple" "tuple" = some true ∧ kitB "tuple" "list" = some false) := by decide +kernel
theorem spoilt_rest (n N L : Nat) (hN : n ≤ N) (d : D) (es : List D) (hd : d = .tup es ∨ d = .lst es) (ns : List Int) (hes : es ≠ []) (hL0 : es.length ≤ L) (hg : ∀ e ∈ es, Gd L n e) (h10 : 10 ≤ L) (hL : L ≤ 1000) (hl : 9 ≤ ns.length) (hr : ∀ x ∈ ns, 0 ≤ x ∧ x < 1000)
    (k : D → Prop) (kx : Addr → Prop) (p : Addr) (h : ∀ r, Gd (L + 1) (n + 3) r → k r) :
    (oSeq (oSetB 2 3 (dMod (dOp dIx (dVar 1) (dC (.int 1))) (dC1 cLen (dVar 2))))
    (oSeq (oLift (dSet 4 (dMod (dOp dIx (dVar 1) (dC (.int 2))) (dC (.int 12)))))
    (oSeq (oIf (dB (dOp dEq (dVar 4) (dC (.int 0))))
    (oFrz 2 (oLift (dSet 2 (dOp dCat (dSl (dVar 2) dNo (dSome (dVar 3))) (dSl (dVar 2) (dSome (dAdd (dVar 3) (dC (.int 1)))) dNo)))))
    (oIf (dB (dOp dEq (dVar 4) (dC (.int 1))))
    (oFrz 2 (oLift (dSet 2 (dOp dCat (dSl (dVar 2) dNo (dSome (dAdd (dVar 3) (dC (.int 1))))) (dSl (dVar 2) (dSome (dVar 3)) dNo)))))
    (oIf (dB (dOp dEq (dVar 4) (dC (.int 2))))
    (oFrz 2 (oLift (dSet 2 (dOp dCat (dSl (dVar 2) (dSome (dVar 3)) dNo) (dSl (dVar 2) dNo (dSome (dVar 3)))))))
    (oIf (dB (dOp dEq (dVar 4) (dC (.int 3))))
    (oFrz 2 (oLift (dSet 2 (dOp dCat (dOp dCat (dSl (dVar 2) dNo (dSome (dVar 3))) (dLst (dCons (dCall sp_law_odd (dCons (dSl (dVar 1) (dSome (dC (.int 3))) dNo) dNil)) dNil))) (dSl (dVar 2) (dSome (dVar 3)) dNo)))))
    (oIf (dB (dGt (dVar 4) (dC (.int 4))))
    (oSeq (oRec 2 3 (spoN (N + 1)) (dSl (dVar 1) (dSome (dC (.int 4))) dNo))
    (oFrz 2 oNext))
    (oFrz 2 oNext))))))
    t_law_spoilt_fin))) { nx := fun _ _ => k .non, rt := k, rn := fun es => k (.lst es), ex := kx } [some d, some (.lst (ns.map D.int)), some (.adr p), none, none] [(p, es)] := by
  have hpos := List.length_pos_iff.mpr hes
  obtain ⟨x1, hx1⟩ : ∃ a, ns[1]? = some a := ⟨ns[1], List.getElem?_eq_getElem (by omega)⟩
  obtain ⟨x2, hx2⟩ : ∃ a, ns[2]? = some a := ⟨ns[2], List.getElem?_eq_getElem (by omega)⟩
  refine ⟨p, [], es, [], rfl, rfl, ix_of (map_at hx1) ⟨by omega, _, rfl, ?_⟩⟩
  have a0 := Int.emod_nonneg x1 (show ((es.length : Nat) : Int) ≠ 0 by omega)
  have a1 := Int.emod_lt_of_pos x1 (show (0 : Int) < (es.length : Nat) by omega)
  obtain ⟨a, ea⟩ : ∃ j : Nat, x1 % (es.length : Nat) = j := ⟨(x1 % (es.length : Nat)).toNat, by omega⟩
  rw [ea]
  have ha : a < es.length := by omega
  refine ix_of (map_at hx2) ⟨(show (0 : Int) < 12 by decide), ?_⟩
  -- behind the choice: the pieces, shown
  have fin : ∀ (fs : List D), fs.length ≤ L + 1 → (∀ e ∈ fs, Gd (L + 1) (n + 2) e) → t_law_spoilt_fin { nx := fun _ _ => k .non, rt := k, rn := fun es => k (.lst es), ex := kx } [some d, some (.lst (ns.map D.int)), some (.lst fs), some (.int (a : Nat)), some (.int (x2 % 12))] [] := fun fs h1 h2 => by
    have kl : k (.lst fs) := h _ ⟨h1, h2⟩
    have kt : k (.tup fs) := h _ ⟨h1, h2⟩
    have go : ∀ b : Bool, d.isi "tuple" = some b → t_law_spoilt_fin { nx := fun _ _ => k .non, rt := k, rn := fun es => k (.lst es), ex := kx } [some d, some (.lst (ns.map D.int)), some (.lst fs), some (.int (a : Nat)), some (.int (x2 % 12))] [] := fun b hb => by
      refine dIsi_of hb (eq_int (eq_of rfl rfl (eqD_bl b (decide (x2 % 12 = 4))) ?_))
      exact iteB (fun _ => kl) (fun _ => kt)
    rcases hd with rfl | rfl
    · exact go true (isi_tuple rfl)
    · exact go false (isi_tuple rfl)
  have ct : cutD es none (some ((a : Nat) : Int)) = es.take a := cut_take es a
  have cd : cutD es (some ((a : Nat) : Int)) none = es.drop a := cut_drop es a
  have ct1 : cutD es none (some (((a : Nat) : Int) + 1)) = es.take (a + 1) := cut_take es (a + 1)
  have cd1 : cutD es (some (((a : Nat) : Int) + 1)) none = es.drop (a + 1) := cut_drop es (a + 1)
  have gL : ∀ e ∈ es, Gd (L + 1) (n + 2) e := fun e he => (hg e he).mono (by omega) (by omega)
  have gt : ∀ i, ∀ e ∈ es.take i, Gd (L + 1) (n + 2) e := fun i e he => gL e (List.mem_of_mem_take he)
  have gd : ∀ i, ∀ e ∈ es.drop i, Gd (L + 1) (n + 2) e := fun i e he => gL e (List.mem_of_mem_drop he)
  have gcat : ∀ {as bs : List D}, (∀ e ∈ as, Gd (L + 1) (n + 2) e) → (∀ e ∈ bs, Gd (L + 1) (n + 2) e) → ∀ e ∈ as ++ bs, Gd (L + 1) (n + 2) e := fun h1 h2 e he => by
    rcases List.mem_append.mp he with z | z
    · exact h1 e z
    · exact h2 e z
  refine eq_int ?_
  refine iteB (fun _ => ?_) (fun _ => ?_)
  · refine ⟨p, [], es, [], rfl, rfl, ?_⟩
    have e : (D.lst (cutD es none (some ((a : Nat) : Int)) ++ cutD es (some (((a : Nat) : Int) + 1)) none)) = .lst (es.take a ++ es.drop (a + 1)) := by rw [ct, cd1]
    refine ⟨?_, ?_⟩
    · show (cutD es none (some ((a : Nat) : Int))).length + (cutD es (some (((a : Nat) : Int) + 1)) none).length ≤ 100000
      rw [ct, cd1, List.length_take, List.length_drop]; omega
    · rw [e]
      exact fin (es.take a ++ es.drop (a + 1)) (by rw [List.length_append, List.length_take, List.length_drop]; omega) (gcat (gt _) (gd _))
  refine eq_int ?_
  refine iteB (fun _ => ?_) (fun _ => ?_)
  · refine ⟨p, [], es, [], rfl, rfl, ?_⟩
    have e : (D.lst (cutD es none (some (((a : Nat) : Int) + 1)) ++ cutD es (some ((a : Nat) : Int)) none)) = .lst (es.take (a + 1) ++ es.drop a) := by rw [ct1, cd]
    refine ⟨?_, ?_⟩
    · show (cutD es none (some (((a : Nat) : Int) + 1))).length + (cutD es (some ((a : Nat) : Int)) none).length ≤ 100000
      rw [ct1, cd, List.length_take, List.length_drop]; omega
    · rw [e]
      exact fin (es.take (a + 1) ++ es.drop a) (by rw [List.length_append, List.length_take, List.length_drop]; omega) (gcat (gt _) (gd _))
  refine eq_int ?_
  refine iteB (fun _ => ?_) (fun _ => ?_)
  · refine ⟨p, [], es, [], rfl, rfl, ?_⟩
    have e : (D.lst (cutD es (some ((a : Nat) : Int)) none ++ cutD es none (some ((a : Nat) : Int)))) = .lst (es.drop a ++ es.take a) := by rw [ct, cd]
    refine ⟨?_, ?_⟩
    · show (cutD es (some ((a : Nat) : Int)) none).length + (cutD es none (some ((a : Nat) : Int))).length ≤ 100000
      rw [ct, cd, List.length_take, List.length_drop]; omega
    · rw [e]
      exact fin (es.drop a ++ es.take a) (by rw [List.length_append, List.length_take, List.length_drop]; omega) (gcat (gd _) (gt _))
  refine eq_int ?_
  refine iteB (fun _ => ?_) (fun _ => ?_)
  · refine ⟨p, [], es, [], rfl, rfl, ?_⟩
    refine odd_ok (kx := kx) (j := 3) (by omega) hr fun o ho => ?_
    have e : (D.lst (cutD es none (some ((a : Nat) : Int)) ++ [o] ++ cutD es (some ((a : Nat) : Int)) none)) = .lst (es.take a ++ [o] ++ es.drop a) := by rw [ct, cd]
    refine ⟨?_, ?_, ?_⟩
    · show (cutD es none (some ((a : Nat) : Int))).length + 1 ≤ 100000
      rw [ct, List.length_take]; omega
    · show (cutD es none (some ((a : Nat) : Int)) ++ [o]).length + (cutD es (some ((a : Nat) : Int)) none).length ≤ 100000
      rw [ct, cd, List.length_append, List.length_take, List.length_drop]
      show min a es.length + 1 + (es.length - a) ≤ 100000
      omega
    · rw [e]
      refine fin (es.take a ++ [o] ++ es.drop a) ?_ (gcat (gcat (gt _) fun e he => ?_) (gd _))
      · rw [List.length_append, List.length_append, List.length_take, List.length_drop]
        show min a es.length + 1 + (es.length - a) ≤ L + 1
        omega
      · rw [List.mem_singleton.mp he]
        exact ho.mono (by omega) (by omega)
  show if decide ((4 : Int) < x2 % 12) = true then _ else _
  refine iteB (fun _ => ?_) (fun _ => ?_)
  · have hget : es[a]? = some es[a] := List.getElem?_eq_getElem ha
    refine ⟨p, [], es, [], a, es[a], rfl, rfl, rfl, hget, ?_⟩
    have ec : cutD (ns.map D.int) (some 4) none = (ns.drop 4).map D.int := cut_fromI ns 4
    refine (show spoN (N + 1) [es[a], .lst (cutD (ns.map D.int) (some 4) none)] _ kx from ?_)
    rw [ec]
    refine ⟨es[a], ns.drop 4, L, n, rfl, hN, hg _ (List.getElem_mem ha), h10, hL, by rw [List.length_drop]; omega, fun x hx => hr x (List.mem_of_mem_drop hx), fun r hr2 => ?_⟩
    refine ⟨p, [], es.set a r, [], rfl, rfl, ?_⟩
    refine fin _ (by rw [List.length_set]; omega) fun e he => ?_
    rcases List.mem_or_eq_of_mem_set he with z | z
    · exact gL e z
    · rw [z]; exact hr2
  · refine ⟨p, [], es, [], rfl, rfl, ?_⟩
    exact fin _ (by omega) gL
theorem pure_spoN (N : Nat) (ds : List D) (k : D → Prop) (kx : Addr → Prop) (h : spoN (N + 1) ds k kx) : t_law_spoilt (spoN N) { nx := fun _ _ => k .non, rt := k, rn := fun es => k (.lst es), ex := kx } (dstart N_law_spoilt ds) [] := by
  obtain ⟨d, ns, L, n, rfl, hnN, hg, h10, hL, hl, hr, h⟩ := h
  have oddK : ∀ kk : D → Prop, (∀ r, Gd (L + 1) (n + 2) r → kk r) → sp_law_odd [.lst (cutD (ns.map D.int) (some ((1 : Nat) : Int)) none)] kk kx := fun kk hk => odd_ok (kx := kx) (by omega) hr fun o ho => hk o (ho.mono (by omega) (by omega))
  have seq : ∀ (es : List D) (b1 b2 : Bool) (t : String), (d = .tup es ∨ d = .lst es) → d.ty = some t → kitB t "tuple" = some b1 → kitB t "list" = some b2 → (b1 || b2) = true → (∃ m, n = m + 1 ∧ es.length ≤ L ∧ ∀ e ∈ es, Gd L m e) → t_law_spoilt (spoN N) { nx := fun _ _ => k .non, rt := k, rn := fun es => k (.lst es), ex := kx } (dstart N_law_spoilt [d, .lst (ns.map D.int)]) [] := fun es b1 b2 t hd e1 e2 e3 e4 hes => by
    obtain ⟨m, rfl, hes1, hes2⟩ := hes
    obtain ⟨N, rfl⟩ : ∃ i, N = i + 1 := ⟨N - 1, by omega⟩
    refine ⟨t, b1, b2, e1, e2, e3, ?_⟩
    show if (!(b1 || b2)) = true then _ else _
    rw [e4]
    refine iteF ?_
    have el : (((ns.map D.int).length : Nat) : Int) = (ns.length : Nat) := by rw [List.length_map]
    have rest := fun (c : es ≠ []) (c2 : 9 ≤ ns.length) p => spoilt_rest m N L (by omega) d es hd ns c hes1 hes2 h10 hL c2 hr k kx p h
    rcases hd with rfl | rfl
    all_goals
      by_cases c : es = []
      · subst c
        refine eq_intT rfl (iteT ?_)
        exact oddK _ h
      · have hpos := List.length_pos_iff.mpr c
        refine eq_intF (by omega) (iteF ?_)
        show if decide ((((ns.map D.int).length : Nat) : Int) < (9 : Int)) = true then _ else _
        refine iteB (fun c2 => oddK _ h) (fun c2 => ?_)
        have c2 := of_decide_eq_false c2
        rw [el] at c2
        obtain ⟨x0, hx0⟩ : ∃ a, ns[0]? = some a := ⟨ns[0], List.getElem?_eq_getElem (by omega)⟩
        refine ix_of (map_at hx0) ⟨(show (0 : Int) < 9 by decide), eq_int ?_⟩
        refine iteB (fun c3 => oddK _ h) (fun c3 => ?_)
        exact fun p _ => rest c (by omega) p
  have ⟨⟨a1, a2⟩, ⟨a3, a4⟩, ⟨a5, a6⟩, ⟨a7, a8⟩, ⟨a9, a10⟩, ⟨a11, a12⟩⟩ := isi2_facts
  have atom : ∀ (t : String), d.ty = some t → kitB t "tuple" = some false → kitB t "list" = some false → t_law_spoilt (spoN N) { nx := fun _ _ => k .non, rt := k, rn := fun es => k (.lst es), ex := kx } (dstart N_law_spoilt [d, .lst (ns.map D.int)]) [] := fun t e1 e2 e3 =>
    ⟨t, false, false, e1, e2, e3, oddK _ h⟩
  cases d with
  | non => exact atom _ rfl a1 a2
  | bl b => exact atom _ rfl a3 a4
  | int i => exact atom _ rfl a5 a6
  | str x => exact atom _ rfl a7 a8
  | lst es =>
    cases n with
    | zero => simp [Gd, D.flat] at hg
    | succ n => exact seq es false true _ (.inr rfl) rfl a9 a10 rfl ⟨n, rfl, hg.1, hg.2⟩
  | tup es =>
    cases n with
    | zero => simp [Gd, D.flat] at hg
    | succ n => exact seq es true false _ (.inl rfl) rfl a11 a12 rfl ⟨n, rfl, hg.1, hg.2⟩
  | _ =>
    have := hg.plain
    simp [D.plain] at this
/-! ### the law -/
abbrev sp_law_spoilt : DSp := spoN 5
theorem spo_ok {d : D} {ns : List Int} {k : D → Prop} {kx : Addr → Prop} (L m : Nat) (hm : m ≤ 4) (hg : Gd L m d) (h10 : 10 ≤ L) (hL : L ≤ 1000) (hl : 3 ≤ ns.length) (hr : ∀ x ∈ ns, 0 ≤ x ∧ x < 1000) (h : ∀ r, Gd (L + 1) (m + 2) r → k r) : sp_law_spoilt [d, .lst (ns.map D.int)] k kx :=
  ⟨d, ns, L, m, rfl, hm, hg, h10, hL, hl, hr, h⟩
abbrev N_law_k01 : List Str := ["script", "bag", "things", "thing", "some", "one", "parts", "share", "row", "once"]
def t_law_k01 : DS :=
  (dSeq (dBags 10 0 1 10
    (oLift (dSeq (dAsg (dCall sp_law_drawn (dCons (dVar 1) (dCons (dC (.int 40)) dNil))) (gTp 3 (gCn (gN 6) (gCn (gN 7) (gCn (gN 8) gNl)))))
    (dSeq (dSet 2 (dLst (dCons (dVar 6) (dCons (dVar 7) (dCons (dVar 8) (dCons (dRev (dVar 6)) (dCons (dC1 cLst (dVar 6)) (dCons (dC1 cLst (dVar 7)) (dCons (dC1 cLst (dVar 8)) (dCons (dOp dCat (dVar 8) (dVar 8)) (dCons (dRev (dVar 7)) dNil)))))))))))
    (dSeq (dFor (dItT (dTup (dCons (dVar 6) (dCons (dVar 7) (dCons (dVar 8) dNil))))) (gN 3)
    (dSeq (dSet 9 (dCall sp_law_spoilt (dCons (dVar 3) (dCons (BagSl 1 201) dNil))))
    (dSet 2 (dOp dCat (dVar 2) (dLst (dCons (dVar 9) (dCons (dCall sp_law_spoilt (dCons (dVar 9) (dCons (BagSl 1 221) dNil))) dNil)))))))
    (dSeq (dSet 4 (dLst (dCons (dTup (dCons (dC (.int 1)) (dCons (dC (.int 2)) dNil))) (dCons (dTup (dCons (dC (.int 0)) (dCons (dC (.int 1)) dNil))) (dCons (dTup (dCons (dC (.int 1)) (dCons (dC (.int 1)) dNil))) (dCons (dTup (dCons (dC (.int 2)) (dCons (dC (.int 4)) dNil))) (dCons (dTup (dCons (dC (.int 5)) (dCons (dC (.int 12)) dNil))) (dCons (dTup (dCons (dC (.int 6)) (dCons (dC (.int 13)) dNil))) (dCons (dTup (dCons (dNeg (dC (.int 1))) (dCons (dC (.int 2)) dNil))) dNil)))))))))
    (dSeq (dSet 4 (dOp dCat (dVar 4) (dLst (dCons (dTup (dCons (dC (.int 3)) (dCons (dC (.int 2)) dNil))) (dCons (dTup (dCons (dC (.int 1)) (dCons (dC (.int 0)) dNil))) (dCons (dTup (dCons (dC (.bl true)) (dCons (dC (.int 2)) dNil))) (dCons (dTup (dCons (dC (.int 1)) (dCons (dC (.int 2)) (dCons (dC (.int 3)) dNil)))) (dCons (dC .non) (dCons (dLst (dCons (dC (.int 1)) (dCons (dC (.int 2)) dNil))) dNil)))))))))
    (dSeq (dFor (dItL (dOp dCat (dVar 4) (dLst (dCons (dTup (dCons (dSub (dPow (dC (.int 10)) (dC (.int 20))) (dC (.int 2))) (dCons (dSub (dPow (dC (.int 10)) (dC (.int 20))) (dC (.int 1))) dNil))) (dCons (dTup (dCons (dSub (dPow (dC (.int 10)) (dC (.int 20))) (dC (.int 1))) (dCons (dPow (dC (.int 10)) (dC (.int 20))) dNil))) (dCons (dTup (dCons (dC (.int 7)) (dCons (dC (.int 12)) dNil))) (dCons (dTup (dCons (dC (.int 0)) (dCons (dC (.int 2)) dNil))) dNil))))))) (gN 5)
    (dSet 2 (dOp dCat (dVar 2) (dLst (dCons (dVar 5) (dCons (dTup (dCons (dVar 5) (dCons (dTup (dCons (dC (.int 1)) (dCons (dC (.int 2)) dNil))) dNil))) (dCons (dTup (dCons (dOp dIx (dVar 6) (dC (.int 0))) (dCons (dVar 5) dNil))) (dCons (dTup (dCons (dTup (dCons (dC (.int 5)) (dCons (dC (.int 12)) dNil))) (dCons (dVar 5) dNil))) dNil))))))))
    (dSeq (dSet 2 (dOp dCat (dVar 2) (dLst (dCons (dOp dRep (dTup (dCons (dC (.str "right")) dNil)) (dC (.int 40))) (dCons (dOp dRep (dTup (dCons (dC (.str "right")) dNil)) (dC (.int 41))) (dCons (dTup (dCons (dC (.str "Right")) dNil)) (dCons (dTup (dCons (dC .non) dNil)) dNil)))))))
    (dSeq (dSet 2 (dOp dCat (dVar 2) (dLst (dCons (dC (.str "right")) (dCons (dTup dNil) (dCons (dTup (dCons (dOp dIx (dVar 6) (dC (.int 0))) dNil)) (dCons (dOp dCat (dVar 6) (dSl (dVar 6) dNo (dSome (dC (.int 1))))) dNil)))))))
    (dFor (dItL (dOp dCat (dVar 2) (dLst (dCons (dCall sp_law_odd (dCons (BagSl 1 101) dNil)) (dCons (dCall sp_law_odd (dCons (BagSl 1 111) dNil)) dNil))))) (gN 3)
    (dSeq (dIfS (dB (dOp dNe (dC1 cRepr (dCall sp_are_parts (dCons (dVar 3) dNil))) (dC1 cRepr (dCall sp_law_are_parts (dCons (dVar 3) dNil))))) (dRet (dC (.bl false))) dNext)
    (dSeq (dIfS (dB (dOp dNe (dC1 cRepr (dCall sp_is_share (dCons (dVar 3) dNil))) (dC1 cRepr (dCall sp_law_is_share (dCons (dVar 3) dNil))))) (dRet (dC (.bl false))) dNext)
    (dIfS (dB (dOp dNe (dC1 cRepr (dCall sp_is_row (dCons (dVar 3) dNil))) (dC1 cRepr (dCall sp_law_is_row (dCons (dVar 3) dNil))))) (dRet (dC (.bl false))) dNext))))))))))))))
    (dRet (dC (.bl true))))

/-- a thing of the law -/
def Th (d : D) : Prop := Gd 1000 20 d
theorem Th.of {L n : Nat} {d : D} (h : Gd L n d) (hL : L ≤ 1000 := by decide) (hn : n ≤ 20 := by decide) : Th d := h.mono hL hn
theorem repr_ne {b c : Bool} {k : D → Prop} (e : b = c) (h : k (.bl false)) : dNe (.str (if b then "True" else "False")) (.str (if c then "True" else "False")) k := by
  subst e
  refine ne_of (b := true) ?_ ?_ ?_ h
  · cases b <;> decide +kernel
  · cases b <;> decide +kernel
  · unfold eqD; cases b <;> decide +kernel
theorem same_b {b c : Bool} {P : Prop} (h1 : b = true ↔ P) (h2 : c = true ↔ P) : b = c := by
  cases b <;> cases c <;> simp_all
theorem th_tup {ds : List D} {L n : Nat} (hl : ds.length ≤ L) (h : ∀ d ∈ ds, Gd L n d) : Gd L (n + 1) (.tup ds) := ⟨hl, h⟩
theorem th_cat {as bs : List D} (h1 : ∀ d ∈ as, Th d) (h2 : ∀ d ∈ bs, Th d) : ∀ d ∈ as ++ bs, Th d := fun d hd => by
  rcases List.mem_append.mp hd with z | z
  · exact h1 d z
  · exact h2 d z
def someL : List D := [.tup [.int 1, .int 2], .tup [.int 0, .int 1], .tup [.int 1, .int 1], .tup [.int 2, .int 4], .tup [.int 5, .int 12], .tup [.int 6, .int 13], .tup [.int (-1), .int 2], .tup [.int 3, .int 2], .tup [.int 1, .int 0], .tup [.bl true, .int 2], .tup [.int 1, .int 2, .int 3], .non, .lst [.int 1, .int 2],
  .tup [.int (10 ^ 20 - 2), .int (10 ^ 20 - 1)], .tup [.int (10 ^ 20 - 1), .int (10 ^ 20)], .tup [.int 7, .int 12], .tup [.int 0, .int 2]]
theorem some_gd : ∀ d ∈ someL, Gd 10 1 d := by
  intro d hd
  unfold someL at hd
  simp only [List.mem_cons, List.not_mem_nil, or_false] at hd
  rcases hd with rfl | rfl | rfl | rfl | rfl | rfl | rfl | rfl | rfl | rfl | rfl | rfl | rfl | rfl | rfl | rfl | rfl <;> simp [Gd, D.flat]
theorem gd_pts (p q : Rat) : Gd 10 2 (pts p q) := ⟨(by show 2 ≤ 10; decide), fun e he => by
  simp at he
  rcases he with rfl | rfl <;> exact gd_fr _ _ _ (by decide)⟩
theorem two_gd {L n : Nat} {a b : D} (hL : 2 ≤ L) (ha : Gd L n a) (hb : Gd L n b) : Gd L (n + 1) (.tup [a, b]) := ⟨hL, fun e he => by
  simp at he
  rcases he with rfl | rfl
  · exact ha
  · exact hb⟩
theorem pure_law_k01 (ns : List Int) : t_law_k01 { nx := fun _ => False, rt := fun d => d = .bl true, ex := fun _ => False } (blank 10 0 ns) := by
  refine ⟨ns, rfl, by decide, by decide, by decide, by decide, by decide, ?_, rfl⟩
  refine ⟨40, rfl, by decide, by decide, fun p q x r hpq hx hr => ⟨rfl, ?_⟩⟩
  have hr : r.length ≤ 40 := by omega
  refine ⟨by show (r.map wd).length + (r.map wd).length ≤ 100000; rw [List.length_map]; omega, ?_⟩
  have gP := gd_pts p q
  have gX : Gd 10 1 (fr x) := gd_fr 10 0 x (by decide)
  have gR : Gd 40 1 (rw_ r) := gd_rw 40 0 r hr
  have gRR : Gd 80 1 (.tup (r.map wd ++ r.map wd)) := by
    have := gd_rw 80 0 (r ++ r) (by rw [List.length_append]; omega)
    unfold rw_ at this
    rwa [List.map_append] at this
  have t0 : ∀ d ∈ [pts p q, fr x, rw_ r, .tup [fr q, fr p], .lst [fr p, fr q], .lst [.int x.num, .int x.den], .lst (r.map wd), .tup (r.map wd ++ r.map wd), .tup [.int x.den, .int x.num]], Th d := fun d hd => by
    simp only [List.mem_cons, List.not_mem_nil, or_false] at hd
    rcases hd with rfl | rfl | rfl | rfl | rfl | rfl | rfl | rfl | rfl
    · exact Th.of gP
    · exact Th.of gX
    · exact Th.of gR
    · exact Th.of (gd_pts q p)
    · exact Th.of (L := 10) (n := 2) gP
    · exact Th.of (L := 10) (n := 1) gX
    · exact Th.of (L := 40) (n := 1) gR
    · exact Th.of gRR
    · exact Th.of (two_gd (L := 10) (n := 0) (by decide) (gd_int _ _ _) (gd_int _ _ _))
  refine ⟨fun i δ => ∃ (ts : List D) (z3 z9 : Option D), δ = [some (.scr ns), some .bag, some (.lst ts), z3, none, none, some (pts p q), some (fr x), some (rw_ r), z9] ∧ ts.length = 9 + 2 * i ∧ ∀ d ∈ ts, Th d, ⟨_, none, none, rfl, rfl, t0⟩, ?_, ?_⟩
  · rintro i d δ' hd ⟨ts, z3, z9, rfl, hl, ht⟩
    have hd2 : Gd 40 2 d ∧ i < 3 := by
      match i, hd with
      | 0, hd => cases hd; exact ⟨gP.mono (by decide) (by decide), by decide⟩
      | 1, hd => cases hd; exact ⟨gX.mono (by decide) (by decide), by decide⟩
      | 2, hd => cases hd; exact ⟨gR.mono (by decide) (by decide), by decide⟩
    refine ⟨rfl, fun ms h1 h2 h3 => ?_⟩
    refine spo_ok (kx := fun _ => False) 40 2 (by decide) hd2.1 (by decide) (by decide) (by omega) h3 fun o ho => ?_
    refine ⟨rfl, fun ms2 h4 h5 h6 => ?_⟩
    refine spo_ok (kx := fun _ => False) 41 4 (by decide) ho (by decide) (by decide) (by omega) h6 fun o2 ho2 => ?_
    refine ⟨by show ts.length + 2 ≤ 100000; omega, ts ++ [o, o2], _, _, rfl, by rw [List.length_append]; show ts.length + 2 = _; omega, th_cat ht fun e he => ?_⟩
    simp at he
    rcases he with rfl | rfl
    · exact Th.of ho
    · exact Th.of ho2
  · rintro δ' ⟨ts, z3, z9, rfl, hl, ht⟩
    have hl : ts.length = 15 := hl
    refine ⟨by decide, ⟨by decide, by decide, by decide⟩, ⟨by decide, by decide, by decide⟩, ⟨by decide, by decide, by decide⟩, ⟨by decide, by decide, by decide⟩, by decide, ?_⟩
    refine (show ∃ Pv : Nat → Dst → Prop, Pv 0 _ ∧ (∀ i d δ', someL[i]? = some d → _) ∧ ∀ δ', Pv someL.length δ' → _ from ?_)
    refine ⟨fun i δ => ∃ (ts : List D) (z3 z5 z9 z4 : Option D), δ = [some (.scr ns), some .bag, some (.lst ts), z3, z4, z5, some (pts p q), some (fr x), some (rw_ r), z9] ∧ ts.length = 15 + 4 * i ∧ ∀ d ∈ ts, Th d, ⟨ts, z3, none, z9, _, rfl, hl, ht⟩, ?_, ?_⟩
    · rintro i d δ' hd ⟨ts, z3, z5, z9, z4, rfl, hl, ht⟩
      have hi : i < 17 := (List.getElem?_eq_some_iff.mp hd).1
      have gd := some_gd d (List.mem_of_getElem? hd)
      have g12 : Gd 10 1 (.tup [.int 1, .int 2]) := two_gd (n := 0) (by decide) (gd_int _ _ _) (gd_int _ _ _)
      have g512 : Gd 10 1 (.tup [.int 5, .int 12]) := two_gd (n := 0) (by decide) (gd_int _ _ _) (gd_int _ _ _)
      have gp1 : Gd 10 1 (fr p) := gd_fr 10 0 p (by decide)
      refine ⟨by show ts.length + 4 ≤ 100000; omega, ts ++ [d, .tup [d, .tup [.int 1, .int 2]], .tup [fr p, d], .tup [.tup [.int 5, .int 12], d]], _, _, _, _, rfl, by rw [List.length_append]; show ts.length + 4 = _; omega, th_cat ht fun e he => ?_⟩
      simp only [List.mem_cons, List.not_mem_nil, or_false] at he
      rcases he with rfl | rfl | rfl | rfl
      · exact Th.of gd
      · exact Th.of (two_gd (by decide) gd g12)
      · exact Th.of (two_gd (by decide) gp1 gd)
      · exact Th.of (two_gd (by decide) g512 gd)
    · rintro δ' ⟨ts, z3, z5, z9, z4, rfl, hl, ht⟩
      have hl : ts.length = 83 := hl
      refine ⟨⟨by simp, by decide, by decide, by simp⟩, ⟨by simp, by decide, by decide, by simp⟩, by show ts.length + 4 ≤ 100000; omega, ?_⟩
      have ec : cutD [fr p, fr q] none (some 1) = [fr p] := cut_take [fr p, fr q] 1
      refine (show (2 + (cutD [fr p, fr q] none (some 1)).length ≤ 100000) ∧ ((ts ++ [D.tup (List.replicate 40 [D.str "right"]).flatten, .tup (List.replicate 41 [D.str "right"]).flatten, .tup [.str "Right"], .tup [.non]]).length + 4 ≤ 100000) ∧ _ from ⟨(by rw [ec]; show 3 ≤ 100000; decide), by rw [List.length_append]; show ts.length + 4 + 4 ≤ 100000; omega, ?_⟩)
      have gq1 : Gd 10 1 (fr q) := gd_fr 10 0 q (by decide)
      have gp1 : Gd 10 1 (fr p) := gd_fr 10 0 p (by decide)
      have gS : ∀ n : Nat, n ≤ 1000 → Gd 1000 1 (.tup (List.replicate n [D.str "right"]).flatten) := fun n hn => by
        have e : ∀ n : Nat, (List.replicate n [D.str "right"]).flatten = List.replicate n (D.str "right") := fun n => by
          induction n with
          | zero => rfl
          | succ n ih => rw [List.replicate_succ, List.flatten_cons, ih]; rfl
        rw [e]
        refine ⟨by rw [List.length_replicate]; exact hn, fun z hz => ?_⟩
        rw [(List.mem_replicate.mp hz).2]; rfl
      have tA : ∀ d ∈ [D.tup (List.replicate 40 [D.str "right"]).flatten, .tup (List.replicate 41 [D.str "right"]).flatten, .tup [.str "Right"], .tup [.non]], Th d := fun d hd => by
        simp only [List.mem_cons, List.not_mem_nil, or_false] at hd
        rcases hd with rfl | rfl | rfl | rfl
        · exact Th.of (gS 40 (by decide))
        · exact Th.of (gS 41 (by decide))
        · exact Th.of (L := 10) (n := 1) (by simp [Gd, D.flat])
        · exact Th.of (L := 10) (n := 1) (by simp [Gd, D.flat])
      have tB : ∀ d ∈ [D.str "right", .tup [], .tup [fr p], .tup ([fr p, fr q] ++ cutD [fr p, fr q] none (some 1))], Th d := fun d hd => by
        rw [ec] at hd
        simp only [List.mem_cons, List.not_mem_nil, or_false] at hd
        rcases hd with rfl | rfl | rfl | rfl
        · exact Th.of (L := 10) (n := 0) rfl
        · exact Th.of (L := 10) (n := 1) (by simp [Gd])
        · exact Th.of (L := 10) (n := 2) ⟨(by show 1 ≤ 10; decide), fun e he => by rw [List.mem_singleton.mp he]; exact gp1⟩
        · refine Th.of (L := 10) (n := 2) ⟨(by show 3 ≤ 10; decide), fun e he => ?_⟩
          simp at he
          rcases he with rfl | rfl | rfl
          · exact gp1
          · exact gq1
          · exact gp1
      have tC := th_cat (th_cat ht tA) tB
      have lC : (ts ++ [D.tup (List.replicate 40 [D.str "right"]).flatten, .tup (List.replicate 41 [D.str "right"]).flatten, .tup [.str "Right"], .tup [.non]] ++ [D.str "right", .tup [], .tup [fr p], .tup ([fr p, fr q] ++ cutD [fr p, fr q] none (some 1))]).length = 91 := by
        rw [List.length_append, List.length_append]
        show ts.length + 4 + 4 = 91
        omega
      refine ⟨rfl, fun m1 h1 h2 h3 => ⟨m1, rfl, by omega, h3, fun o1 ho1 => ⟨rfl, fun m2 h4 h5 h6 => ⟨m2, rfl, by omega, h6, fun o2 ho2 => ?_⟩⟩⟩⟩
      refine ⟨Nat.le_trans (Nat.le_of_eq (congrArg (· + 2) lC)) (by decide), fun i δ => ∃ (z2 z3 z4 z5 z9 : Option D), δ = [some (.scr ns), some .bag, z2, z3, z4, z5, some (pts p q), some (fr x), some (rw_ r), z9], ⟨_, _, _, _, _, rfl⟩, ?_, ?_⟩
      · rintro i d δ' hd ⟨z2, z3, z4, z5, z9, rfl⟩
        have hT : Th d := th_cat tC (fun e he => by
          simp at he
          rcases he with rfl | rfl
          · exact Th.of ho1
          · exact Th.of ho2) d (List.mem_of_getElem? hd)
        have pl := Gd.plain hT
        have sh := Gd.short (by decide) hT
        refine ⟨d, rfl, pl, fun b hb => ⟨d, rfl, pl, fun c hc => repr_ne (same_b hb hc) (iteF ?_)⟩⟩
        refine ⟨d, rfl, pl, fun b hb => ⟨d, rfl, pl, fun c hc => repr_ne (same_b hb hc) (iteF ?_)⟩⟩
        refine ⟨d, rfl, pl, sh, fun b hb => ⟨d, rfl, pl, sh, fun c hc => repr_ne (same_b hb hc) (iteF ?_)⟩⟩
        exact ⟨_, _, _, _, _, rfl⟩
      · rintro δ' ⟨z2, z3, z4, z5, z9, rfl⟩
        exact ⟨rfl, rfl⟩
end DL
namespace Law
open PySem PySem.Spec PyProof.Rows L2 DL
def topS (i : Nat) : Stmt := PySem.Challenge.pw_pourback_k01_parts_shares_rows_known.main.body.getD i (.Pass ⟨0, 0, 0, 0⟩)
section
variable {P : Program} {w : World} {K : PySem.W.Frag} {mg : Str → Option Value} {base : Heap} {er : Er}
abbrev s_is_within : Stmt := topS 2
theorem sc_is_within : FnScope N_is_within ["thing", "low", "high"] (defScope s_is_within) := ⟨rfl, rfl, rfl, by decide +kernel, rfl, by decide +kernel, by decide +kernel⟩
theorem ok_is_within (Z : Bl mg) (T : DefT K mg "is_within" s_is_within) : Def P w K mg base 1 "is_within" ["thing", "low", "high"] sp_is_within := by
  exact def_mk T sc_is_within (fun _ _ _ _ _ _ us hl => match us, hl with | [_, _, _], _ => rfl) len_is_within (fun f cdv A outer s H E hr => ⟨t_is_within,
    (b_one (s_ret (d_and (d_isi Z.isinstance Z.int (by decide +kernel) (dv 0)) (d_and (d_not (d_isi Z.isinstance Z.bool (by decide +kernel) (dv 0))) (d_one (d_chain op_le op_le sr_le sr_le (dv 1) (dv 0) (dv 2))))))),
    pure_is_within⟩)

abbrev s_common : Stmt := topS 3
theorem sc_common : FnScope N_common ["one", "other"] (defScope s_common) := ⟨rfl, rfl, rfl, by decide +kernel, rfl, by decide +kernel, by decide +kernel⟩
theorem ok_common (Z : Bl mg) (T : DefT K mg "common" s_common) : Def P w K mg base 1 "common" ["one", "other"] sp_common := by
  exact def_mk T sc_common (fun _ _ _ _ _ _ us hl => match us, hl with | [_, _], _ => rfl) len_common (fun f cdv A outer s H E hr => ⟨t_common,
    (b_cons (s_while passF (t_ne hr.units (dv 1) d_int)
    (b_one (s_par (i := 0) (j := 1) rfl sc_common.nd rfl rfl (by decide) rfl rfl (dv 1) (d_mod (dv 0) (dv 1)))))
    (b_one (s_ret (dv 0)))),
    pure_common⟩)

abbrev s_made : Stmt := topS 4
theorem sc_made : FnScope N_made ["top", "bottom"] (defScope s_made) := ⟨rfl, rfl, rfl, by decide +kernel, rfl, by decide +kernel, by decide +kernel⟩
theorem ok_made (Z : Bl mg) (T : DefT K mg "made" s_made) (D_common : Def P w K mg base 1 "common" ["one", "other"] sp_common) : Def P w K mg base 2 "made" ["top", "bottom"] sp_made := by
  exact def_mk T sc_made (fun _ _ _ _ _ _ us hl => match us, hl with | [_, _], _ => rfl) len_made (fun f cdv A outer s H E hr => ⟨t_made,
    (b_cons (s_set (i := 2) sc_made.nd rfl (Or.inl rfl) (d_fn passO hr D_common (a_cons (d_abs Z.abs (dv 0)) (a_cons (dv 1) a_nil))))
    (b_one (s_ret (d_tup (a_cons (d_div (dv 0) (dv 2)) (a_cons (d_div (dv 1) (dv 2)) a_nil)))))),
    pure_made⟩)

abbrev s_plus : Stmt := topS 5
theorem sc_plus : FnScope N_plus ["one", "other"] (defScope s_plus) := ⟨rfl, rfl, rfl, by decide +kernel, rfl, by decide +kernel, by decide +kernel⟩
theorem ok_plus (Z : Bl mg) (T : DefT K mg "plus" s_plus) (D_made : Def P w K mg base 2 "made" ["top", "bottom"] sp_made) : Def P w K mg base 3 "plus" ["one", "other"] sp_plus := by
  exact def_mk T sc_plus (fun _ _ _ _ _ _ us hl => match us, hl with | [_, _], _ => rfl) len_plus (fun f cdv A outer s H E hr => ⟨t_plus,
    (b_one (s_ret (d_fn passO hr D_made (a_cons (d_add (d_mul (d_ix (dv 0) d_int (fun _ _ => rfl)) (d_ix (dv 1) d_int (fun _ _ => rfl))) (d_mul (d_ix (dv 1) d_int (fun _ _ => rfl)) (d_ix (dv 0) d_int (fun _ _ => rfl)))) (a_cons (d_mul (d_ix (dv 0) d_int (fun _ _ => rfl)) (d_ix (dv 1) d_int (fun _ _ => rfl))) a_nil))))),
    pure_plus⟩)

abbrev s_is_less : Stmt := topS 6
theorem sc_is_less : FnScope N_is_less ["one", "other"] (defScope s_is_less) := ⟨rfl, rfl, rfl, by decide +kernel, rfl, by decide +kernel, by decide +kernel⟩
theorem ok_is_less (Z : Bl mg) (T : DefT K mg "is_less" s_is_less) : Def P w K mg base 1 "is_less" ["one", "other"] sp_is_less := by
  exact def_mk T sc_is_less (fun _ _ _ _ _ _ us hl => match us, hl with | [_, _], _ => rfl) len_is_less (fun f cdv A outer s H E hr => ⟨t_is_less,
    (b_one (s_ret (d_lt (d_mul (d_ix (dv 0) d_int (fun _ _ => rfl)) (d_ix (dv 1) d_int (fun _ _ => rfl))) (d_mul (d_ix (dv 1) d_int (fun _ _ => rfl)) (d_ix (dv 0) d_int (fun _ _ => rfl)))))),
    pure_is_less⟩)

abbrev s_is_share : Stmt := topS 7
theorem sc_is_share : FnScope N_is_share ["thing"] (defScope s_is_share) := ⟨rfl, rfl, rfl, by decide +kernel, rfl, by decide +kernel, by decide +kernel⟩
theorem ok_is_share (Z : Bl mg) (T : DefT K mg "is_share" s_is_share) {t_GREAT : Tok} (c_GREAT : mg "GREAT" = some (.int 100000000000000000000 t_GREAT)) (D_is_within : Def P w K mg base 1 "is_within" ["thing", "low", "high"] sp_is_within) (D_common : Def P w K mg base 1 "common" ["one", "other"] sp_common) : Def P w K mg base 2 "is_share" ["thing"] sp_is_share := by
  exact def_mk T sc_is_share (fun _ _ _ _ _ _ us hl => match us, hl with | [_], _ => rfl) len_is_share (fun f cdv A outer s H E hr => ⟨t_is_share,
    (b_cons (s_if (t_w (w_or (t_not (t_val (d_isi Z.isinstance Z.tuple (by decide +kernel) (dv 0)))) (w_or (t_ne hr.units (d_len Z.len (dv 0)) d_int) (w_or1 (t_not (t_val (d_fn passO hr D_is_within (a_cons (d_ix (dv 0) d_int (fun _ _ => rfl)) (a_cons d_int (a_cons (d_sub (d_gint (by rfl) c_GREAT) d_int) a_nil)))))))))) (b_one (s_ret d_bl)) b_nil)
    (b_one (s_ret (d_and (d_fn passO hr D_is_within (a_cons (d_ix (dv 0) d_int (fun _ _ => rfl)) (a_cons d_int (a_cons (d_ix (dv 0) d_int (fun _ _ => rfl)) a_nil)))) (d_one (d_eq hr.units (d_fn passO hr D_common (a_cons (d_ix (dv 0) d_int (fun _ _ => rfl)) (a_cons (d_ix (dv 0) d_int (fun _ _ => rfl)) a_nil))) d_int)))))),
    pure_is_share⟩)

abbrev s_are_parts : Stmt := topS 8
theorem sc_are_parts : FnScope N_are_parts ["thing"] (defScope s_are_parts) := ⟨rfl, rfl, rfl, by decide +kernel, rfl, by decide +kernel, by decide +kernel⟩
theorem ok_are_parts (Z : Bl mg) (T : DefT K mg "are_parts" s_are_parts) (D_is_share : Def P w K mg base 2 "is_share" ["thing"] sp_is_share) (D_is_less : Def P w K mg base 1 "is_less" ["one", "other"] sp_is_less) (D_plus : Def P w K mg base 3 "plus" ["one", "other"] sp_plus) : Def P w K mg base 4 "are_parts" ["thing"] sp_are_parts := by
  obtain ⟨f_is_share, fd_is_share, F_is_share⟩ := id D_is_share
  exact def_mk T sc_are_parts (fun _ _ _ _ _ _ us hl => match us, hl with | [_], _ => rfl) len_are_parts (fun f cdv A outer s H E hr => ⟨t_are_parts,
    (b_cons (s_if (t_w (w_or (t_not (t_val (d_isi Z.isinstance Z.tuple (by decide +kernel) (dv 0)))) (w_or (t_ne hr.units (d_len Z.len (dv 0)) d_int) (w_or1 (t_not (t_val (d_all rfl Z.all (d_lc (own := [("one", 1)]) rfl sc_are_parts.nd (i_tup (dv 0)) (blkOk_by (own := [("one", 1)]) (N := N_are_parts) (sc := defScope s_are_parts) (by decide +kernel))
      (fun _ _ _ _ _ => pg_name (i := 1) sc_are_parts.nd rfl (Or.inl rfl))
      (fun _ _ _ _ _ => pts_nil)
      (fun _ _ _ _ _ => (pe_call (F_is_share.1.mono (k := 3) (by decide)) hr (by rfl) F_is_share.2.1 F_is_share.2.2.1 F_is_share.2.2.2 .nil passL (pa_cons (pv 1) pa_nil)))
      (sgk_name 1) st_yes (se_call (sa_cons (se_var 1) sa_nil)))))))))) (b_one (s_ret d_bl)) b_nil)
    (b_cons (s_if (t_not (t_val (d_all rfl Z.all (d_lc (own := [("one", 1)]) rfl sc_are_parts.nd (i_tup (dv 0)) (blkOk_by (own := [("one", 1)]) (N := N_are_parts) (sc := defScope s_are_parts) (by decide +kernel))
      (fun _ _ _ _ _ => pg_name (i := 1) sc_are_parts.nd rfl (Or.inl rfl))
      (fun _ _ _ _ _ => pts_nil)
      (fun _ _ _ _ _ => (pe_chain3 op_lt op_lt op_le pe_int (pe_ix ix_seq (pv 1) pe_int (fun _ _ => rfl)) (pe_ix ix_seq (pv 1) pe_int (fun _ _ => rfl)) pe_int))
      (sgk_name 1) st_yes (se_chain3 sr_lt sr_lt sr_le se_int (se_op sr_ix (se_var 1) se_int) (se_op sr_ix (se_var 1) se_int) se_int))))) (b_one (s_ret d_bl)) b_nil)
    (b_one (s_ret (d_not (d_fn passO hr D_is_less (a_cons (d_fn passO hr D_plus (a_cons (d_ix (dv 0) d_int (fun _ _ => rfl)) (a_cons (d_ix (dv 0) d_int (fun _ _ => rfl)) a_nil))) (a_cons (d_tup (a_cons d_int (a_cons d_int a_nil))) a_nil)))))))),
    pure_are_parts⟩)

abbrev s_is_pour : Stmt := topS 9
theorem sc_is_pour : FnScope N_is_pour ["thing"] (defScope s_is_pour) := ⟨rfl, rfl, rfl, by decide +kernel, rfl, by decide +kernel, by decide +kernel⟩
theorem ok_is_pour (Z : Bl mg) (T : DefT K mg "is_pour" s_is_pour) : Def P w K mg base 1 "is_pour" ["thing"] sp_is_pour := by
  exact def_mk T sc_is_pour (fun _ _ _ _ _ _ us hl => match us, hl with | [_], _ => rfl) len_is_pour (fun f cdv A outer s H E hr => ⟨t_is_pour,
    (b_one (s_ret (d_and (d_isi Z.isinstance Z.str (by decide +kernel) (dv 0)) (d_one (d_in (dv 0) (d_tup (a_cons d_str (a_cons d_str a_nil)))))))),
    pure_is_pour⟩)

abbrev s_is_row : Stmt := topS 10
theorem sc_is_row : FnScope N_is_row ["thing"] (defScope s_is_row) := ⟨rfl, rfl, rfl, by decide +kernel, rfl, by decide +kernel, by decide +kernel⟩
theorem ok_is_row (Z : Bl mg) (T : DefT K mg "is_row" s_is_row) (D_is_pour : Def P w K mg base 1 "is_pour" ["thing"] sp_is_pour) : Def P w K mg base 2 "is_row" ["thing"] sp_is_row := by
  obtain ⟨f_is_pour, fd_is_pour, F_is_pour⟩ := id D_is_pour
  exact def_mk T sc_is_row (fun _ _ _ _ _ _ us hl => match us, hl with | [_], _ => rfl) len_is_row (fun f cdv A outer s H E hr => ⟨t_is_row,
    (b_one (s_ret (d_and (d_isi Z.isinstance Z.tuple (by decide +kernel) (dv 0)) (d_and (d_le (d_len Z.len (dv 0)) d_int) (d_one (d_all rfl Z.all (d_lc (own := [("pour", 1)]) rfl sc_is_row.nd (i_tup (dv 0)) (blkOk_by (own := [("pour", 1)]) (N := N_is_row) (sc := defScope s_is_row) (by decide +kernel))
      (fun _ _ _ _ _ => pg_name (i := 1) sc_is_row.nd rfl (Or.inl rfl))
      (fun _ _ _ _ _ => pts_nil)
      (fun _ _ _ _ _ => (pe_call (F_is_pour.1.mono (k := 1) (by decide)) hr (by rfl) F_is_pour.2.1 F_is_pour.2.2.1 F_is_pour.2.2.2 .nil passL (pa_cons (pv 1) pa_nil)))
      (sgk_name 1) st_yes (se_call (sa_cons (se_var 1) sa_nil))))))))),
    pure_is_row⟩)

abbrev s_law_cell_at : Stmt := topS 12
theorem sc_law_cell_at : FnScope N_law_cell_at ["script", "k"] (defScope s_law_cell_at) := ⟨rfl, rfl, rfl, by decide +kernel, rfl, by decide +kernel, by decide +kernel⟩
theorem ok_law_cell_at (Z : Bl mg) (T : DefT K mg "_law_cell_at" s_law_cell_at) : Def P w K mg base 1 "_law_cell_at" ["script", "k"] sp_law_cell_at := by
  exact def_mk T sc_law_cell_at (fun _ _ _ _ _ _ us hl => match us, hl with | [_, _], _ => rfl) len_law_cell_at (fun f cdv A outer s H E hr => ⟨t_law_cell_at,
    (b_cons (s_if (t_lt (dv 1) (d_len Z.len (dv 0))) (b_one (s_ret (d_ix (dv 0) (dv 1) (fun _ _ => rfl)))) b_nil)
    (b_one (s_ret d_int))),
    pure_law_cell_at⟩)

abbrev s_law_draws : Stmt := topS 13
theorem sc_law_draws : FnScope N_law_draws ["cell", "many", "size"] (defScope s_law_draws) := ⟨rfl, rfl, rfl, by decide +kernel, rfl, by decide +kernel, by decide +kernel⟩
theorem ok_law_draws (Z : Bl mg) (T : DefT K mg "_law_draws" s_law_draws) : DefN P w K mg base 1 "_law_draws" ["cell", "many", "size"] sp_law_draws := by
  exact defN_mk T sc_law_draws (fun _ _ _ _ _ _ us hl => match us, hl with | [_, _, _], _ => rfl) len_law_draws (fun f cdv A outer s H E hr => ⟨t_law_draws,
    (ob_cons (os_newL (i := 3) sc_law_draws.nd rfl (Or.inl rfl) a_nil)
    (ob_cons (os_lift (s_set (i := 4) sc_law_draws.nd rfl (Or.inl rfl) (d_mulS (dv 0) (d_intb Z.int (d_ge (dv 0) (d_pow d_int d_int))))))
    (ob_cons (os_lift (s_set (i := 5) sc_law_draws.nd rfl (Or.inl rfl) (d_mod (dv 0) d_int)))
    (ob_cons (os_for passF rfl (i_rng1 Z.range (d_add (dv 1) d_int)) (g_name (i := 6) sc_law_draws.nd rfl (Or.inl rfl))
    (ob_cons (os_lift (s_set (i := 5) sc_law_draws.nd rfl (Or.inl rfl) (d_mod (d_add (d_add (d_add (d_mul (dv 5) (dv 5)) (d_mul d_int (dv 5))) (dv 6)) d_int) d_int)))
    (ob_one (os_if (t_w (w_and (t_gt (dv 6) d_int) (w_and1 (t_gt (dv 4) d_int)))) (ob_cons (os_app (i := 3) (d_mod (dv 4) (dv 2)))
    (ob_one (os_lift (s_set (i := 4) sc_law_draws.nd rfl (Or.inl rfl) (d_div (dv 4) (dv 2)))))) (ob_one (os_if (t_gt (dv 6) d_int) (ob_one (os_app (i := 3) (d_mod (d_div (dv 5) d_int) (dv 2)))) ob_nil))))))
    (ob_one (os_retN (i := 3))))))),
    pure_law_draws⟩)

abbrev s_law_spoilt : Stmt := topS 14
theorem sc_law_spoilt : FnScope N_law_spoilt ["thing", "picks"] (defScope s_law_spoilt) := ⟨rfl, rfl, rfl, by decide +kernel, rfl, by decide +kernel, by decide +kernel⟩
theorem ok_law_spoilt (Z : Bl mg) (T : DefT K mg "_law_spoilt" s_law_spoilt) (D_law_odd : Def P w K mg base 1 "_law_odd" ["picks"] sp_law_odd) : ∀ n, Def P w K mg base (n + 1) "_law_spoilt" ["thing", "picks"] (spoN n)
  | 0 => by
    obtain ⟨f, fd, F, hm⟩ := T
    refine ⟨f, fd, ⟨fun vs H Q E h => ?_, fun A outer s H args us vs Q E hr he hb hv h => ?_⟩, hm, F.kp, F.binds fun _ _ _ _ _ _ us hl => match us, hl with | [_, _], _ => rfl⟩
    · obtain ⟨_, _, _, _, _, _, _, h, _⟩ := h; exact h.elim
    · obtain ⟨_, _, _, _, _, _, _, h, _⟩ := h; exact h.elim
  | n + 1 => by
    have D_rec := ok_law_spoilt Z T D_law_odd n
    exact defO_mk T sc_law_spoilt (fun _ _ _ _ _ _ us hl => match us, hl with | [_, _], _ => rfl) (spoN_len (n + 1)) (fun f cdv A outer s H E hr => ⟨t_law_spoilt (spoN n),
    (ob_cons (os_lift (s_if (t_w (w_or (t_not (t_val (d_isi2 Z.isinstance Z.tuple Z.list (by decide +kernel) (by decide +kernel) (dv 0)))) (w_or (t_eq hr.units (d_len Z.len (dv 0)) d_int) (w_or (t_lt (d_len Z.len (dv 1)) d_int) (w_or1 (t_eq hr.units (d_mod (d_ix (dv 1) d_int (fun _ _ => rfl)) d_int) d_int)))))) (b_one (s_ret (d_fn passO hr D_law_odd (a_cons (d_slT (dv 1) (o_some d_int) o_none) a_nil) (by omega)))) b_nil))
    (ob_cons (os_newC (i := 2) Z.list sc_law_spoilt.nd rfl (Or.inl rfl) (dv 0))
    (ob_cons (os_setB 2 (j := 3) sc_law_spoilt.nd rfl (Or.inl rfl) (d_mod (d_ix (dv 1) d_int (fun _ _ => rfl)) (d_len Z.len (dv 2))))
    (ob_cons (os_lift (s_set (i := 4) sc_law_spoilt.nd rfl (Or.inl rfl) (d_mod (d_ix (dv 1) d_int (fun _ _ => rfl)) d_int)))
    (ob_cons (os_if (t_eq hr.units (dv 4) d_int)
    (ob_frz 2 (ob_one (os_lift (s_set (i := 2) sc_law_spoilt.nd rfl (Or.inl rfl) (d_cat (d_slT (dv 2) o_none (o_some (dv 3))) (d_slT (dv 2) (o_some (d_add (dv 3) d_int)) o_none))))))
    (ob_one (os_if (t_eq hr.units (dv 4) d_int)
    (ob_frz 2 (ob_one (os_lift (s_set (i := 2) sc_law_spoilt.nd rfl (Or.inl rfl) (d_cat (d_slT (dv 2) o_none (o_some (d_add (dv 3) d_int))) (d_slT (dv 2) (o_some (dv 3)) o_none))))))
    (ob_one (os_if (t_eq hr.units (dv 4) d_int)
    (ob_frz 2 (ob_one (os_lift (s_set (i := 2) sc_law_spoilt.nd rfl (Or.inl rfl) (d_cat (d_slT (dv 2) (o_some (dv 3)) o_none) (d_slT (dv 2) o_none (o_some (dv 3))))))))
    (ob_one (os_if (t_eq hr.units (dv 4) d_int)
    (ob_frz 2 (ob_one (os_lift (s_set (i := 2) sc_law_spoilt.nd rfl (Or.inl rfl) (d_cat (d_cat (d_slT (dv 2) o_none (o_some (dv 3))) (d_lst (a_cons (d_fn passO hr D_law_odd (a_cons (d_slT (dv 1) (o_some d_int) o_none) a_nil) (by omega)) a_nil))) (d_slT (dv 2) (o_some (dv 3)) o_none))))))
    (ob_one (os_if (t_gt (dv 4) d_int)
    (ob_cons (os_rec (i := 2) (j := 3) passO hr D_rec (d_slT (dv 1) (o_some d_int) o_none) (by omega))
    (ob_frz 2 ob_nil))
    (ob_frz 2 ob_nil))))))))))
    (ob_cons (os_lift (s_if (t_eq hr.units (d_isi Z.isinstance Z.tuple (by decide +kernel) (dv 0)) (d_eq hr.units (dv 4) d_int)) (b_one (s_ret (dv 2))) b_nil))
    (ob_one (os_lift (s_ret (d_tuple Z.tuple (dv 2))))))))))),
    pure_spoN n⟩)

abbrev s_law_from : Stmt := topS 15
theorem sc_law_from : FnScope N_law_from ["thing", "least", "top"] (defScope s_law_from) := ⟨rfl, rfl, rfl, by decide +kernel, rfl, by decide +kernel, by decide +kernel⟩
theorem ok_law_from (Z : Bl mg) (T : DefT K mg "_law_from" s_law_from) : Def P w K mg base 1 "_law_from" ["thing", "least", "top"] sp_law_from := by
  exact def_mk T sc_law_from (fun _ _ _ _ _ _ us hl => match us, hl with | [_, _, _], _ => rfl) len_law_from (fun f cdv A outer s H E hr => ⟨t_law_from,
    (b_one (s_ret (d_and (d_isi Z.isinstance Z.int (by decide +kernel) (dv 0)) (d_and (d_not (d_isi Z.isinstance Z.bool (by decide +kernel) (dv 0))) (d_and (d_le (dv 1) (dv 0)) (d_one (d_le (dv 0) (dv 2)))))))),
    pure_law_from⟩)

abbrev s_law_bag : Stmt := topS 16
theorem sc_law_bag : FnScope ["script", "k"] ["script", "k"] (defScope s_law_bag) := ⟨rfl, rfl, rfl, by decide +kernel, rfl, by decide +kernel, by decide +kernel⟩
theorem ok_law_bag (T : DefT K mg "_law_bag" s_law_bag) (D_law_draws : DefN P w K mg base 1 "_law_draws" ["cell", "many", "size"] sp_law_draws) (D_law_cell_at : Def P w K mg base 1 "_law_cell_at" ["script", "k"] sp_law_cell_at) : DefBag P w K mg base 2 := by
  obtain ⟨f, fd, F, hm⟩ := T
  obtain ⟨f1, fd1, F1, m1, k1, b1⟩ := D_law_draws
  obtain ⟨f2, fd2, F2, m2, k2, b2⟩ := D_law_cell_at
  refine ⟨f, fd, F.okX sc_law_bag (fun vs H Q E h => ?_) (fun cdv A outer s H vs Q E hr h => ⟨t_bag K E, ?_, read_bag h⟩), hm, F.kp, F.binds fun _ _ _ _ _ _ us hl => match us, hl with | [_, _], _ => rfl⟩
  · obtain ⟨a, xs, i, rfl, _⟩ := h; rfl
  · exact pss_one (ps_ret (pe_lst (pa_cons (pe_call F1 hr (by rfl) m1 k1 b1 .nil passO (pa_cons (pe_call F2 hr (by rfl) m2 k2 b2 .nil passO (pa_cons (pv 0) (pa_cons (pv 1) pa_nil))) (pa_cons pe_int (pa_cons pe_int pa_nil)))) (pa_cons pe_int pa_nil))))

abbrev s_law_bags : Stmt := topS 17
theorem sc_law_bags : FnScope N_law_bags ["script", "limit"] (defScope s_law_bags) := ⟨rfl, rfl, rfl, by decide +kernel, rfl, by decide +kernel, by decide +kernel⟩
theorem ok_law_bags (Z : Bl mg) (T : DefT K mg "_law_bags" s_law_bags) (DB : DefBag P w K mg base 2) : DefBags P w K mg base 3 := by
  obtain ⟨f, fd, F, hm⟩ := T
  obtain ⟨f1, fd1, F1, m1, k1, b1⟩ := DB
  refine ⟨f, fd, F.okX sc_law_bags (fun vs H Q E h => ?_) (fun cdv A outer s H vs Q E hr h => ?_), hm, F.kp, F.binds fun _ _ _ _ _ _ us hl => match us, hl with | [_, _], _ => rfl⟩
  · obtain ⟨a, xs, i, rfl, _⟩ := h; rfl
  · obtain ⟨wi, p1, q1⟩ : PDI (cxOf (L2.CX P w) P w K mg base N_law_bags "_law_bags" (defScope s_law_bags) f cdv A outer s H E) E _ _ di_bags := (i_rng1 (pos := _) Z.range (d_max rfl Z.max d_int (d_min rfl Z.min (dv 1) (d_len Z.len (dv 0)))))
    exact ⟨_, pss_one (ps_ret (pe_lc (own := [("k", 2)]) rfl sc_law_bags.nd p1 (blkOk_by (own := [("k", 2)]) (N := N_law_bags) (sc := defScope s_law_bags) (by decide +kernel)) (fun _ _ _ _ _ => pg_name (i := 2) sc_law_bags.nd rfl (Or.inl rfl)) (fun _ _ _ _ _ => pts_nil)
      (fun _ _ _ _ _ => pe_call F1 hr (by rfl) m1 k1 b1 .nil passL (pa_cons (pv 0) (pa_cons (pv 2) pa_nil))))), read_bags q1 h⟩

abbrev s_law_take : Stmt := topS 18
theorem sc_law_take : FnScope N_law_take ["bag", "many"] (defScope s_law_take) := ⟨rfl, rfl, rfl, by decide +kernel, rfl, by decide +kernel, by decide +kernel⟩
theorem ok_law_take (Z : Bl mg) (T : DefT K mg "_law_take" s_law_take) : Def P w K mg base 1 "_law_take" ["bag", "many"] sp_law_take := by
  obtain ⟨f, fd, F, hm⟩ := T
  refine ⟨f, fd, F.okX sc_law_take (fun vs H Q E h => ?_) (fun cdv A outer s H vs Q E hr h => ⟨t_take K, ?_, read_take h⟩), hm, F.kp, F.binds fun _ _ _ _ _ _ us hl => match us, hl with | [_, _], _ => rfl⟩
  · obtain ⟨B, M, ds, k, kx, _, r, hd, _⟩ := h
    rw [RDs.len r]; exact len_law_take _ _ _ hd
  · exact pss_cons (ps_asg (pe_op op_add (pe_ix ix_list (pv 0) pe_int (fun _ _ => rfl)) pe_int) (pg_sub (pv 0) pe_int set_list))
      (pss_one (ps_ret (pe_op op_mod (pe_ix ix_list (pe_ix ix_list (pv 0) pe_int (fun _ _ => rfl)) (pe_op op_mod (pe_ix ix_list (pv 0) pe_int (fun _ _ => rfl)) (pe_callB call_len_seq (by rfl) Z.len (by decide +kernel) (pa_cons (pe_ix ix_list (pv 0) pe_int (fun _ _ => rfl)) pa_nil))) (fun _ _ => rfl)) (pv 1))))

abbrev s_law_far_draw : Stmt := topS 19
theorem sc_law_far_draw : FnScope N_law_far_draw ["bag", "many"] (defScope s_law_far_draw) := ⟨rfl, rfl, rfl, by decide +kernel, rfl, by decide +kernel, by decide +kernel⟩
theorem ok_law_far_draw (Z : Bl mg) (T : DefT K mg "_law_far_draw" s_law_far_draw) (D_law_take : Def P w K mg base 1 "_law_take" ["bag", "many"] sp_law_take) : Def P w K mg base 2 "_law_far_draw" ["bag", "many"] sp_law_far_draw := by
  exact def_mk T sc_law_far_draw (fun _ _ _ _ _ _ us hl => match us, hl with | [_, _], _ => rfl) len_law_far_draw (fun f cdv A outer s H E hr => ⟨t_law_far_draw,
    (b_cons (s_par (i := 2) (j := 3) rfl sc_law_far_draw.nd rfl rfl (by decide) rfl rfl d_int (dv 1))
    (b_cons (s_while passF (t_gt (dv 3) d_int)
    (b_one (s_par (i := 2) (j := 3) rfl sc_law_far_draw.nd rfl rfl (by decide) rfl rfl (d_add (d_mulS d_int (dv 2)) (d_fn passO hr D_law_take (a_cons (dv 0) (a_cons d_int a_nil)))) (d_div (dv 3) d_int))))
    (b_one (s_ret (d_ix (d_lst (a_cons (d_mod (dv 2) (dv 1)) (a_cons d_int (a_cons (d_sub (dv 1) d_int) (a_cons (d_mod (dv 2) (dv 1)) a_nil))))) (d_fn passO hr D_law_take (a_cons (dv 0) (a_cons d_int a_nil))) (fun _ _ => rfl)))))),
    pure_law_far_draw⟩)

abbrev s_law_common : Stmt := topS 20
theorem sc_law_common : FnScope N_law_common ["one", "other"] (defScope s_law_common) := ⟨rfl, rfl, rfl, by decide +kernel, rfl, by decide +kernel, by decide +kernel⟩
theorem ok_law_common (Z : Bl mg) (T : DefT K mg "_law_common" s_law_common) : Def P w K mg base 1 "_law_common" ["one", "other"] sp_law_common := by
  exact def_mk T sc_law_common (fun _ _ _ _ _ _ us hl => match us, hl with | [_, _], _ => rfl) len_law_common (fun f cdv A outer s H E hr => ⟨t_law_common,
    (b_cons (s_while passF (t_ne hr.units (dv 1) d_int)
    (b_one (s_par (i := 0) (j := 1) rfl sc_law_common.nd rfl rfl (by decide) rfl rfl (dv 1) (d_mod (dv 0) (dv 1)))))
    (b_one (s_ret (dv 0)))),
    pure_law_common⟩)

abbrev s_law_odd : Stmt := topS 21
theorem sc_law_odd : FnScope N_law_odd ["picks"] (defScope s_law_odd) := ⟨rfl, rfl, rfl, by decide +kernel, rfl, by decide +kernel, by decide +kernel⟩
theorem ok_law_odd (Z : Bl mg) (T : DefT K mg "_law_odd" s_law_odd) : Def P w K mg base 1 "_law_odd" ["picks"] sp_law_odd := by
  exact def_mk T sc_law_odd (fun _ _ _ _ _ _ us hl => match us, hl with | [_], _ => rfl) len_law_odd (fun f cdv A outer s H E hr => ⟨t_law_odd,
    (b_cons (s_set (i := 1) sc_law_odd.nd rfl (Or.inl rfl) (d_lst (a_cons d_non (a_cons d_bl (a_cons d_bl (a_cons (d_neg d_int) (a_cons d_int (a_cons d_int (a_cons d_int (a_cons d_int (a_cons (d_pow d_int d_int) a_nil)))))))))))
    (b_cons (s_set (i := 1) sc_law_odd.nd rfl (Or.inl rfl) (d_cat (dv 1) (d_lst (a_cons d_str (a_cons d_str (a_cons d_str (a_cons d_str (a_cons (d_tup (a_cons d_int (a_cons d_int a_nil))) (a_cons (d_tup (a_cons d_int (a_cons d_int a_nil))) (a_cons (d_tup (a_cons d_int (a_cons d_int a_nil))) (a_cons (d_tup (a_cons d_int (a_cons d_int a_nil))) a_nil)))))))))))
    (b_cons (s_set (i := 1) sc_law_odd.nd rfl (Or.inl rfl) (d_cat (dv 1) (d_lst (a_cons (d_tup a_nil) (a_cons (d_lst a_nil) (a_cons (d_tup (a_cons d_int (a_cons d_int a_nil))) (a_cons (d_tup (a_cons (d_neg d_int) (a_cons d_int a_nil))) (a_cons (d_tup (a_cons d_int (a_cons d_int a_nil))) (a_cons (d_lst (a_cons d_int (a_cons d_int a_nil))) a_nil)))))))))
    (b_cons (s_set (i := 1) sc_law_odd.nd rfl (Or.inl rfl) (d_cat (dv 1) (d_lst (a_cons (d_tup (a_cons (d_tup (a_cons d_int (a_cons d_int a_nil))) (a_cons (d_tup (a_cons d_int (a_cons d_int a_nil))) a_nil))) (a_cons (d_tup (a_cons d_str a_nil)) (a_cons (d_lst (a_cons d_str a_nil)) (a_cons (d_tup (a_cons d_str a_nil)) (a_cons (d_tup (a_cons d_non a_nil)) a_nil))))))))
    (b_one (s_ret (d_ix (dv 1) (d_mod (d_add (d_ix (dv 0) d_int (fun _ _ => rfl)) (d_mul d_int (d_ix (dv 0) d_int (fun _ _ => rfl)))) (d_len Z.len (dv 1))) (fun _ _ => rfl)))))))),
    pure_law_odd⟩)

abbrev s_law_made : Stmt := topS 22
theorem sc_law_made : FnScope N_law_made ["top", "bottom"] (defScope s_law_made) := ⟨rfl, rfl, rfl, by decide +kernel, rfl, by decide +kernel, by decide +kernel⟩
theorem ok_law_made (Z : Bl mg) (T : DefT K mg "_law_made" s_law_made) (D_law_common : Def P w K mg base 1 "_law_common" ["one", "other"] sp_law_common) : Def P w K mg base 2 "_law_made" ["top", "bottom"] sp_law_made := by
  exact def_mk T sc_law_made (fun _ _ _ _ _ _ us hl => match us, hl with | [_, _], _ => rfl) len_law_made (fun f cdv A outer s H E hr => ⟨t_law_made,
    (b_cons (s_set (i := 2) sc_law_made.nd rfl (Or.inl rfl) (d_fn passO hr D_law_common (a_cons (d_abs Z.abs (dv 0)) (a_cons (dv 1) a_nil))))
    (b_one (s_ret (d_tup (a_cons (d_div (dv 0) (dv 2)) (a_cons (d_div (dv 1) (dv 2)) a_nil)))))),
    pure_law_made⟩)

abbrev s_law_plus : Stmt := topS 23
theorem sc_law_plus : FnScope N_law_plus ["one", "other"] (defScope s_law_plus) := ⟨rfl, rfl, rfl, by decide +kernel, rfl, by decide +kernel, by decide +kernel⟩
theorem ok_law_plus (Z : Bl mg) (T : DefT K mg "_law_plus" s_law_plus) (D_law_made : Def P w K mg base 2 "_law_made" ["top", "bottom"] sp_law_made) : Def P w K mg base 3 "_law_plus" ["one", "other"] sp_law_plus := by
  exact def_mk T sc_law_plus (fun _ _ _ _ _ _ us hl => match us, hl with | [_, _], _ => rfl) len_law_plus (fun f cdv A outer s H E hr => ⟨t_law_plus,
    (b_one (s_ret (d_fn passO hr D_law_made (a_cons (d_add (d_mul (d_ix (dv 0) d_int (fun _ _ => rfl)) (d_ix (dv 1) d_int (fun _ _ => rfl))) (d_mul (d_ix (dv 1) d_int (fun _ _ => rfl)) (d_ix (dv 0) d_int (fun _ _ => rfl)))) (a_cons (d_mul (d_ix (dv 0) d_int (fun _ _ => rfl)) (d_ix (dv 1) d_int (fun _ _ => rfl))) a_nil))))),
    pure_law_plus⟩)

abbrev s_law_minus : Stmt := topS 24
theorem sc_law_minus : FnScope N_law_minus ["one", "other"] (defScope s_law_minus) := ⟨rfl, rfl, rfl, by decide +kernel, rfl, by decide +kernel, by decide +kernel⟩
theorem ok_law_minus (Z : Bl mg) (T : DefT K mg "_law_minus" s_law_minus) (D_law_made : Def P w K mg base 2 "_law_made" ["top", "bottom"] sp_law_made) : Def P w K mg base 3 "_law_minus" ["one", "other"] sp_law_minus := by
  exact def_mk T sc_law_minus (fun _ _ _ _ _ _ us hl => match us, hl with | [_, _], _ => rfl) len_law_minus (fun f cdv A outer s H E hr => ⟨t_law_minus,
    (b_one (s_ret (d_fn passO hr D_law_made (a_cons (d_sub (d_mul (d_ix (dv 0) d_int (fun _ _ => rfl)) (d_ix (dv 1) d_int (fun _ _ => rfl))) (d_mul (d_ix (dv 1) d_int (fun _ _ => rfl)) (d_ix (dv 0) d_int (fun _ _ => rfl)))) (a_cons (d_mul (d_ix (dv 0) d_int (fun _ _ => rfl)) (d_ix (dv 1) d_int (fun _ _ => rfl))) a_nil))))),
    pure_law_minus⟩)

abbrev s_law_below : Stmt := topS 25
theorem sc_law_below : FnScope N_law_below ["one", "other"] (defScope s_law_below) := ⟨rfl, rfl, rfl, by decide +kernel, rfl, by decide +kernel, by decide +kernel⟩
theorem ok_law_below (Z : Bl mg) (T : DefT K mg "_law_below" s_law_below) : Def P w K mg base 1 "_law_below" ["one", "other"] sp_law_below := by
  exact def_mk T sc_law_below (fun _ _ _ _ _ _ us hl => match us, hl with | [_, _], _ => rfl) len_law_below (fun f cdv A outer s H E hr => ⟨t_law_below,
    (b_one (s_ret (d_lt (d_mul (d_ix (dv 0) d_int (fun _ _ => rfl)) (d_ix (dv 1) d_int (fun _ _ => rfl))) (d_mul (d_ix (dv 1) d_int (fun _ _ => rfl)) (d_ix (dv 0) d_int (fun _ _ => rfl)))))),
    pure_law_below⟩)

abbrev s_law_a_part : Stmt := topS 26
theorem sc_law_a_part : FnScope N_law_a_part ["bag"] (defScope s_law_a_part) := ⟨rfl, rfl, rfl, by decide +kernel, rfl, by decide +kernel, by decide +kernel⟩
theorem ok_law_a_part (Z : Bl mg) (T : DefT K mg "_law_a_part" s_law_a_part) (D_law_take : Def P w K mg base 1 "_law_take" ["bag", "many"] sp_law_take) (D_law_made : Def P w K mg base 2 "_law_made" ["top", "bottom"] sp_law_made) : Def P w K mg base 3 "_law_a_part" ["bag"] sp_law_a_part := by
  exact def_mk T sc_law_a_part (fun _ _ _ _ _ _ us hl => match us, hl with | [_], _ => rfl) len_law_a_part (fun f cdv A outer s H E hr => ⟨t_law_a_part,
    (b_cons (s_set (i := 1) sc_law_a_part.nd rfl (Or.inl rfl) (d_add d_int (d_fn passO hr D_law_take (a_cons (dv 0) (a_cons d_int a_nil)))))
    (b_one (s_ret (d_fn passO hr D_law_made (a_cons (d_add d_int (d_fn passO hr D_law_take (a_cons (dv 0) (a_cons (d_sub (dv 1) d_int) a_nil)))) (a_cons (dv 1) a_nil)))))),
    pure_law_a_part⟩)

abbrev s_law_two_parts : Stmt := topS 27
theorem sc_law_two_parts : FnScope N_law_two_parts ["bag"] (defScope s_law_two_parts) := ⟨rfl, rfl, rfl, by decide +kernel, rfl, by decide +kernel, by decide +kernel⟩
theorem ok_law_two_parts (Z : Bl mg) (T : DefT K mg "_law_two_parts" s_law_two_parts) (D_law_a_part : Def P w K mg base 3 "_law_a_part" ["bag"] sp_law_a_part) (D_law_take : Def P w K mg base 1 "_law_take" ["bag", "many"] sp_law_take) (D_law_minus : Def P w K mg base 3 "_law_minus" ["one", "other"] sp_law_minus) (D_law_below : Def P w K mg base 1 "_law_below" ["one", "other"] sp_law_below) (D_law_plus : Def P w K mg base 3 "_law_plus" ["one", "other"] sp_law_plus) : Def P w K mg base 4 "_law_two_parts" ["bag"] sp_law_two_parts := by
  exact def_mk T sc_law_two_parts (fun _ _ _ _ _ _ us hl => match us, hl with | [_], _ => rfl) len_law_two_parts (fun f cdv A outer s H E hr => ⟨t_law_two_parts,
    (b_cons (s_par (i := 1) (j := 2) rfl sc_law_two_parts.nd rfl rfl (by decide) rfl rfl (d_fn passO hr D_law_a_part (a_cons (dv 0) a_nil)) (d_fn passO hr D_law_a_part (a_cons (dv 0) a_nil)))
    (b_cons (s_if (t_eq hr.units (d_fn passO hr D_law_take (a_cons (dv 0) (a_cons d_int a_nil))) d_int) (b_one (s_set (i := 2) sc_law_two_parts.nd rfl (Or.inl rfl) (d_fn passO hr D_law_minus (a_cons (d_tup (a_cons d_int (a_cons d_int a_nil))) (a_cons (dv 1) a_nil))))) b_nil)
    (b_cons (s_if (t_val (d_fn passO hr D_law_below (a_cons (d_fn passO hr D_law_plus (a_cons (dv 1) (a_cons (dv 2) a_nil))) (a_cons (d_tup (a_cons d_int (a_cons d_int a_nil))) a_nil)))) (b_one (s_par (i := 1) (j := 2) rfl sc_law_two_parts.nd rfl rfl (by decide) rfl rfl (d_fn passO hr D_law_minus (a_cons (d_tup (a_cons d_int (a_cons d_int a_nil))) (a_cons (dv 1) a_nil))) (d_fn passO hr D_law_minus (a_cons (d_tup (a_cons d_int (a_cons d_int a_nil))) (a_cons (dv 2) a_nil))))) b_nil)
    (b_one (s_ret (d_tup (a_cons (dv 1) (a_cons (dv 2) a_nil)))))))),
    pure_law_two_parts⟩)

abbrev s_law_a_share : Stmt := topS 28
theorem sc_law_a_share : FnScope N_law_a_share ["bag"] (defScope s_law_a_share) := ⟨rfl, rfl, rfl, by decide +kernel, rfl, by decide +kernel, by decide +kernel⟩
theorem ok_law_a_share (Z : Bl mg) (T : DefT K mg "_law_a_share" s_law_a_share) (D_law_far_draw : Def P w K mg base 2 "_law_far_draw" ["bag", "many"] sp_law_far_draw) (D_law_take : Def P w K mg base 1 "_law_take" ["bag", "many"] sp_law_take) (D_law_made : Def P w K mg base 2 "_law_made" ["top", "bottom"] sp_law_made) : Def P w K mg base 3 "_law_a_share" ["bag"] sp_law_a_share := by
  exact def_mk T sc_law_a_share (fun _ _ _ _ _ _ us hl => match us, hl with | [_], _ => rfl) len_law_a_share (fun f cdv A outer s H E hr => ⟨t_law_a_share,
    (b_cons (s_set (i := 1) sc_law_a_share.nd rfl (Or.inl rfl) (d_add d_int (d_ix (d_lst (a_cons d_int (a_cons (d_fn passO hr D_law_take (a_cons (dv 0) (a_cons d_int a_nil))) (a_cons (d_fn passO hr D_law_far_draw (a_cons (dv 0) (a_cons (d_pow d_int d_int) a_nil))) a_nil)))) (d_fn passO hr D_law_take (a_cons (dv 0) (a_cons d_int a_nil))) (fun _ _ => rfl))))
    (b_one (s_ret (d_fn passO hr D_law_made (a_cons (d_fn passO hr D_law_far_draw (a_cons (dv 0) (a_cons (d_add (dv 1) d_int) a_nil))) (a_cons (dv 1) a_nil)))))),
    pure_law_a_share⟩)

abbrev s_law_a_row : Stmt := topS 29
theorem sc_law_a_row : FnScope N_law_a_row ["bag", "most"] (defScope s_law_a_row) := ⟨rfl, rfl, rfl, by decide +kernel, rfl, by decide +kernel, by decide +kernel⟩
theorem ok_law_a_row (Z : Bl mg) (T : DefT K mg "_law_a_row" s_law_a_row) (D_law_take : Def P w K mg base 1 "_law_take" ["bag", "many"] sp_law_take) : Def P w K mg base 2 "_law_a_row" ["bag", "most"] sp_law_a_row := by
  obtain ⟨f_law_take, fd_law_take, F_law_take⟩ := id D_law_take
  exact def_mk T sc_law_a_row (fun _ _ _ _ _ _ us hl => match us, hl with | [_, _], _ => rfl) len_law_a_row (fun f cdv A outer s H E hr => ⟨t_law_a_row,
    (b_one (s_ret (d_tuple Z.tuple (d_lc (own := [("turn", 2)]) rfl sc_law_a_row.nd (i_rng1 Z.range (d_fn passO hr D_law_take (a_cons (dv 0) (a_cons (d_add (dv 1) d_int) a_nil)))) (blkOk_by (own := [("turn", 2)]) (N := N_law_a_row) (sc := defScope s_law_a_row) (by decide +kernel))
      (fun _ _ _ _ _ => pg_name (i := 2) sc_law_a_row.nd rfl (Or.inl rfl))
      (fun _ _ _ _ _ => pts_nil)
      (fun _ _ _ _ _ => (pe_ix ix_seq (pe_lst (pa_cons pe_str (pa_cons pe_str pa_nil))) (pe_call (F_law_take.1.mono (k := 1) (by decide)) hr (by rfl) F_law_take.2.1 F_law_take.2.2.1 F_law_take.2.2.2 .nil passL (pa_cons (pv 0) (pa_cons pe_int pa_nil))) (fun _ _ => rfl)))
      (sgk_name 2) st_yes (se_op sr_ix (se_lst (sa_cons se_str (sa_cons se_str sa_nil)) (by decide)) (se_call (sa_cons (se_var 0) (sa_cons se_int sa_nil)))))))),
    pure_law_a_row⟩)

abbrev s_law_drawn : Stmt := topS 30
theorem sc_law_drawn : FnScope N_law_drawn ["bag", "most"] (defScope s_law_drawn) := ⟨rfl, rfl, rfl, by decide +kernel, rfl, by decide +kernel, by decide +kernel⟩
theorem ok_law_drawn (Z : Bl mg) (T : DefT K mg "_law_drawn" s_law_drawn) (D_law_two_parts : Def P w K mg base 4 "_law_two_parts" ["bag"] sp_law_two_parts) (D_law_a_share : Def P w K mg base 3 "_law_a_share" ["bag"] sp_law_a_share) (D_law_a_row : Def P w K mg base 2 "_law_a_row" ["bag", "most"] sp_law_a_row) : Def P w K mg base 5 "_law_drawn" ["bag", "most"] sp_law_drawn := by
  exact def_mk T sc_law_drawn (fun _ _ _ _ _ _ us hl => match us, hl with | [_, _], _ => rfl) len_law_drawn (fun f cdv A outer s H E hr => ⟨t_law_drawn,
    (b_cons (s_set (i := 2) sc_law_drawn.nd rfl (Or.inl rfl) (d_fn passO hr D_law_two_parts (a_cons (dv 0) a_nil)))
    (b_cons (s_set (i := 3) sc_law_drawn.nd rfl (Or.inl rfl) (d_fn passO hr D_law_a_share (a_cons (dv 0) a_nil)))
    (b_one (s_ret (d_tup (a_cons (dv 2) (a_cons (dv 3) (a_cons (d_fn passO hr D_law_a_row (a_cons (dv 0) (a_cons (dv 1) a_nil))) a_nil)))))))),
    pure_law_drawn⟩)

abbrev s_law_is_share : Stmt := topS 31
theorem sc_law_is_share : FnScope N_law_is_share ["thing"] (defScope s_law_is_share) := ⟨rfl, rfl, rfl, by decide +kernel, rfl, by decide +kernel, by decide +kernel⟩
theorem ok_law_is_share (Z : Bl mg) (T : DefT K mg "_law_is_share" s_law_is_share) (D_law_from : Def P w K mg base 1 "_law_from" ["thing", "least", "top"] sp_law_from) (D_law_common : Def P w K mg base 1 "_law_common" ["one", "other"] sp_law_common) : Def P w K mg base 2 "_law_is_share" ["thing"] sp_law_is_share := by
  exact def_mk T sc_law_is_share (fun _ _ _ _ _ _ us hl => match us, hl with | [_], _ => rfl) len_law_is_share (fun f cdv A outer s H E hr => ⟨t_law_is_share,
    (b_cons (s_if (t_w (w_or (t_not (t_val (d_isi Z.isinstance Z.tuple (by decide +kernel) (dv 0)))) (w_or (t_ne hr.units (d_len Z.len (dv 0)) d_int) (w_or1 (t_not (t_val (d_fn passO hr D_law_from (a_cons (d_ix (dv 0) d_int (fun _ _ => rfl)) (a_cons d_int (a_cons (d_sub (d_pow d_int d_int) d_int) a_nil)))))))))) (b_one (s_ret d_bl)) b_nil)
    (b_one (s_ret (d_and (d_fn passO hr D_law_from (a_cons (d_ix (dv 0) d_int (fun _ _ => rfl)) (a_cons d_int (a_cons (d_ix (dv 0) d_int (fun _ _ => rfl)) a_nil)))) (d_one (d_eq hr.units (d_fn passO hr D_law_common (a_cons (d_ix (dv 0) d_int (fun _ _ => rfl)) (a_cons (d_ix (dv 0) d_int (fun _ _ => rfl)) a_nil))) d_int)))))),
    pure_law_is_share⟩)

abbrev s_law_are_parts : Stmt := topS 32
theorem sc_law_are_parts : FnScope N_law_are_parts ["thing"] (defScope s_law_are_parts) := ⟨rfl, rfl, rfl, by decide +kernel, rfl, by decide +kernel, by decide +kernel⟩
theorem ok_law_are_parts (Z : Bl mg) (T : DefT K mg "_law_are_parts" s_law_are_parts) (D_law_is_share : Def P w K mg base 2 "_law_is_share" ["thing"] sp_law_is_share) : Def P w K mg base 3 "_law_are_parts" ["thing"] sp_law_are_parts := by
  obtain ⟨f_law_is_share, fd_law_is_share, F_law_is_share⟩ := id D_law_is_share
  exact def_mk T sc_law_are_parts (fun _ _ _ _ _ _ us hl => match us, hl with | [_], _ => rfl) len_law_are_parts (fun f cdv A outer s H E hr => ⟨t_law_are_parts,
    (b_cons (s_if (t_w (w_or (t_not (t_val (d_isi Z.isinstance Z.tuple (by decide +kernel) (dv 0)))) (w_or (t_ne hr.units (d_len Z.len (dv 0)) d_int) (w_or1 (t_not (t_val (d_all rfl Z.all (d_lc (own := [("one", 5)]) rfl sc_law_are_parts.nd (i_tup (dv 0)) (blkOk_by (own := [("one", 5)]) (N := N_law_are_parts) (sc := defScope s_law_are_parts) (by decide +kernel))
      (fun _ _ _ _ _ => pg_name (i := 5) sc_law_are_parts.nd rfl (Or.inl rfl))
      (fun _ _ _ _ _ => pts_nil)
      (fun _ _ _ _ _ => (pe_call (F_law_is_share.1.mono (k := 2) (by decide)) hr (by rfl) F_law_is_share.2.1 F_law_is_share.2.2.1 F_law_is_share.2.2.2 .nil passL (pa_cons (pv 5) pa_nil)))
      (sgk_name 5) st_yes (se_call (sa_cons (se_var 5) sa_nil)))))))))) (b_one (s_ret d_bl)) b_nil)
    (b_cons (s_if (t_not (t_val (d_all rfl Z.all (d_lc (own := [("one", 5)]) rfl sc_law_are_parts.nd (i_tup (dv 0)) (blkOk_by (own := [("one", 5)]) (N := N_law_are_parts) (sc := defScope s_law_are_parts) (by decide +kernel))
      (fun _ _ _ _ _ => pg_name (i := 5) sc_law_are_parts.nd rfl (Or.inl rfl))
      (fun _ _ _ _ _ => pts_nil)
      (fun _ _ _ _ _ => (pe_chain3 op_lt op_lt op_le pe_int (pe_ix ix_seq (pv 5) pe_int (fun _ _ => rfl)) (pe_ix ix_seq (pv 5) pe_int (fun _ _ => rfl)) pe_int))
      (sgk_name 5) st_yes (se_chain3 sr_lt sr_lt sr_le se_int (se_op sr_ix (se_var 5) se_int) (se_op sr_ix (se_var 5) se_int) se_int))))) (b_one (s_ret d_bl)) b_nil)
    (b_cons (s_asg (dv 0) (g_tup rfl (gs_cons (g_tup rfl (gs_cons (g_name (i := 1) sc_law_are_parts.nd rfl (Or.inl rfl)) (gs_cons (g_name (i := 2) sc_law_are_parts.nd rfl (Or.inl rfl)) gs_nil))) (gs_cons (g_tup rfl (gs_cons (g_name (i := 3) sc_law_are_parts.nd rfl (Or.inl rfl)) (gs_cons (g_name (i := 4) sc_law_are_parts.nd rfl (Or.inl rfl)) gs_nil))) gs_nil))))
    (b_one (s_ret (d_ge (d_add (d_mul (dv 1) (dv 4)) (d_mul (dv 3) (dv 2))) (d_mul (dv 2) (dv 4)))))))),
    pure_law_are_parts⟩)

abbrev s_law_is_row : Stmt := topS 33
theorem sc_law_is_row : FnScope N_law_is_row ["thing"] (defScope s_law_is_row) := ⟨rfl, rfl, rfl, by decide +kernel, rfl, by decide +kernel, by decide +kernel⟩
theorem ok_law_is_row (Z : Bl mg) (T : DefT K mg "_law_is_row" s_law_is_row) : Def P w K mg base 1 "_law_is_row" ["thing"] sp_law_is_row := by
  exact def_mk T sc_law_is_row (fun _ _ _ _ _ _ us hl => match us, hl with | [_], _ => rfl) len_law_is_row (fun f cdv A outer s H E hr => ⟨t_law_is_row,
    (b_cons (s_if (t_w (w_or (t_not (t_val (d_isi Z.isinstance Z.tuple (by decide +kernel) (dv 0)))) (w_or1 (t_gt (d_len Z.len (dv 0)) d_int)))) (b_one (s_ret d_bl)) b_nil)
    (b_one (s_ret (d_all rfl Z.all (d_lc (own := [("pour", 1)]) rfl sc_law_is_row.nd (i_tup (dv 0)) (blkOk_by (own := [("pour", 1)]) (N := N_law_is_row) (sc := defScope s_law_is_row) (by decide +kernel))
      (fun _ _ _ _ _ => pg_name (i := 1) sc_law_is_row.nd rfl (Or.inl rfl))
      (fun _ _ _ _ _ => pts_nil)
      (fun _ _ _ _ _ => (pe_and (pe_callB call_isi (by rfl) Z.isinstance (by decide +kernel) (pa_cons (pv 1) (pa_cons (pe_bltn (v := .ty "str") (by rfl) Z.str (by decide +kernel) rfl) pa_nil))) (pe_one (pe_cmpR op_in_seq (pv 1) (pe_lst (pa_cons pe_str (pa_cons pe_str pa_nil))) (by with_unfolding_all rfl)))))
      (sgk_name 1) st_yes (se_and (se_isi (se_var 1)) (se_op sr_in (se_var 1) (se_lst (sa_cons se_str (sa_cons se_str sa_nil)) (by decide))))))))),
    pure_law_is_row⟩)

abbrev s_law : Stmt := topS 34
theorem sc_law_k01 : FnScope N_law_k01 ["script"] (defScope s_law) := ⟨rfl, rfl, rfl, by decide +kernel, rfl, by decide +kernel, by decide +kernel⟩
theorem ok_law {f : Addr} {fd : FuncData} (F : Fun K "law" "law" s_law f fd) (Z : Bl mg) (D_law_bags : DefBags P w K mg base 3) (D_law_drawn : Def P w K mg base 5 "_law_drawn" ["bag", "most"] sp_law_drawn) (D_law_spoilt : Def P w K mg base 6 "_law_spoilt" ["thing", "picks"] sp_law_spoilt) (D_law_odd : Def P w K mg base 1 "_law_odd" ["picks"] sp_law_odd) (D_are_parts : Def P w K mg base 4 "are_parts" ["thing"] sp_are_parts) (D_law_are_parts : Def P w K mg base 3 "_law_are_parts" ["thing"] sp_law_are_parts) (D_is_share : Def P w K mg base 2 "is_share" ["thing"] sp_is_share) (D_law_is_share : Def P w K mg base 2 "_law_is_share" ["thing"] sp_law_is_share) (D_is_row : Def P w K mg base 2 "is_row" ["thing"] sp_is_row) (D_law_is_row : Def P w K mg base 1 "_law_is_row" ["thing"] sp_law_is_row) : FnOk P w K mg base (L2.CX P w) 7 f fd ["script"] (spLaw K) := by
  refine F.okX sc_law_k01 (fun vs H Q E h => ?_) (fun cdv A outer s H vs Q E hr h => ?_)
  · obtain ⟨a, ns, rfl, _⟩ := h; rfl
  · obtain ⟨ts, p1, q1⟩ : PDB0 (cxOf (L2.CX P w) P w K mg base N_law_k01 "law" (defScope s_law) f cdv A outer s H E) E (defBody s_law) (t_law_k01) :=
      (b0_cons (s0_bags (n := 10) (is := 0) (ib := 1) passO passF hr D_law_bags
    (ob_lift (b_cons (s_asg (d_fn passO hr D_law_drawn (a_cons (dv 1) (a_cons d_int a_nil))) (g_tup rfl (gs_cons (g_name (i := 6) sc_law_k01.nd rfl (Or.inl rfl)) (gs_cons (g_name (i := 7) sc_law_k01.nd rfl (Or.inl rfl)) (gs_cons (g_name (i := 8) sc_law_k01.nd rfl (Or.inl rfl)) gs_nil)))))
    (b_cons (s_set (i := 2) sc_law_k01.nd rfl (Or.inl rfl) (d_lst (a_cons (dv 6) (a_cons (dv 7) (a_cons (dv 8) (a_cons (d_rev (dv 6)) (a_cons (d_list Z.list (dv 6)) (a_cons (d_list Z.list (dv 7)) (a_cons (d_list Z.list (dv 8)) (a_cons (d_cat (dv 8) (dv 8)) (a_cons (d_rev (dv 7)) a_nil)))))))))))
    (b_cons (s_for passF rfl (i_tup (d_tup (a_cons (dv 6) (a_cons (dv 7) (a_cons (dv 8) a_nil))))) (g_name (i := 3) sc_law_k01.nd rfl (Or.inl rfl))
    (b_cons (s_set (i := 9) sc_law_k01.nd rfl (Or.inl rfl) (d_fn passO hr D_law_spoilt (a_cons (dv 3) (a_cons (d_bagSl (i := 1) 201 (by decide)) a_nil))))
    (b_one (s_set (i := 2) sc_law_k01.nd rfl (Or.inl rfl) (d_cat (dv 2) (d_lst (a_cons (dv 9) (a_cons (d_fn passO hr D_law_spoilt (a_cons (dv 9) (a_cons (d_bagSl2 (i := 1) 221 (by decide)) a_nil))) a_nil))))))))
    (b_cons (s_set (i := 4) sc_law_k01.nd rfl (Or.inl rfl) (d_lst (a_cons (d_tup (a_cons d_int (a_cons d_int a_nil))) (a_cons (d_tup (a_cons d_int (a_cons d_int a_nil))) (a_cons (d_tup (a_cons d_int (a_cons d_int a_nil))) (a_cons (d_tup (a_cons d_int (a_cons d_int a_nil))) (a_cons (d_tup (a_cons d_int (a_cons d_int a_nil))) (a_cons (d_tup (a_cons d_int (a_cons d_int a_nil))) (a_cons (d_tup (a_cons (d_neg d_int) (a_cons d_int a_nil))) a_nil)))))))))
    (b_cons (s_set (i := 4) sc_law_k01.nd rfl (Or.inl rfl) (d_cat (dv 4) (d_lst (a_cons (d_tup (a_cons d_int (a_cons d_int a_nil))) (a_cons (d_tup (a_cons d_int (a_cons d_int a_nil))) (a_cons (d_tup (a_cons d_bl (a_cons d_int a_nil))) (a_cons (d_tup (a_cons d_int (a_cons d_int (a_cons d_int a_nil)))) (a_cons d_non (a_cons (d_lst (a_cons d_int (a_cons d_int a_nil))) a_nil)))))))))
    (b_cons (s_for passF rfl (i_lst (d_cat (dv 4) (d_lst (a_cons (d_tup (a_cons (d_sub (d_pow d_int d_int) d_int) (a_cons (d_sub (d_pow d_int d_int) d_int) a_nil))) (a_cons (d_tup (a_cons (d_sub (d_pow d_int d_int) d_int) (a_cons (d_pow d_int d_int) a_nil))) (a_cons (d_tup (a_cons d_int (a_cons d_int a_nil))) (a_cons (d_tup (a_cons d_int (a_cons d_int a_nil))) a_nil))))))) (g_name (i := 5) sc_law_k01.nd rfl (Or.inl rfl))
    (b_one (s_set (i := 2) sc_law_k01.nd rfl (Or.inl rfl) (d_cat (dv 2) (d_lst (a_cons (dv 5) (a_cons (d_tup (a_cons (dv 5) (a_cons (d_tup (a_cons d_int (a_cons d_int a_nil))) a_nil))) (a_cons (d_tup (a_cons (d_ix (dv 6) d_int (fun _ _ => rfl)) (a_cons (dv 5) a_nil))) (a_cons (d_tup (a_cons (d_tup (a_cons d_int (a_cons d_int a_nil))) (a_cons (dv 5) a_nil))) a_nil)))))))))
    (b_cons (s_set (i := 2) sc_law_k01.nd rfl (Or.inl rfl) (d_cat (dv 2) (d_lst (a_cons (d_rep (d_tup (a_cons d_str a_nil)) d_int) (a_cons (d_rep (d_tup (a_cons d_str a_nil)) d_int) (a_cons (d_tup (a_cons d_str a_nil)) (a_cons (d_tup (a_cons d_non a_nil)) a_nil)))))))
    (b_cons (s_set (i := 2) sc_law_k01.nd rfl (Or.inl rfl) (d_cat (dv 2) (d_lst (a_cons d_str (a_cons (d_tup a_nil) (a_cons (d_tup (a_cons (d_ix (dv 6) d_int (fun _ _ => rfl)) a_nil)) (a_cons (d_cat (dv 6) (d_slT (dv 6) o_none (o_some d_int))) a_nil)))))))
    (b_one (s_for passF rfl (i_lst (d_cat (dv 2) (d_lst (a_cons (d_fn passO hr D_law_odd (a_cons (d_bagSl (i := 1) 101 (by decide)) a_nil)) (a_cons (d_fn passO hr D_law_odd (a_cons (d_bagSl2 (i := 1) 111 (by decide)) a_nil)) a_nil))))) (g_name (i := 3) sc_law_k01.nd rfl (Or.inl rfl))
    (b_cons (s_if (t_ne hr.units (d_repr Z.repr (d_fn passO hr D_are_parts (a_cons (dv 3) a_nil))) (d_repr Z.repr (d_fn passO hr D_law_are_parts (a_cons (dv 3) a_nil)))) (b_one (s_ret d_bl)) b_nil)
    (b_cons (s_if (t_ne hr.units (d_repr Z.repr (d_fn passO hr D_is_share (a_cons (dv 3) a_nil))) (d_repr Z.repr (d_fn passO hr D_law_is_share (a_cons (dv 3) a_nil)))) (b_one (s_ret d_bl)) b_nil)
    (b_one (s_if (t_ne hr.units (d_repr Z.repr (d_fn passO hr D_is_row (a_cons (dv 3) a_nil))) (d_repr Z.repr (d_fn passO hr D_law_is_row (a_cons (dv 3) a_nil)))) (b_one (s_ret d_bl)) b_nil))))))))))))))) sc_law_k01.nd rfl rfl)
    (b0_lift (b_one (s_ret d_bl))))
    exact ⟨ts, p1, read_law q1 (by decide) h (pure_law_k01)⟩

end
theorem all_mk {l : PySem.W.OpenLaw} {w : World} {K : PySem.W.Frag} {h : Heap} {mg : Str → Option Value} {fa : Addr} (X : K.In h) (G : h.Ns mainGlobals mg) (hfa : mg "law" = some (.ref fa))
    {od0 an0 : Option Addr} {sl0 : Array (Option Value)} {oc0 kV0 dc0 pm0 cd0 ct0 : Value} {f0 : Addr} {od1 an1 : Option Addr} {sl1 : Array (Option Value)} {oc1 kV1 dc1 pm1 cd1 ct1 : Value} {f1 : Addr} {od2 an2 : Option Addr} {sl2 : Array (Option Value)} {oc2 kV2 dc2 pm2 cd2 ct2 : Value} {f2 : Addr} {od3 an3 : Option Addr} {sl3 : Array (Option Value)} {oc3 kV3 dc3 pm3 cd3 ct3 : Value} {f3 : Addr} {od4 an4 : Option Addr} {sl4 : Array (Option Value)} {oc4 kV4 dc4 pm4 cd4 ct4 : Value} {f4 : Addr} {od5 an5 : Option Addr} {sl5 : Array (Option Value)} {oc5 kV5 dc5 pm5 cd5 ct5 : Value} {f5 : Addr} {od6 an6 : Option Addr} {sl6 : Array (Option Value)} {oc6 kV6 dc6 pm6 cd6 ct6 : Value} {f6 : Addr} {od7 an7 : Option Addr} {sl7 : Array (Option Value)} {oc7 kV7 dc7 pm7 cd7 ct7 : Value} {f7 : Addr} {od8 an8 : Option Addr} {sl8 : Array (Option Value)} {oc8 kV8 dc8 pm8 cd8 ct8 : Value} {f8 : Addr} {od9 an9 : Option Addr} {sl9 : Array (Option Value)} {oc9 kV9 dc9 pm9 cd9 ct9 : Value} {f9 : Addr} {od10 an10 : Option Addr} {sl10 : Array (Option Value)} {oc10 kV10 dc10 pm10 cd10 ct10 : Value} {f10 : Addr} {od11 an11 : Option Addr} {sl11 : Array (Option Value)} {oc11 kV11 dc11 pm11 cd11 ct11 : Value} {f11 : Addr} {od12 an12 : Option Addr} {sl12 : Array (Option Value)} {oc12 kV12 dc12 pm12 cd12 ct12 : Value} {f12 : Addr} {od13 an13 : Option Addr} {sl13 : Array (Option Value)} {oc13 kV13 dc13 pm13 cd13 ct13 : Value} {f13 : Addr} {od14 an14 : Option Addr} {sl14 : Array (Option Value)} {oc14 kV14 dc14 pm14 cd14 ct14 : Value} {f14 : Addr} {od15 an15 : Option Addr} {sl15 : Array (Option Value)} {oc15 kV15 dc15 pm15 cd15 ct15 : Value} {f15 : Addr} {od16 an16 : Option Addr} {sl16 : Array (Option Value)} {oc16 kV16 dc16 pm16 cd16 ct16 : Value} {f16 : Addr} {od17 an17 : Option Addr} {sl17 : Array (Option Value)} {oc17 kV17 dc17 pm17 cd17 ct17 : Value} {f17 : Addr} {od18 an18 : Option Addr} {sl18 : Array (Option Value)} {oc18 kV18 dc18 pm18 cd18 ct18 : Value} {f18 : Addr} {od19 an19 : Option Addr} {sl19 : Array (Option Value)} {oc19 kV19 dc19 pm19 cd19 ct19 : Value} {f19 : Addr} {od20 an20 : Option Addr} {sl20 : Array (Option Value)} {oc20 kV20 dc20 pm20 cd20 ct20 : Value} {f20 : Addr} {od21 an21 : Option Addr} {sl21 : Array (Option Value)} {oc21 kV21 dc21 pm21 cd21 ct21 : Value} {f21 : Addr} {od22 an22 : Option Addr} {sl22 : Array (Option Value)} {oc22 kV22 dc22 pm22 cd22 ct22 : Value} {f22 : Addr} {od23 an23 : Option Addr} {sl23 : Array (Option Value)} {oc23 kV23 dc23 pm23 cd23 ct23 : Value} {f23 : Addr} {od24 an24 : Option Addr} {sl24 : Array (Option Value)} {oc24 kV24 dc24 pm24 cd24 ct24 : Value} {f24 : Addr} {od25 an25 : Option Addr} {sl25 : Array (Option Value)} {oc25 kV25 dc25 pm25 cd25 ct25 : Value} {f25 : Addr} {od26 an26 : Option Addr} {sl26 : Array (Option Value)} {oc26 kV26 dc26 pm26 cd26 ct26 : Value} {f26 : Addr} {od27 an27 : Option Addr} {sl27 : Array (Option Value)} {oc27 kV27 dc27 pm27 cd27 ct27 : Value} {f27 : Addr} {od28 an28 : Option Addr} {sl28 : Array (Option Value)} {oc28 kV28 dc28 pm28 cd28 ct28 : Value} {f28 : Addr} {od29 an29 : Option Addr} {sl29 : Array (Option Value)} {oc29 kV29 dc29 pm29 cd29 ct29 : Value} {f29 : Addr} {od30 an30 : Option Addr} {sl30 : Array (Option Value)} {oc30 kV30 dc30 pm30 cd30 ct30 : Value} {f30 : Addr} {od31 an31 : Option Addr} {sl31 : Array (Option Value)} {oc31 kV31 dc31 pm31 cd31 ct31 : Value} {f31 : Addr} {t_GREAT : Tok}
    (a0 : PySem.W.nsIn K mainGlobals "is_within" = some (some (.ref f0)))
    (l0 : K.lookup f0 = some ⟨oc0, od0, .func (PySem.W.fnOf "is_within" "is_within" (defArgs s_is_within) (defBody s_is_within) (defScope s_is_within) .none kV0 dc0 pm0 an0 cd0 ct0), sl0⟩)
    (c0 : PySem.W.codeIn K cd0 "is_within" = true)
    (k0 : PySem.W.keepIn K (.ref f0) = true)
    (a1 : PySem.W.nsIn K mainGlobals "common" = some (some (.ref f1)))
    (l1 : K.lookup f1 = some ⟨oc1, od1, .func (PySem.W.fnOf "common" "common" (defArgs s_common) (defBody s_common) (defScope s_common) .none kV1 dc1 pm1 an1 cd1 ct1), sl1⟩)
    (c1 : PySem.W.codeIn K cd1 "common" = true)
    (k1 : PySem.W.keepIn K (.ref f1) = true)
    (a2 : PySem.W.nsIn K mainGlobals "made" = some (some (.ref f2)))
    (l2 : K.lookup f2 = some ⟨oc2, od2, .func (PySem.W.fnOf "made" "made" (defArgs s_made) (defBody s_made) (defScope s_made) .none kV2 dc2 pm2 an2 cd2 ct2), sl2⟩)
    (c2 : PySem.W.codeIn K cd2 "made" = true)
    (k2 : PySem.W.keepIn K (.ref f2) = true)
    (a3 : PySem.W.nsIn K mainGlobals "plus" = some (some (.ref f3)))
    (l3 : K.lookup f3 = some ⟨oc3, od3, .func (PySem.W.fnOf "plus" "plus" (defArgs s_plus) (defBody s_plus) (defScope s_plus) .none kV3 dc3 pm3 an3 cd3 ct3), sl3⟩)
    (c3 : PySem.W.codeIn K cd3 "plus" = true)
    (k3 : PySem.W.keepIn K (.ref f3) = true)
    (a4 : PySem.W.nsIn K mainGlobals "is_less" = some (some (.ref f4)))
    (l4 : K.lookup f4 = some ⟨oc4, od4, .func (PySem.W.fnOf "is_less" "is_less" (defArgs s_is_less) (defBody s_is_less) (defScope s_is_less) .none kV4 dc4 pm4 an4 cd4 ct4), sl4⟩)
    (c4 : PySem.W.codeIn K cd4 "is_less" = true)
    (k4 : PySem.W.keepIn K (.ref f4) = true)
    (a5 : PySem.W.nsIn K mainGlobals "is_share" = some (some (.ref f5)))
    (l5 : K.lookup f5 = some ⟨oc5, od5, .func (PySem.W.fnOf "is_share" "is_share" (defArgs s_is_share) (defBody s_is_share) (defScope s_is_share) .none kV5 dc5 pm5 an5 cd5 ct5), sl5⟩)
    (c5 : PySem.W.codeIn K cd5 "is_share" = true)
    (k5 : PySem.W.keepIn K (.ref f5) = true)
    (a6 : PySem.W.nsIn K mainGlobals "are_parts" = some (some (.ref f6)))
    (l6 : K.lookup f6 = some ⟨oc6, od6, .func (PySem.W.fnOf "are_parts" "are_parts" (defArgs s_are_parts) (defBody s_are_parts) (defScope s_are_parts) .none kV6 dc6 pm6 an6 cd6 ct6), sl6⟩)
    (c6 : PySem.W.codeIn K cd6 "are_parts" = true)
    (k6 : PySem.W.keepIn K (.ref f6) = true)
    (a7 : PySem.W.nsIn K mainGlobals "is_pour" = some (some (.ref f7)))
    (l7 : K.lookup f7 = some ⟨oc7, od7, .func (PySem.W.fnOf "is_pour" "is_pour" (defArgs s_is_pour) (defBody s_is_pour) (defScope s_is_pour) .none kV7 dc7 pm7 an7 cd7 ct7), sl7⟩)
    (c7 : PySem.W.codeIn K cd7 "is_pour" = true)
    (k7 : PySem.W.keepIn K (.ref f7) = true)
    (a8 : PySem.W.nsIn K mainGlobals "is_row" = some (some (.ref f8)))
    (l8 : K.lookup f8 = some ⟨oc8, od8, .func (PySem.W.fnOf "is_row" "is_row" (defArgs s_is_row) (defBody s_is_row) (defScope s_is_row) .none kV8 dc8 pm8 an8 cd8 ct8), sl8⟩)
    (c8 : PySem.W.codeIn K cd8 "is_row" = true)
    (k8 : PySem.W.keepIn K (.ref f8) = true)
    (a9 : PySem.W.nsIn K mainGlobals "_law_cell_at" = some (some (.ref f9)))
    (l9 : K.lookup f9 = some ⟨oc9, od9, .func (PySem.W.fnOf "_law_cell_at" "_law_cell_at" (defArgs s_law_cell_at) (defBody s_law_cell_at) (defScope s_law_cell_at) .none kV9 dc9 pm9 an9 cd9 ct9), sl9⟩)
    (c9 : PySem.W.codeIn K cd9 "_law_cell_at" = true)
    (k9 : PySem.W.keepIn K (.ref f9) = true)
    (a10 : PySem.W.nsIn K mainGlobals "_law_draws" = some (some (.ref f10)))
    (l10 : K.lookup f10 = some ⟨oc10, od10, .func (PySem.W.fnOf "_law_draws" "_law_draws" (defArgs s_law_draws) (defBody s_law_draws) (defScope s_law_draws) .none kV10 dc10 pm10 an10 cd10 ct10), sl10⟩)
    (c10 : PySem.W.codeIn K cd10 "_law_draws" = true)
    (k10 : PySem.W.keepIn K (.ref f10) = true)
    (a11 : PySem.W.nsIn K mainGlobals "_law_spoilt" = some (some (.ref f11)))
    (l11 : K.lookup f11 = some ⟨oc11, od11, .func (PySem.W.fnOf "_law_spoilt" "_law_spoilt" (defArgs s_law_spoilt) (defBody s_law_spoilt) (defScope s_law_spoilt) .none kV11 dc11 pm11 an11 cd11 ct11), sl11⟩)
    (c11 : PySem.W.codeIn K cd11 "_law_spoilt" = true)
    (k11 : PySem.W.keepIn K (.ref f11) = true)
    (a12 : PySem.W.nsIn K mainGlobals "_law_from" = some (some (.ref f12)))
    (l12 : K.lookup f12 = some ⟨oc12, od12, .func (PySem.W.fnOf "_law_from" "_law_from" (defArgs s_law_from) (defBody s_law_from) (defScope s_law_from) .none kV12 dc12 pm12 an12 cd12 ct12), sl12⟩)
    (c12 : PySem.W.codeIn K cd12 "_law_from" = true)
    (k12 : PySem.W.keepIn K (.ref f12) = true)
    (a13 : PySem.W.nsIn K mainGlobals "_law_bag" = some (some (.ref f13)))
    (l13 : K.lookup f13 = some ⟨oc13, od13, .func (PySem.W.fnOf "_law_bag" "_law_bag" (defArgs s_law_bag) (defBody s_law_bag) (defScope s_law_bag) .none kV13 dc13 pm13 an13 cd13 ct13), sl13⟩)
    (c13 : PySem.W.codeIn K cd13 "_law_bag" = true)
    (k13 : PySem.W.keepIn K (.ref f13) = true)
    (a14 : PySem.W.nsIn K mainGlobals "_law_bags" = some (some (.ref f14)))
    (l14 : K.lookup f14 = some ⟨oc14, od14, .func (PySem.W.fnOf "_law_bags" "_law_bags" (defArgs s_law_bags) (defBody s_law_bags) (defScope s_law_bags) .none kV14 dc14 pm14 an14 cd14 ct14), sl14⟩)
    (c14 : PySem.W.codeIn K cd14 "_law_bags" = true)
    (k14 : PySem.W.keepIn K (.ref f14) = true)
    (a15 : PySem.W.nsIn K mainGlobals "_law_take" = some (some (.ref f15)))
    (l15 : K.lookup f15 = some ⟨oc15, od15, .func (PySem.W.fnOf "_law_take" "_law_take" (defArgs s_law_take) (defBody s_law_take) (defScope s_law_take) .none kV15 dc15 pm15 an15 cd15 ct15), sl15⟩)
    (c15 : PySem.W.codeIn K cd15 "_law_take" = true)
    (k15 : PySem.W.keepIn K (.ref f15) = true)
    (a16 : PySem.W.nsIn K mainGlobals "_law_far_draw" = some (some (.ref f16)))
    (l16 : K.lookup f16 = some ⟨oc16, od16, .func (PySem.W.fnOf "_law_far_draw" "_law_far_draw" (defArgs s_law_far_draw) (defBody s_law_far_draw) (defScope s_law_far_draw) .none kV16 dc16 pm16 an16 cd16 ct16), sl16⟩)
    (c16 : PySem.W.codeIn K cd16 "_law_far_draw" = true)
    (k16 : PySem.W.keepIn K (.ref f16) = true)
    (a17 : PySem.W.nsIn K mainGlobals "_law_common" = some (some (.ref f17)))
    (l17 : K.lookup f17 = some ⟨oc17, od17, .func (PySem.W.fnOf "_law_common" "_law_common" (defArgs s_law_common) (defBody s_law_common) (defScope s_law_common) .none kV17 dc17 pm17 an17 cd17 ct17), sl17⟩)
    (c17 : PySem.W.codeIn K cd17 "_law_common" = true)
    (k17 : PySem.W.keepIn K (.ref f17) = true)
    (a18 : PySem.W.nsIn K mainGlobals "_law_odd" = some (some (.ref f18)))
    (l18 : K.lookup f18 = some ⟨oc18, od18, .func (PySem.W.fnOf "_law_odd" "_law_odd" (defArgs s_law_odd) (defBody s_law_odd) (defScope s_law_odd) .none kV18 dc18 pm18 an18 cd18 ct18), sl18⟩)
    (c18 : PySem.W.codeIn K cd18 "_law_odd" = true)
    (k18 : PySem.W.keepIn K (.ref f18) = true)
    (a19 : PySem.W.nsIn K mainGlobals "_law_made" = some (some (.ref f19)))
    (l19 : K.lookup f19 = some ⟨oc19, od19, .func (PySem.W.fnOf "_law_made" "_law_made" (defArgs s_law_made) (defBody s_law_made) (defScope s_law_made) .none kV19 dc19 pm19 an19 cd19 ct19), sl19⟩)
    (c19 : PySem.W.codeIn K cd19 "_law_made" = true)
    (k19 : PySem.W.keepIn K (.ref f19) = true)
    (a20 : PySem.W.nsIn K mainGlobals "_law_plus" = some (some (.ref f20)))
    (l20 : K.lookup f20 = some ⟨oc20, od20, .func (PySem.W.fnOf "_law_plus" "_law_plus" (defArgs s_law_plus) (defBody s_law_plus) (defScope s_law_plus) .none kV20 dc20 pm20 an20 cd20 ct20), sl20⟩)
    (c20 : PySem.W.codeIn K cd20 "_law_plus" = true)
    (k20 : PySem.W.keepIn K (.ref f20) = true)
    (a21 : PySem.W.nsIn K mainGlobals "_law_minus" = some (some (.ref f21)))
    (l21 : K.lookup f21 = some ⟨oc21, od21, .func (PySem.W.fnOf "_law_minus" "_law_minus" (defArgs s_law_minus) (defBody s_law_minus) (defScope s_law_minus) .none kV21 dc21 pm21 an21 cd21 ct21), sl21⟩)
    (c21 : PySem.W.codeIn K cd21 "_law_minus" = true)
    (k21 : PySem.W.keepIn K (.ref f21) = true)
    (a22 : PySem.W.nsIn K mainGlobals "_law_below" = some (some (.ref f22)))
    (l22 : K.lookup f22 = some ⟨oc22, od22, .func (PySem.W.fnOf "_law_below" "_law_below" (defArgs s_law_below) (defBody s_law_below) (defScope s_law_below) .none kV22 dc22 pm22 an22 cd22 ct22), sl22⟩)
    (c22 : PySem.W.codeIn K cd22 "_law_below" = true)
    (k22 : PySem.W.keepIn K (.ref f22) = true)
    (a23 : PySem.W.nsIn K mainGlobals "_law_a_part" = some (some (.ref f23)))
    (l23 : K.lookup f23 = some ⟨oc23, od23, .func (PySem.W.fnOf "_law_a_part" "_law_a_part" (defArgs s_law_a_part) (defBody s_law_a_part) (defScope s_law_a_part) .none kV23 dc23 pm23 an23 cd23 ct23), sl23⟩)
    (c23 : PySem.W.codeIn K cd23 "_law_a_part" = true)
    (k23 : PySem.W.keepIn K (.ref f23) = true)
    (a24 : PySem.W.nsIn K mainGlobals "_law_two_parts" = some (some (.ref f24)))
    (l24 : K.lookup f24 = some ⟨oc24, od24, .func (PySem.W.fnOf "_law_two_parts" "_law_two_parts" (defArgs s_law_two_parts) (defBody s_law_two_parts) (defScope s_law_two_parts) .none kV24 dc24 pm24 an24 cd24 ct24), sl24⟩)
    (c24 : PySem.W.codeIn K cd24 "_law_two_parts" = true)
    (k24 : PySem.W.keepIn K (.ref f24) = true)
    (a25 : PySem.W.nsIn K mainGlobals "_law_a_share" = some (some (.ref f25)))
    (l25 : K.lookup f25 = some ⟨oc25, od25, .func (PySem.W.fnOf "_law_a_share" "_law_a_share" (defArgs s_law_a_share) (defBody s_law_a_share) (defScope s_law_a_share) .none kV25 dc25 pm25 an25 cd25 ct25), sl25⟩)
    (c25 : PySem.W.codeIn K cd25 "_law_a_share" = true)
    (k25 : PySem.W.keepIn K (.ref f25) = true)
    (a26 : PySem.W.nsIn K mainGlobals "_law_a_row" = some (some (.ref f26)))
    (l26 : K.lookup f26 = some ⟨oc26, od26, .func (PySem.W.fnOf "_law_a_row" "_law_a_row" (defArgs s_law_a_row) (defBody s_law_a_row) (defScope s_law_a_row) .none kV26 dc26 pm26 an26 cd26 ct26), sl26⟩)
    (c26 : PySem.W.codeIn K cd26 "_law_a_row" = true)
    (k26 : PySem.W.keepIn K (.ref f26) = true)
    (a27 : PySem.W.nsIn K mainGlobals "_law_drawn" = some (some (.ref f27)))
    (l27 : K.lookup f27 = some ⟨oc27, od27, .func (PySem.W.fnOf "_law_drawn" "_law_drawn" (defArgs s_law_drawn) (defBody s_law_drawn) (defScope s_law_drawn) .none kV27 dc27 pm27 an27 cd27 ct27), sl27⟩)
    (c27 : PySem.W.codeIn K cd27 "_law_drawn" = true)
    (k27 : PySem.W.keepIn K (.ref f27) = true)
    (a28 : PySem.W.nsIn K mainGlobals "_law_is_share" = some (some (.ref f28)))
    (l28 : K.lookup f28 = some ⟨oc28, od28, .func (PySem.W.fnOf "_law_is_share" "_law_is_share" (defArgs s_law_is_share) (defBody s_law_is_share) (defScope s_law_is_share) .none kV28 dc28 pm28 an28 cd28 ct28), sl28⟩)
    (c28 : PySem.W.codeIn K cd28 "_law_is_share" = true)
    (k28 : PySem.W.keepIn K (.ref f28) = true)
    (a29 : PySem.W.nsIn K mainGlobals "_law_are_parts" = some (some (.ref f29)))
    (l29 : K.lookup f29 = some ⟨oc29, od29, .func (PySem.W.fnOf "_law_are_parts" "_law_are_parts" (defArgs s_law_are_parts) (defBody s_law_are_parts) (defScope s_law_are_parts) .none kV29 dc29 pm29 an29 cd29 ct29), sl29⟩)
    (c29 : PySem.W.codeIn K cd29 "_law_are_parts" = true)
    (k29 : PySem.W.keepIn K (.ref f29) = true)
    (a30 : PySem.W.nsIn K mainGlobals "_law_is_row" = some (some (.ref f30)))
    (l30 : K.lookup f30 = some ⟨oc30, od30, .func (PySem.W.fnOf "_law_is_row" "_law_is_row" (defArgs s_law_is_row) (defBody s_law_is_row) (defScope s_law_is_row) .none kV30 dc30 pm30 an30 cd30 ct30), sl30⟩)
    (c30 : PySem.W.codeIn K cd30 "_law_is_row" = true)
    (k30 : PySem.W.keepIn K (.ref f30) = true)
    (a31 : PySem.W.nsIn K mainGlobals "law" = some (some (.ref f31)))
    (l31 : K.lookup f31 = some ⟨oc31, od31, .func (PySem.W.fnOf "law" "law" (defArgs s_law) (defBody s_law) (defScope s_law) .none kV31 dc31 pm31 an31 cd31 ct31), sl31⟩)
    (c31 : PySem.W.codeIn K cd31 "law" = true)
    (k31 : PySem.W.keepIn K (.ref f31) = true)
    (z_abs : PySem.W.nsIn K mainGlobals "abs" = some none)
    (z_all : PySem.W.nsIn K mainGlobals "all" = some none)
    (z_bool : PySem.W.nsIn K mainGlobals "bool" = some none)
    (z_enumerate : PySem.W.nsIn K mainGlobals "enumerate" = some none)
    (z_int : PySem.W.nsIn K mainGlobals "int" = some none)
    (z_isinstance : PySem.W.nsIn K mainGlobals "isinstance" = some none)
    (z_len : PySem.W.nsIn K mainGlobals "len" = some none)
    (z_list : PySem.W.nsIn K mainGlobals "list" = some none)
    (z_max : PySem.W.nsIn K mainGlobals "max" = some none)
    (z_min : PySem.W.nsIn K mainGlobals "min" = some none)
    (z_range : PySem.W.nsIn K mainGlobals "range" = some none)
    (z_repr : PySem.W.nsIn K mainGlobals "repr" = some none)
    (z_str : PySem.W.nsIn K mainGlobals "str" = some none)
    (z_tuple : PySem.W.nsIn K mainGlobals "tuple" = some none)
    (z_zip : PySem.W.nsIn K mainGlobals "zip" = some none)
    (z_ValueError : PySem.W.nsIn K mainGlobals "ValueError" = some none)
    (n_GREAT : PySem.W.nsIn K mainGlobals "GREAT" = some (some (.int 100000000000000000000 t_GREAT))) :
    ∃ fd : FuncData, (∀ (s : Shared) (v : Value), BindsTo s fd ⟨[v], []⟩ [("script", v)]) ∧ ∀ base : Heap, K.In base → base.Ns mainGlobals mg → FnOk l.prog w K mg base (L2.CX l.prog w) 7 fa fd ["script"] (spLaw K) := by
  have e := hfa.symm.trans (PySem.W.mg_of X G a31)
  cases e
  let er : Er := ⟨0, 0, 0, 0, 0, 0, 0, 0, 0, 0, 0, 0, 0⟩
  have Z : Bl mg := ⟨PySem.W.mg_none_of X G z_abs, PySem.W.mg_none_of X G z_all, PySem.W.mg_none_of X G z_bool, PySem.W.mg_none_of X G z_enumerate, PySem.W.mg_none_of X G z_int, PySem.W.mg_none_of X G z_isinstance, PySem.W.mg_none_of X G z_len, PySem.W.mg_none_of X G z_list, PySem.W.mg_none_of X G z_max, PySem.W.mg_none_of X G z_min, PySem.W.mg_none_of X G z_range, PySem.W.mg_none_of X G z_repr, PySem.W.mg_none_of X G z_str, PySem.W.mg_none_of X G z_tuple, PySem.W.mg_none_of X G z_zip, PySem.W.mg_none_of X G z_ValueError⟩
  have c_GREAT := PySem.W.mg_of X G n_GREAT
  refine ⟨PySem.W.fnOf "law" "law" (defArgs s_law) (defBody s_law) (defScope s_law) .none kV31 dc31 pm31 an31 cd31 ct31, fun s v => .of_eq rfl, fun base _ _ => ?_⟩
  have D_is_within := ok_is_within (P := l.prog) (w := w) (base := base) Z (show DefT K mg "is_within" s_is_within from ⟨_, _, fun_mk (st := s_is_within) l0 c0 k0, PySem.W.mg_of X G a0⟩) 
  have D_common := ok_common (P := l.prog) (w := w) (base := base) Z (show DefT K mg "common" s_common from ⟨_, _, fun_mk (st := s_common) l1 c1 k1, PySem.W.mg_of X G a1⟩) 
  have D_is_less := ok_is_less (P := l.prog) (w := w) (base := base) Z (show DefT K mg "is_less" s_is_less from ⟨_, _, fun_mk (st := s_is_less) l4 c4 k4, PySem.W.mg_of X G a4⟩) 
  have D_is_pour := ok_is_pour (P := l.prog) (w := w) (base := base) Z (show DefT K mg "is_pour" s_is_pour from ⟨_, _, fun_mk (st := s_is_pour) l7 c7 k7, PySem.W.mg_of X G a7⟩) 
  have D_law_cell_at := ok_law_cell_at (P := l.prog) (w := w) (base := base) Z (show DefT K mg "_law_cell_at" s_law_cell_at from ⟨_, _, fun_mk (st := s_law_cell_at) l9 c9 k9, PySem.W.mg_of X G a9⟩) 
  have D_law_draws := ok_law_draws (P := l.prog) (w := w) (base := base) Z (show DefT K mg "_law_draws" s_law_draws from ⟨_, _, fun_mk (st := s_law_draws) l10 c10 k10, PySem.W.mg_of X G a10⟩) 
  have D_law_from := ok_law_from (P := l.prog) (w := w) (base := base) Z (show DefT K mg "_law_from" s_law_from from ⟨_, _, fun_mk (st := s_law_from) l12 c12 k12, PySem.W.mg_of X G a12⟩) 
  have D_law_take := ok_law_take (P := l.prog) (w := w) (base := base) Z (show DefT K mg "_law_take" s_law_take from ⟨_, _, fun_mk (st := s_law_take) l15 c15 k15, PySem.W.mg_of X G a15⟩)
  have D_law_common := ok_law_common (P := l.prog) (w := w) (base := base) Z (show DefT K mg "_law_common" s_law_common from ⟨_, _, fun_mk (st := s_law_common) l17 c17 k17, PySem.W.mg_of X G a17⟩) 
  have D_law_odd := ok_law_odd (P := l.prog) (w := w) (base := base) Z (show DefT K mg "_law_odd" s_law_odd from ⟨_, _, fun_mk (st := s_law_odd) l18 c18 k18, PySem.W.mg_of X G a18⟩) 
  have D_law_below := ok_law_below (P := l.prog) (w := w) (base := base) Z (show DefT K mg "_law_below" s_law_below from ⟨_, _, fun_mk (st := s_law_below) l22 c22 k22, PySem.W.mg_of X G a22⟩) 
  have D_law_is_row := ok_law_is_row (P := l.prog) (w := w) (base := base) Z (show DefT K mg "_law_is_row" s_law_is_row from ⟨_, _, fun_mk (st := s_law_is_row) l30 c30 k30, PySem.W.mg_of X G a30⟩) 
  have D_made := ok_made (P := l.prog) (w := w) (base := base) Z (show DefT K mg "made" s_made from ⟨_, _, fun_mk (st := s_made) l2 c2 k2, PySem.W.mg_of X G a2⟩) D_common
  have D_is_share := ok_is_share (P := l.prog) (w := w) (base := base) Z (show DefT K mg "is_share" s_is_share from ⟨_, _, fun_mk (st := s_is_share) l5 c5 k5, PySem.W.mg_of X G a5⟩) c_GREAT D_is_within D_common
  have D_is_row := ok_is_row (P := l.prog) (w := w) (base := base) Z (show DefT K mg "is_row" s_is_row from ⟨_, _, fun_mk (st := s_is_row) l8 c8 k8, PySem.W.mg_of X G a8⟩) D_is_pour
  have DB := ok_law_bag (P := l.prog) (w := w) (base := base) (show DefT K mg "_law_bag" s_law_bag from ⟨_, _, fun_mk (st := s_law_bag) l13 c13 k13, PySem.W.mg_of X G a13⟩) D_law_draws D_law_cell_at
  have D_law_far_draw := ok_law_far_draw (P := l.prog) (w := w) (base := base) Z (show DefT K mg "_law_far_draw" s_law_far_draw from ⟨_, _, fun_mk (st := s_law_far_draw) l16 c16 k16, PySem.W.mg_of X G a16⟩) D_law_take
  have D_law_made := ok_law_made (P := l.prog) (w := w) (base := base) Z (show DefT K mg "_law_made" s_law_made from ⟨_, _, fun_mk (st := s_law_made) l19 c19 k19, PySem.W.mg_of X G a19⟩) D_law_common
  have D_law_a_row := ok_law_a_row (P := l.prog) (w := w) (base := base) Z (show DefT K mg "_law_a_row" s_law_a_row from ⟨_, _, fun_mk (st := s_law_a_row) l26 c26 k26, PySem.W.mg_of X G a26⟩) D_law_take
  have D_law_is_share := ok_law_is_share (P := l.prog) (w := w) (base := base) Z (show DefT K mg "_law_is_share" s_law_is_share from ⟨_, _, fun_mk (st := s_law_is_share) l28 c28 k28, PySem.W.mg_of X G a28⟩) D_law_from D_law_common
  have D_plus := ok_plus (P := l.prog) (w := w) (base := base) Z (show DefT K mg "plus" s_plus from ⟨_, _, fun_mk (st := s_plus) l3 c3 k3, PySem.W.mg_of X G a3⟩) D_made
  have D_law_bags := ok_law_bags (P := l.prog) (w := w) (base := base) Z (show DefT K mg "_law_bags" s_law_bags from ⟨_, _, fun_mk (st := s_law_bags) l14 c14 k14, PySem.W.mg_of X G a14⟩) DB
  have D_law_plus := ok_law_plus (P := l.prog) (w := w) (base := base) Z (show DefT K mg "_law_plus" s_law_plus from ⟨_, _, fun_mk (st := s_law_plus) l20 c20 k20, PySem.W.mg_of X G a20⟩) D_law_made
  have D_law_minus := ok_law_minus (P := l.prog) (w := w) (base := base) Z (show DefT K mg "_law_minus" s_law_minus from ⟨_, _, fun_mk (st := s_law_minus) l21 c21 k21, PySem.W.mg_of X G a21⟩) D_law_made
  have D_law_a_part := ok_law_a_part (P := l.prog) (w := w) (base := base) Z (show DefT K mg "_law_a_part" s_law_a_part from ⟨_, _, fun_mk (st := s_law_a_part) l23 c23 k23, PySem.W.mg_of X G a23⟩) D_law_take D_law_made
  have D_law_a_share := ok_law_a_share (P := l.prog) (w := w) (base := base) Z (show DefT K mg "_law_a_share" s_law_a_share from ⟨_, _, fun_mk (st := s_law_a_share) l25 c25 k25, PySem.W.mg_of X G a25⟩) D_law_far_draw D_law_take D_law_made
  have D_law_are_parts := ok_law_are_parts (P := l.prog) (w := w) (base := base) Z (show DefT K mg "_law_are_parts" s_law_are_parts from ⟨_, _, fun_mk (st := s_law_are_parts) l29 c29 k29, PySem.W.mg_of X G a29⟩) D_law_is_share
  have D_are_parts := ok_are_parts (P := l.prog) (w := w) (base := base) Z (show DefT K mg "are_parts" s_are_parts from ⟨_, _, fun_mk (st := s_are_parts) l6 c6 k6, PySem.W.mg_of X G a6⟩) D_is_share D_is_less D_plus
  have D_law_two_parts := ok_law_two_parts (P := l.prog) (w := w) (base := base) Z (show DefT K mg "_law_two_parts" s_law_two_parts from ⟨_, _, fun_mk (st := s_law_two_parts) l24 c24 k24, PySem.W.mg_of X G a24⟩) D_law_a_part D_law_take D_law_minus D_law_below D_law_plus
  have D_law_drawn := ok_law_drawn (P := l.prog) (w := w) (base := base) Z (show DefT K mg "_law_drawn" s_law_drawn from ⟨_, _, fun_mk (st := s_law_drawn) l27 c27 k27, PySem.W.mg_of X G a27⟩) D_law_two_parts D_law_a_share D_law_a_row
  have D_law_spoilt := ok_law_spoilt (P := l.prog) (w := w) (base := base) Z (show DefT K mg "_law_spoilt" s_law_spoilt from ⟨_, _, fun_mk (st := s_law_spoilt) l11 c11 k11, PySem.W.mg_of X G a11⟩) D_law_odd 5
  exact ok_law (fun_mk (st := s_law) l31 c31 k31) Z D_law_bags D_law_drawn D_law_spoilt D_law_odd D_are_parts D_law_are_parts D_is_share D_law_is_share D_is_row D_law_is_row
end Law
open PySem PySem.W PyProof.Rows
set_option maxHeartbeats 0 in
theorem PySem.Challenge.cw_pourback_k01_parts_shares_rows_known_holds : PySem.Challenge.rw_pourback_k01_parts_shares_rows_known.Holds := by
  w_on; o_law; k_head; (case hw => w_witness2)
  k_fill
  refine L2.walk_of (l := PySem.Challenge.rw_pourback_k01_parts_shares_rows_known) (n := 63) (k := 7) (x := "script") (CX := fun w => L2.CX (PySem.Challenge.rw_pourback_k01_parts_shares_rows_known).prog w) (sp := fun w => DL.spLaw _) rfl (by decide) rfl ⟨rfl, by decide, by decide⟩ (fun w h Y => PySem.W.kIn_of Y) ?F (fun _ _ a ns hl _ hS => ⟨a, ns, rfl, hS, fun _ => rfl⟩) (fun _ _ _ _ _ h => by obtain ⟨_, _, _, _, _, _, _, _, _, _, _, _, h⟩ := h; exact h)
  intro w mg fa h KX G hmg
  refine' Law.all_mk KX G hmg ?a0 ?l0 ?c0 ?k0 ?a1 ?l1 ?c1 ?k1 ?a2 ?l2 ?c2 ?k2 ?a3 ?l3 ?c3 ?k3 ?a4 ?l4 ?c4 ?k4 ?a5 ?l5 ?c5 ?k5 ?a6 ?l6 ?c6 ?k6 ?a7 ?l7 ?c7 ?k7 ?a8 ?l8 ?c8 ?k8 ?a9 ?l9 ?c9 ?k9 ?a10 ?l10 ?c10 ?k10 ?a11 ?l11 ?c11 ?k11 ?a12 ?l12 ?c12 ?k12 ?a13 ?l13 ?c13 ?k13 ?a14 ?l14 ?c14 ?k14 ?a15 ?l15 ?c15 ?k15 ?a16 ?l16 ?c16 ?k16 ?a17 ?l17 ?c17 ?k17 ?a18 ?l18 ?c18 ?k18 ?a19 ?l19 ?c19 ?k19 ?a20 ?l20 ?c20 ?k20 ?a21 ?l21 ?c21 ?k21 ?a22 ?l22 ?c22 ?k22 ?a23 ?l23 ?c23 ?k23 ?a24 ?l24 ?c24 ?k24 ?a25 ?l25 ?c25 ?k25 ?a26 ?l26 ?c26 ?k26 ?a27 ?l27 ?c27 ?k27 ?a28 ?l28 ?c28 ?k28 ?a29 ?l29 ?c29 ?k29 ?a30 ?l30 ?c30 ?k30 ?a31 ?l31 ?c31 ?k31 ?z_abs ?z_all ?z_bool ?z_enumerate ?z_int ?z_isinstance ?z_len ?z_list ?z_max ?z_min ?z_range ?z_repr ?z_str ?z_tuple ?z_zip ?z_ValueError ?n_GREAT
  (case a0 => k_is)
  (case l0 => k_is)
  (case c0 => k_is)
  (case k0 => k_is)
  (case a1 => k_is)
  (case l1 => k_is)
  (case c1 => k_is)
  (case k1 => k_is)
  (case a2 => k_is)
  (case l2 => k_is)
  (case c2 => k_is)
  (case k2 => k_is)
  (case a3 => k_is)
  (case l3 => k_is)
  (case c3 => k_is)
  (case k3 => k_is)
  (case a4 => k_is)
  (case l4 => k_is)
  (case c4 => k_is)
  (case k4 => k_is)
  (case a5 => k_is)
  (case l5 => k_is)
  (case c5 => k_is)
  (case k5 => k_is)
  (case a6 => k_is)
  (case l6 => k_is)
  (case c6 => k_is)
  (case k6 => k_is)
  (case a7 => k_is)
  (case l7 => k_is)
  (case c7 => k_is)
  (case k7 => k_is)
  (case a8 => k_is)
  (case l8 => k_is)
  (case c8 => k_is)
  (case k8 => k_is)
  (case a9 => k_is)
  (case l9 => k_is)
  (case c9 => k_is)
  (case k9 => k_is)
  (case a10 => k_is)
  (case l10 => k_is)
  (case c10 => k_is)
  (case k10 => k_is)
  (case a11 => k_is)
  (case l11 => k_is)
  (case c11 => k_is)
  (case k11 => k_is)
  (case a12 => k_is)
  (case l12 => k_is)
  (case c12 => k_is)
  (case k12 => k_is)
  (case a13 => k_is)
  (case l13 => k_is)
  (case c13 => k_is)
  (case k13 => k_is)
  (case a14 => k_is)
  (case l14 => k_is)
  (case c14 => k_is)
  (case k14 => k_is)
  (case a15 => k_is)
  (case l15 => k_is)
  (case c15 => k_is)
  (case k15 => k_is)
  (case a16 => k_is)
  (case l16 => k_is)
  (case c16 => k_is)
  (case k16 => k_is)
  (case a17 => k_is)
  (case l17 => k_is)
  (case c17 => k_is)
  (case k17 => k_is)
  (case a18 => k_is)
  (case l18 => k_is)
  (case c18 => k_is)
  (case k18 => k_is)
  (case a19 => k_is)
  (case l19 => k_is)
  (case c19 => k_is)
  (case k19 => k_is)
  (case a20 => k_is)
  (case l20 => k_is)
  (case c20 => k_is)
  (case k20 => k_is)
  (case a21 => k_is)
  (case l21 => k_is)
  (case c21 => k_is)
  (case k21 => k_is)
  (case a22 => k_is)
  (case l22 => k_is)
  (case c22 => k_is)
  (case k22 => k_is)
  (case a23 => k_is)
  (case l23 => k_is)
  (case c23 => k_is)
  (case k23 => k_is)
  (case a24 => k_is)
  (case l24 => k_is)
  (case c24 => k_is)
  (case k24 => k_is)
  (case a25 => k_is)
  (case l25 => k_is)
  (case c25 => k_is)
  (case k25 => k_is)
  (case a26 => k_is)
  (case l26 => k_is)
  (case c26 => k_is)
  (case k26 => k_is)
  (case a27 => k_is)
  (case l27 => k_is)
  (case c27 => k_is)
  (case k27 => k_is)
  (case a28 => k_is)
  (case l28 => k_is)
  (case c28 => k_is)
  (case k28 => k_is)
  (case a29 => k_is)
  (case l29 => k_is)
  (case c29 => k_is)
  (case k29 => k_is)
  (case a30 => k_is)
  (case l30 => k_is)
  (case c30 => k_is)
  (case k30 => k_is)
  (case a31 => k_is)
  (case l31 => k_is)
  (case c31 => k_is)
  (case k31 => k_is)
  (case z_abs => k_is)
  (case z_all => k_is)
  (case z_bool => k_is)
  (case z_enumerate => k_is)
  (case z_int => k_is)
  (case z_isinstance => k_is)
  (case z_len => k_is)
  (case z_list => k_is)
  (case z_max => k_is)
  (case z_min => k_is)
  (case z_range => k_is)
  (case z_repr => k_is)
  (case z_str => k_is)
  (case z_tuple => k_is)
  (case z_zip => k_is)
  (case z_ValueError => k_is)
  (case n_GREAT => k_is)
