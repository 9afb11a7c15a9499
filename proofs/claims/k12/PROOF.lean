import PyProof.Rows.All
import Wide.All
import OpenK.AllK
import Wide.FinOn
import HandS.ForMost
import HandS.ForExc
import HandS.Wide
import HandS.TupAny
import HandS.TupMul
import HandS.IsInst
import HandS.Small
import HandS.Deep
import HandS.Style
import HandS.Evl
import HandS.ReCall
import KE.KRevSl
import KE.LtData
import PySem.Challenge.RW_pourback_k12_whole_written_tubs_at_every
set_option Elab.async false
set_option linter.all false
set_option maxRecDepth 100000
set_option maxHeartbeats 4000000
/-! Fractions: sizes. -/
namespace PB
/-- top and bottom below 2 ^ n -/
def sz (x : Rat) (n : Nat) : Prop := x.den < 2 ^ n ∧ x.num.natAbs < 2 ^ n
theorem sz.mono {x : Rat} {n m : Nat} (h : sz x n) (l : n ≤ m) : sz x m :=
  ⟨Nat.lt_of_lt_of_le h.1 (Nat.pow_le_pow_right (by decide) l), Nat.lt_of_lt_of_le h.2 (Nat.pow_le_pow_right (by decide) l)⟩
theorem sz.pos {x : Rat} {n : Nat} (h : sz x n) : 0 < n := by
  cases n with
  | zero => have := h.1; have := x.den_pos; simp at *; omega
  | succ n => omega
theorem mkRat_den_le (t : Int) (n : Nat) (h : 0 < n) : (mkRat t n).den ≤ n := by
  rw [Rat.den_mkRat, if_neg (by omega)]
  exact Nat.div_le_self _ _
theorem mkRat_num_le (t : Int) (n : Nat) : (mkRat t n).num.natAbs ≤ t.natAbs := by
  rw [Rat.num_mkRat]
  split
  · simp
  · rw [Int.natAbs_ediv_of_dvd]
    · exact Nat.div_le_self _ _
    · exact Int.ofNat_dvd_left.mpr (Nat.gcd_dvd_right _ _)
theorem mul_lt_pow {a b n m : Nat} (h1 : a < 2 ^ n) (h2 : b < 2 ^ m) : a * b < 2 ^ (n + m) := by
  rw [Nat.pow_add]
  exact Nat.mul_lt_mul'' h1 h2
theorem sz_mul {x y : Rat} {n m : Nat} (hx : sz x n) (hy : sz y m) : sz (x * y) (n + m) := by
  rw [Rat.mul_def']
  refine ⟨Nat.lt_of_le_of_lt (mkRat_den_le _ _ (Nat.mul_pos x.den_pos y.den_pos)) (mul_lt_pow hx.1 hy.1), Nat.lt_of_le_of_lt (mkRat_num_le _ _) ?_⟩
  rw [Int.natAbs_mul]
  exact mul_lt_pow hx.2 hy.2
theorem addsz {x y : Rat} {n m : Nat} (hx : sz x n) (hy : sz y m) : x.num.natAbs * y.den + y.num.natAbs * x.den < 2 ^ (n + m + 1) := by
  have h1 := mul_lt_pow hx.2 hy.1
  have h2 := mul_lt_pow hy.2 hx.1
  rw [Nat.add_comm m n] at h2
  rw [Nat.pow_succ]
  omega
theorem sz_add {x y : Rat} {n m : Nat} (hx : sz x n) (hy : sz y m) : sz (x + y) (n + m + 1) := by
  rw [Rat.add_def']
  refine ⟨Nat.lt_of_le_of_lt (mkRat_den_le _ _ (Nat.mul_pos x.den_pos y.den_pos)) (Nat.lt_trans (mul_lt_pow hx.1 hy.1) (Nat.pow_lt_pow_right (by decide) (by omega))), Nat.lt_of_le_of_lt (mkRat_num_le _ _) ?_⟩
  refine Nat.lt_of_le_of_lt (Int.natAbs_add_le _ _) ?_
  rw [Int.natAbs_mul, Int.natAbs_mul, Int.natAbs_natCast, Int.natAbs_natCast]
  exact addsz hx hy
theorem natAbs_sub_le' (a b : Int) : (a - b).natAbs ≤ a.natAbs + b.natAbs := by omega
theorem sz_sub {x y : Rat} {n m : Nat} (hx : sz x n) (hy : sz y m) : sz (x - y) (n + m + 1) := by
  rw [Rat.sub_def']
  refine ⟨Nat.lt_of_le_of_lt (mkRat_den_le _ _ (Nat.mul_pos x.den_pos y.den_pos)) (Nat.lt_trans (mul_lt_pow hx.1 hy.1) (Nat.pow_lt_pow_right (by decide) (by omega))), Nat.lt_of_le_of_lt (mkRat_num_le _ _) ?_⟩
  refine Nat.lt_of_le_of_lt (natAbs_sub_le' _ _) ?_
  rw [Int.natAbs_mul, Int.natAbs_mul, Int.natAbs_natCast, Int.natAbs_natCast]
  exact addsz hx hy
theorem num_pos {y : Rat} (h : 0 < y) : 0 < y.num := by
  have h1 := (Rat.lt_iff 0 y).mp h
  simpa using h1
theorem div_def' {x y : Rat} (h : 0 < y) : x / y = mkRat (x.num * y.den) (x.den * y.num.toNat) := by
  have hp := num_pos h
  have e : ((y.num.toNat : Nat) : Int) = y.num := Int.toNat_of_nonneg (by omega)
  rw [Rat.div_def, Rat.inv_def]
  conv => lhs; lhs; rw [← Rat.num_divInt_den x]
  rw [Rat.divInt_mul_divInt, ← Rat.divInt_ofNat, Int.natCast_mul, e]
theorem sz_div {x y : Rat} {n m : Nat} (h : 0 < y) (hx : sz x n) (hy : sz y m) : sz (x / y) (n + m) := by
  have hp := num_pos h
  rw [div_def' h]
  have e : y.num.toNat = y.num.natAbs := by omega
  refine ⟨Nat.lt_of_le_of_lt (mkRat_den_le _ _ (Nat.mul_pos x.den_pos (by omega))) (mul_lt_pow hx.1 (by rw [e]; exact hy.2)), Nat.lt_of_le_of_lt (mkRat_num_le _ _) ?_⟩
  rw [Int.natAbs_mul, Int.natAbs_natCast]
  exact mul_lt_pow hx.2 hy.1
theorem sz_one : sz 1 1 := ⟨by decide, by decide⟩
theorem sz_zero : sz 0 1 := ⟨by decide, by decide⟩
/-- a share is small where its bottom is -/
theorem sz_unit {x : Rat} {n : Nat} (h0 : 0 ≤ x) (h1 : x ≤ 1) (h : x.den < 2 ^ n) : sz x n := by
  refine ⟨h, ?_⟩
  have h2 := (Rat.le_iff x 1).mp h1
  have h3 := Rat.num_nonneg.mpr h0
  simp at h2
  omega
/-! the bottom divides -/
theorem den_dvd {x : Rat} {N : Nat} {t : Int} (h : x * (N : Rat) = (t : Rat)) : x.den ∣ N := by
  have e : (x * (N : Rat)) = mkRat (x.num * N) x.den := by
    rw [Rat.mul_def']; simp
  rw [e] at h
  have e2 : mkRat (x.num * N) x.den = mkRat t 1 := by
    rw [h, Rat.mkRat_eq_div]
    have : ((1 : Nat) : Rat) = 1 := rfl
    rw [this]; grind
  rw [Rat.mkRat_eq_iff (by have := x.den_pos; omega) (by decide)] at e2
  have h3 : (x.den : Int) ∣ x.num * N := ⟨t, by rw [Int.mul_comm (x.den : Int) t]; simpa using e2⟩
  have h4 : x.den ∣ x.num.natAbs * N := by
    have := Int.natAbs_dvd_natAbs.mpr h3
    simpa [Int.natAbs_mul] using this
  exact Nat.Coprime.dvd_of_dvd_mul_left (Nat.Coprime.symm x.reduced) h4
theorem mul_den (x : Rat) : x * (x.den : Rat) = (x.num : Rat) := by
  have e := Rat.mkRat_self x
  rw [Rat.mkRat_eq_div] at e
  have h0 : (x.den : Rat) ≠ 0 := by
    intro c
    have := x.den_pos
    have h := Rat.natCast_eq_zero_iff.mp c
    omega
  conv => lhs; lhs; rw [← e]
  exact Rat.div_mul_cancel h0
end PB
/-! Tuples that are known to have no dict: the rules that make a tuple, each leaving HO.frz. -/
namespace DL
open PySem PySem.Spec PyProof.Rows L2
section
variable {X : Cx} {es : List Expr} {t : TA} {pos : Pos}
/-- a new tuple at p -/
def NewT (H : Hp) (xs : List V) (Q : VK) : Prop := ∀ p ob, H p = none → ob.dict = none → Q (.ref p) (upd H p (.frz ob (.tup xs)))
theorem lay_tup {pins : List (Addr × Obj)} {σ : L2.St} {H : Hp} {s : Shared} {xs : List V} {us : List Value} {Q : VK} (I : Inv X pins σ H s) (z : xs.length ≤ sizeLine) (r : Vals xs us) (q : NewT H xs Q) :
    EP X pins σ Q (.ref s.heap.objs.size) { s with heap := s.heap.push { cls := .type "tuple", data := .seq us.toArray } } := by
  have hn : H s.heap.objs.size = none := I.hok.fresh (Nat.le_refl _)
  refine ⟨.ref s.heap.objs.size, _, I.laid (t' := s.toks) (o := .frz { cls := .type "tuple", data := .seq us.toArray } (.tup xs)) (fun c oc e => Heap.get?_push_of_some _ e) (Nat.le_refl _) ?_, rfl, q _ _ hn rfl⟩
  exact ⟨Heap.get?_push_size _ rfl, z, us, r, ⟨_, Heap.get?_push_size _ rfl, rfl, _, rfl⟩⟩
def tTupN (t : TA) : TE := fun σ H Q => t σ H fun xs H1 => xs.length ≤ sizeLine ∧ NewT H1 xs Q
theorem pe_tupN {x1} (h : PA X es t) : PE X (.Tuple es x1 pos) (tTupN t) := by
  refine ⟨fun pins s σ H Q I hq => wpAny_Tuple_spliced (thn (h.run pos pins s σ H _ I hq) ?_)⟩
  rintro us s1 ⟨xs, H1, I1, r, z, q⟩
  exact ⟨by rw [← r.length]; exact z, lay_tup I1 z r q⟩
/-- t + u -/
def rCatN (K : PySem.W.Frag) : R2 := fun x y H Q => ∃ a b xs ys, x = .ref a ∧ y = .ref b ∧ SqT K H a xs ∧ SqT K H b ys ∧ xs.length + ys.length ≤ sizeLine ∧ (xs = [] → Q (.ref b) H) ∧ (xs ≠ [] → ys = [] → Q (.ref a) H) ∧ (xs ≠ [] → ys ≠ [] → NewT H (xs ++ ys) Q)
theorem op_catN : OpR X (binaryOp .Add) (rCatN X.K) := by
  intro pins s σ H x y v u Q I rx ry h
  obtain ⟨a, b, xs, ys, rfl, rfl, ha, hb, hz, q0, q1, q2⟩ := h
  cases rx
  cases ry
  obtain ⟨vs, r1, p1, _⟩ := I.tuple ha
  obtain ⟨ws, r2, p2, _⟩ := I.tuple hb
  by_cases hx : xs = []
  · subst hx
    cases r1
    exact cat_tup0 p1 p2 ⟨.ref b, H, I, rfl, q0 rfl⟩
  · refine HT.cat_tup p1 p2 (fun e => hx (r1.nil_iff.mp e)) (fun e => ⟨.ref a, H, I, rfl, q1 hx (r2.nil_iff.mp e)⟩) (fun e => ?_) (by rw [← r1.length, ← r2.length]; exact hz)
    have := lay_tup (us := vs ++ ws) I (by rw [List.length_append]; exact hz) (r1.append r2) (q2 hx fun e2 => e (r2.nil_iff.mpr e2))
    simpa using this
/-- t[lo:hi] -/
def rSlN (K : PySem.W.Frag) : V → Option Int → Option Int → Hp → VK → Prop := fun x lo hi H Q => ∃ a xs, x = .ref a ∧ SqT K H a xs ∧
  (HT.sIx xs.length 0 lo = 0 ∧ HT.sIx xs.length xs.length hi = xs.length → Q (.ref a) H) ∧ (¬ (HT.sIx xs.length 0 lo = 0 ∧ HT.sIx xs.length xs.length hi = xs.length) → NewT H (cutV xs lo hi) Q)
theorem sl_tupN : SlR X (rSlN X.K) := by
  intro pins s σ H x v vl vu lo hi sl Q I rx hs pl pu h
  obtain ⟨a, xs, rfl, hx, q1, q2⟩ := h
  cases rx
  obtain ⟨vs, r, ht, hz⟩ := I.tuple hx
  have hl : vs.toArray.size = xs.length := by rw [List.size_toArray]; exact r.length.symm
  refine ⟨"tuple", _, PyProof.Rows.slot_tuple_getitem.lookup, ht.typeIs, ?_⟩
  by_cases hw : HT.sIx xs.length 0 lo = 0 ∧ HT.sIx xs.length xs.length hi = xs.length
  · exact getItem_tuple_whole ht hs pl pu (by rw [hl]; exact hw) ⟨.ref a, H, I, rfl, q1 hw⟩
  · refine HT.getItem_tuple_cut ht hs pl pu (by rw [hl]; exact hw) ?_ (by rw [hl]; exact hz)
    rw [hl]
    exact lay_tup I (Nat.le_trans (cutV_length xs lo hi) hz) ((r.drop (HT.sIx xs.length 0 lo)).take (HT.sIx xs.length xs.length hi - HT.sIx xs.length 0 lo)) (q2 hw)
/-- tuple(xs) -/
theorem call_tupN : CallR X (.type "tuple") (fun xs H Q => ∃ p ys, xs = [.ref p] ∧ ((SqL X.K H p ys ∧ NewT H ys Q) ∨ (SqT X.K H p ys ∧ Q (.ref p) H))) := by
  intro pins s σ H xs us Q I r h
  obtain ⟨p, ys, rfl, h⟩ := h
  obtain ⟨u, rfl, rx⟩ := vals1 r
  cases rx
  rcases h with ⟨hq, q⟩ | ⟨hq, q⟩
  · obtain ⟨vs, r', pl, hz⟩ := I.list hq
    have hl := r'.length
    refine call_tuple_list pl.isList (fun h' kp => ?_) (by simp only [List.size_toArray] <;> omega)
    have I1 : Inv X pins σ H { s with heap := h' } := I.kept (t' := s.toks) kp
    exact lay_tup I1 hz r' q
  · obtain ⟨vs, r', pl, hz⟩ := I.tuple hq
    exact call_tuple_same pl ⟨.ref p, H, I, rfl, q⟩
/-! ### t * n -/
theorem mul_one_tup (l : Addr) (xs : Array Value) (n : Nat) (dd : Option Addr) (sl : Array (Option Value)) (u : Tok) :
    Meets (Builtin.«tuple.__mul__» ⟨[.ref l, .int 1 u], []⟩) (fun _ R s => s.heap.get? l = some { cls := .type "tuple", dict := dd, data := .seq xs n, slots := sl } ∧ R (.ok (.ret (.ref l))) s) :=
  .of_wp fun prog w A R s h => by
    obtain ⟨hp, g, d, tk, os⟩ := s
    obtain ⟨hl, h⟩ := h
    have f1 := AutoSeq1.idx_int
    have c1 : (xs.isEmpty || (1 : Int) == 1) = true := by simp
    wp_walk using wpAny_loadPart' hl
    exact ⟨_, rfl, h⟩
theorem mul_nil_tup (l : Addr) (xs : Array Value) (n : Nat) (dd : Option Addr) (sl : Array (Option Value)) (u : Tok) (hne : xs.isEmpty = false) :
    Meets (Builtin.«tuple.__mul__» ⟨[.ref l, .int 0 u], []⟩) (fun _ R s => s.heap.get? l = some { cls := .type "tuple", dict := dd, data := .seq xs n, slots := sl } ∧
      R (.ok (.ret (Value.ref s.heap.objs.size))) { s with heap := s.heap.push { cls := Value.type "tuple", data := Data.seq #[] }, toks := s.toks }) :=
  .of_wp fun prog w A R s h => by
    obtain ⟨hp, g, d, tk, os⟩ := s
    obtain ⟨hl, h⟩ := h
    have f1 := AutoSeq1.idx_int
    have c1 : (xs.isEmpty || (0 : Int) == 1) = false := by rw [hne]; rfl
    wp_walk using wpAny_loadPart' hl
    exact ⟨_, rfl, h⟩
def rRep (K : PySem.W.Frag) : R2 := fun x y H Q => ∃ l k xs, x = .ref l ∧ y = .int k ∧ SqT K H l xs ∧ xs ≠ [] ∧ 0 ≤ k ∧ k ≤ 1000 ∧ xs.length ≤ 1000 ∧ (k = 1 → Q (.ref l) H) ∧ (k ≠ 1 → NewT H (List.replicate k.toNat xs).flatten Q)
theorem op_rep : OpR X (binaryOp .Mult) (rRep X.K) := by
  intro pins s σ H x y v u Q I rx ry h
  obtain ⟨l, k, xs, rfl, rfl, hT, hne, h1, h2, hz, q1, q2⟩ := h
  cases rx
  obtain ⟨t, rfl⟩ := ry
  obtain ⟨vs, r, ⟨⟨cls, dd, data, sl⟩, ho, hc, n, hd⟩, hs⟩ := I.tuple hT
  simp only at hc hd
  subst hc hd
  have hv : vs.length = xs.length := r.length.symm
  have hn : vs ≠ [] := fun e => hne (by
    rw [e] at hv
    exact List.eq_nil_of_length_eq_zero hv.symm)
  have hi : vs.toArray.isEmpty = false := by
    cases vs with
    | nil => exact absurd rfl hn
    | cons z zs => rfl
  refine wpAny_binaryOp_repeat_ref (T := "tuple") (U := "int") (by decide) ⟨_, ho, rfl⟩ (fun s' => typeIs_int s' k t) noFill_tuple_mul F.fills_int_mul F.slot_int_rmul repeat_tuple F.slot_int_index.lookup
    (call_meets F.slot_int_rmul (typeIs_int s k t) F.entry_int_rmul (F.args_int_rmul_2 _ _) (int_rmul_tuple k t l vs.toArray n dd sl) ⟨ho, rfl, ⟨_, ho, rfl⟩, ?_⟩)
  by_cases c0 : k = 0
  · subst c0
    refine call_meets F.slot_tuple_mul ⟨_, ho, rfl⟩ F.entry_tuple_mul (F.args_tuple_mul_2 _ _) (mul_nil_tup l vs.toArray n dd sl t hi) ⟨ho, ?_⟩
    exact lay_tup (xs := []) (us := []) I (Nat.zero_le _) Paired.nil (q2 (by decide))
  by_cases c1 : k = 1
  · subst c1
    exact call_meets F.slot_tuple_mul ⟨_, ho, rfl⟩ F.entry_tuple_mul (F.args_tuple_mul_2 _ _) (mul_one_tup l vs.toArray n dd sl t) ⟨ho, ⟨.ref l, H, I, rfl, q1 rfl⟩⟩
  have hsz : vs.toArray.size = xs.length := by rw [List.size_toArray, hv]
  have hm : ((vs.toArray.size : Nat) : Int) * k ≤ 1000000 := by
    rw [hsz]
    have : ((xs.length : Nat) : Int) * k ≤ 1000 * k := Int.mul_le_mul_of_nonneg_right (by omega) (by omega)
    omega
  have hlen : k.toNat * xs.length ≤ 1000 * 1000 := Nat.mul_le_mul (by omega) hz
  have hfl : (List.replicate k.toNat xs).flatten.length ≤ sizeLine := by
    rw [PyProof.Rows.lm_len_rep_flat, sizeLine_eq]; omega
  refine call_meets F.slot_tuple_mul ⟨_, ho, rfl⟩ F.entry_tuple_mul (F.args_tuple_mul_2 _ _) (tuple_mulW l vs.toArray n dd sl k t ?_ ?_ ?_ ?_ ?_ ?_) ⟨ho, ?_⟩
  · rw [decide_eq_false (by omega), decide_eq_false (by omega)] <;> rfl
  · rw [hi, Bool.false_or]; exact beq_eq_false_iff_ne.mpr c1
  · rw [hi, Bool.or_false]; exact decide_eq_false (by omega)
  · omega
  · unfold Builtin.Tuple.tupleTooMany
    rw [sizeLine_eq]
    exact decide_eq_false (by omega)
  · rw [size_rep, List.size_toArray, PyProof.Rows.lm_len_rep_flat, hv, sizeLine_eq]; omega
  · rw [size_rep]
    exact lay_tup I hfl (r.rep k.toNat) (q2 c1)
/-! ### t.count(text) -/
def eqs (k : Str) (v : Value) : Bool := match v with
  | .str y _ => y.cps.toList == k.cps.toList
  | _ => false
theorem eqs_gives {k : Str} {t : Tok} : ∀ {us : List Value} {ss : List Str}, Vals (ss.map V.str) us → ∀ y ∈ us, MeetsSeq.EqGives y (.str k t) (eqs k y)
  | _, [], .nil => fun y hy => by cases hy
  | _, s :: ss, .cons r h => fun y hy => by
    obtain ⟨t', rfl⟩ := r
    rcases List.mem_cons.mp hy with e | e
    · rw [e]
      exact SeqRoads2.EqGives.str s k t' t
    · exact eqs_gives h y e
theorem eqs_count {k : Str} : ∀ {us : List Value} {ss : List Str}, Vals (ss.map V.str) us → us.countP (eqs k) = ss.countP (fun s => s.cps.toList == k.cps.toList)
  | _, [], .nil => rfl
  | _, s :: ss, .cons r h => by
    obtain ⟨t', rfl⟩ := r
    rw [List.countP_cons, List.countP_cons, eqs_count h]; rfl
def rCntS (K : PySem.W.Frag) : V → List V → Hp → VK → Prop := fun x xs H Q => ∃ (p : Addr) (ss : List Str) (k : Str), x = .ref p ∧ xs = [.str k] ∧ SqT K H p (ss.map V.str) ∧ Q (.int (ss.countP (fun s => s.cps.toList == k.cps.toList) : Nat)) H
theorem mt_tcount : MtR X "tuple.count" (rCntS X.K) := by
  intro pins s σ H x xs v us Q I rx rxs h
  obtain ⟨p, ss, k, rfl, rfl, hs, q⟩ := h
  cases rx
  obtain ⟨u, rfl, ru⟩ := rxs.one
  obtain ⟨t, rfl⟩ := ru
  obtain ⟨vs, rv, ⟨⟨cls, dd, data, sl⟩, ho, hc, n, hd⟩, hz⟩ := I.tuple hs
  simp only at hc hd
  subst hc hd
  refine call_meets PySem.F.slot_tuple_count ⟨_, ho, rfl⟩ PySem.F.entry_tuple_count (PySem.F.args_tuple_count_2 _ _) (SeqAt.tuple_countAt p vs.toArray n dd sl (.str k t) (eqs k)) ⟨ho, fun y hy => (eqs_gives rv y (by simpa using hy)).at _ _, ?_⟩
  have ec : vs.toArray.toList.countP (eqs k) = ss.countP (fun s => s.cps.toList == k.cps.toList) := eqs_count rv
  refine ⟨.int (ss.countP (fun s => s.cps.toList == k.cps.toList) : Nat), H, I.tok _, ⟨s.toks, ?_⟩, q⟩
  rw [ec]
/-- the tuple has no dict -/
def ND (K : PySem.W.Frag) (H : Hp) (a : Addr) : Prop := (∃ o u, H a = some (.frz o u) ∧ o.dict = none) ∨ ∃ o, K.lookup a = some o ∧ o.dict = none
def tyTup (K : PySem.W.Frag) (x : V) (H : Hp) : Prop := ∃ a xs, x = .ref a ∧ SqT K H a xs ∧ ND K H a
theorem ty_tup : TyOk X "tuple" (tyTup X.K) := by
  intro pins σ H s x v I r ty
  obtain ⟨a, xs, rfl, hT, nd⟩ := ty
  cases r
  obtain ⟨vs, _, ⟨ob, ho, hc, n, hd⟩, _⟩ := I.tuple hT
  refine ⟨⟨ob, ho, hc⟩, fun b e => ?_⟩
  cases e
  rcases nd with ⟨o, u, e1, e2⟩ | ⟨o, e1, e2⟩
  · obtain ⟨h1, _⟩ := (show ObjOk X.prog X.w H s.heap a (.frz o u) from I.hok a _ e1)
    exact ⟨o, h1, e2⟩
  · exact ⟨o, I.kIn _ _ e1, e2⟩
end
end DL
/-! A logic of plain data over the hand layer: what a slot holds is data (D), the heap is not seen. M: addresses that the code does not see (private lists, the bag); B: the bag's address. -/
namespace DL
open PySem PySem.Spec PyProof.Rows L2

inductive D where
  | non | bl (b : Bool) | int (i : Int) | str (x : Str) | lst (xs : List D) | tup (xs : List D) | bag | adr (p : Addr) | scr (ns : List Int) | ins (C : Addr) (fs : List Str) (xs : List D) | obj (P : Addr → HO → Prop)

abbrev Ex := Evl.Ex
/-- a tuple, without a dict -/
def SqD (K : PySem.W.Frag) (G : Hp) (a : Addr) (xs : List V) : Prop := SqT K G a xs ∧ ND K G a
theorem SqD.ex {K : PySem.W.Frag} {G G' : Hp} {a : Addr} {xs : List V} (e : Ex G G') (h : SqD K G a xs) : SqD K G' a xs := by
  refine ⟨Evl.ex_t e h.1, ?_⟩
  rcases h.2 with ⟨o, u, h1, h2⟩ | h1
  · exact .inl ⟨o, u, e _ _ h1, h2⟩
  · exact .inr h1
mutual
def RD (K : PySem.W.Frag) (B : Option Addr) (G : Hp) : D → V → Prop
  | .non, v => v = .non
  | .bl b, v => v = .bl b
  | .int i, v => v = .int i
  | .str x, v => v = .str x
  | .lst ds, v => ∃ a xs, v = .ref a ∧ G a = some (.lst xs) ∧ RDs K B G ds xs
  | .tup ds, v => ∃ a xs, v = .ref a ∧ SqD K G a xs ∧ RDs K B G ds xs
  | .bag, v => ∃ b, B = some b ∧ v = .ref b
  | .adr p, v => v = .ref p
  | .scr ns, v => ∃ a, v = .ref a ∧ SqL K G a (ns.map V.int)
  | .ins C fs ds, v => ∃ a dx xs, v = .ref a ∧ G a = some (.ins C dx (fs.zip xs)) ∧ RDs K B G ds xs
  | .obj P, v => ∃ a o, v = .ref a ∧ G a = some o ∧ P a o
def RDs (K : PySem.W.Frag) (B : Option Addr) (G : Hp) : List D → List V → Prop
  | [], xs => xs = []
  | d :: ds, xs => ∃ y ys, xs = y :: ys ∧ RD K B G d y ∧ RDs K B G ds ys
end
section
variable {K : PySem.W.Frag} {B : Option Addr} {G G' : Hp}
mutual
theorem RD.ex (e : Ex G G') : ∀ (d : D) (v : V), RD K B G d v → RD K B G' d v
  | .non, _, h => h
  | .bl _, _, h => h
  | .int _, _, h => h
  | .str _, _, h => h
  | .lst ds, _, ⟨a, xs, e1, e2, e3⟩ => ⟨a, xs, e1, e _ _ e2, RDs.ex e ds xs e3⟩
  | .tup ds, _, ⟨a, xs, e1, e2, e3⟩ => ⟨a, xs, e1, SqD.ex e e2, RDs.ex e ds xs e3⟩
  | .bag, _, h => h
  | .adr _, _, h => h
  | .scr _, _, ⟨a, e1, e2⟩ => ⟨a, e1, Evl.ex_l e e2⟩
  | .ins _ _ ds, _, ⟨a, dx, xs, e1, e2, e3⟩ => ⟨a, dx, xs, e1, e _ _ e2, RDs.ex e ds xs e3⟩
  | .obj _, _, ⟨a, o, e1, e2, e3⟩ => ⟨a, o, e1, e _ _ e2, e3⟩
theorem RDs.ex (e : Ex G G') : ∀ (ds : List D) (xs : List V), RDs K B G ds xs → RDs K B G' ds xs
  | [], _, h => h
  | d :: ds, _, ⟨y, ys, e1, e2, e3⟩ => ⟨y, ys, e1, RD.ex e d y e2, RDs.ex e ds ys e3⟩
end
theorem RDs.len : ∀ {ds : List D} {xs : List V}, RDs K B G ds xs → xs.length = ds.length
  | [], _, h => by rw [show _ = [] from h]; rfl
  | d :: ds, _, ⟨y, ys, e1, e2, e3⟩ => by rw [e1, List.length_cons, List.length_cons, RDs.len e3]
theorem RDs.get : ∀ {ds : List D} {xs : List V} {i : Nat} {x : V}, RDs K B G ds xs → xs[i]? = some x → ∃ d, ds[i]? = some d ∧ RD K B G d x
  | [], _, i, x, h, q => by rw [show _ = [] from h] at q; simp at q
  | d :: ds, _, 0, x, ⟨y, ys, e1, e2, e3⟩, q => by
    rw [e1] at q
    have e : y = x := Option.some.inj q
    exact ⟨d, rfl, e ▸ e2⟩
  | d :: ds, _, i + 1, x, ⟨y, ys, e1, e2, e3⟩, q => by
    rw [e1] at q
    exact RDs.get (i := i) e3 q
theorem RDs.gt : ∀ {ds : List D} {xs : List V} {i : Nat} {d : D}, RDs K B G ds xs → ds[i]? = some d → ∃ x, xs[i]? = some x ∧ RD K B G d x
  | [], _, i, x, h, q => by simp at q
  | d :: ds, _, 0, x, ⟨y, ys, e1, e2, e3⟩, q => by
    have e : d = x := Option.some.inj q
    exact ⟨y, by rw [e1]; rfl, e ▸ e2⟩
  | d :: ds, _, i + 1, x, ⟨y, ys, e1, e2, e3⟩, q => by
    obtain ⟨z, h1, h2⟩ := RDs.gt (i := i) e3 q
    exact ⟨z, by rw [e1]; exact h1, h2⟩
theorem RDs.app : ∀ {ds es : List D} {xs ys : List V}, RDs K B G ds xs → RDs K B G es ys → RDs K B G (ds ++ es) (xs ++ ys)
  | [], _, _, _, h, q => by rw [show _ = [] from h]; exact q
  | d :: ds, _, _, _, ⟨y, ys, e1, e2, e3⟩, q => by
    rw [e1]
    exact ⟨y, ys ++ _, rfl, e2, RDs.app e3 q⟩
theorem RDs.drop : ∀ {ds : List D} {xs : List V} (n : Nat), RDs K B G ds xs → RDs K B G (ds.drop n) (xs.drop n)
  | _, _, 0, h => h
  | [], _, n + 1, h => by rw [show _ = [] from h]; exact rfl
  | d :: ds, _, n + 1, ⟨y, ys, e1, e2, e3⟩ => by
    rw [e1]
    exact RDs.drop n e3
theorem RDs.take : ∀ {ds : List D} {xs : List V} (n : Nat), RDs K B G ds xs → RDs K B G (ds.take n) (xs.take n)
  | _, _, 0, h => rfl
  | [], _, n + 1, h => by rw [show _ = [] from h]; exact rfl
  | d :: ds, _, n + 1, ⟨y, ys, e1, e2, e3⟩ => by
    rw [e1]
    exact ⟨y, _, rfl, e2, RDs.take n e3⟩
theorem RDs.rev : ∀ {ds : List D} {xs : List V}, RDs K B G ds xs → RDs K B G ds.reverse xs.reverse
  | [], _, h => by rw [show _ = [] from h]; exact rfl
  | d :: ds, _, ⟨y, ys, e1, e2, e3⟩ => by
    rw [e1, List.reverse_cons, List.reverse_cons]
    exact RDs.app (RDs.rev e3) ⟨y, [], rfl, e2, rfl⟩
theorem RDs.nil {xs : List V} (h : RDs K B G [] xs) : xs = [] := h
theorem RDs.ints : ∀ (ns : List Int), RDs K B G (ns.map D.int) (ns.map V.int)
  | [] => rfl
  | n :: ns => ⟨_, _, rfl, rfl, RDs.ints ns⟩
theorem RDs.of_ints : ∀ (ns : List Int) (xs : List V), RDs K B G (ns.map D.int) xs → xs = ns.map V.int
  | [], _, h => h
  | n :: ns, _, ⟨y, ys, e1, e2, e3⟩ => by
    rw [e1, show y = V.int n from e2, RDs.of_ints ns ys e3]; rfl
theorem RDs.of_bls : ∀ (ns : List Bool) (xs : List V), RDs K B G (ns.map D.bl) xs → xs = ns.map V.bl
  | [], _, h => h
  | n :: ns, _, ⟨y, ys, e1, e2, e3⟩ => by
    rw [e1, show y = V.bl n from e2, RDs.of_bls ns ys e3]; rfl
end

/-! ### what is hidden -/
def hid (M : List Addr) (H : Hp) : Hp := fun a => if a ∈ M then none else H a
theorem hid_of {M : List Addr} {H : Hp} {a : Addr} {o : HO} (h : hid M H a = some o) : a ∉ M ∧ H a = some o := by
  unfold hid at h
  by_cases c : a ∈ M
  · rw [if_pos c] at h; cases h
  · rw [if_neg c] at h; exact ⟨c, h⟩
theorem hid_at {M : List Addr} {H : Hp} {a : Addr} {o : HO} (c : a ∉ M) (h : H a = some o) : hid M H a = some o := by
  unfold hid; rw [if_neg c]; exact h
theorem hid_ex (M : List Addr) (H : Hp) : Ex (hid M H) H := fun _ _ h => (hid_of h).2
theorem hid_sub {M M' : List Addr} (H : Hp) (h : ∀ a ∈ M, a ∈ M') : Ex (hid M' H) (hid M H) := fun a o e => hid_at (fun c => (hid_of e).1 (h a c)) (hid_of e).2
structure Bag (K : PySem.W.Frag) (M : List Addr) (b : Addr) (H : Hp) (dr : Addr) (n : Int) (ns : List Int) : Prop where
  mem : b ∈ M
  at_ : H b = some (.lst [.ref dr, .int n])
  dr_ : hid M H dr = some (.lst (ns.map V.int))
  len : ns.length = 400
  rng : ∀ x ∈ ns, 0 ≤ x ∧ x < 1000
/-- the heap is well: what is hidden is there, the bag is a bag -/
structure Ok (K : PySem.W.Frag) (B : Option Addr) (M : List Addr) (H : Hp) : Prop where
  all : ∀ a ∈ M, ∃ o, H a = some o
  bag : ∀ b, B = some b → ∃ dr n ns, Bag K M b H dr n ns
structure Stp (K : PySem.W.Frag) (B : Option Addr) (M : List Addr) (H H2 : Hp) : Prop where
  ex : Ex (hid M H) (hid M H2)
  pr : ∀ a ∈ M, B ≠ some a → H2 a = H a
  bg : ∀ b dr n ns, B = some b → Bag K M b H dr n ns → ∃ n', Bag K M b H2 dr n' ns
section
variable {K : PySem.W.Frag} {B : Option Addr} {M : List Addr} {H H1 H2 : Hp}
theorem Stp.refl : Stp K B M H H := ⟨fun _ _ h => h, fun _ _ _ => rfl, fun _ _ n _ _ w => ⟨n, w⟩⟩
theorem Stp.trans (a : Stp K B M H H1) (b : Stp K B M H1 H2) : Stp K B M H H2 :=
  ⟨fun c o h => b.ex c o (a.ex c o h), fun c m n => (b.pr c m n).trans (a.pr c m n), fun c dr n ns e w => by
    obtain ⟨n1, w1⟩ := a.bg c dr n ns e w
    exact b.bg c dr n1 ns e w1⟩
theorem Stp.ok (t : Stp K B M H H2) (k : Ok K B M H) : Ok K B M H2 := by
  refine ⟨fun a m => ?_, fun b e => ?_⟩
  · by_cases c : B = some a
    · obtain ⟨dr, n, ns, w⟩ := k.bag a c
      obtain ⟨n', w'⟩ := t.bg a dr n ns c w
      exact ⟨_, w'.at_⟩
    · obtain ⟨o, h⟩ := k.all a m
      exact ⟨o, (t.pr a m c).trans h⟩
  · obtain ⟨dr, n, ns, w⟩ := k.bag b e
    obtain ⟨n', w'⟩ := t.bg b dr n ns e w
    exact ⟨dr, n', ns, w'⟩
/-- a new object -/
theorem Ok.fresh (k : Ok K B M H) {p : Addr} (hp : H p = none) : p ∉ M := fun m => by
  obtain ⟨o, e⟩ := k.all p m
  rw [hp] at e; cases e
/-- nothing that stood has changed -/
theorem Stp.same (e : Ex H H2) (k : Ok K B M H) : Stp K B M H H2 := by
  have ex : Ex (hid M H) (hid M H2) := fun a o h => hid_at (hid_of h).1 (e _ _ (hid_of h).2)
  refine ⟨ex, fun a m _ => ?_, fun b dr n ns eb w => ⟨n, w.mem, e _ _ w.at_, ex _ _ w.dr_, w.len, w.rng⟩⟩
  obtain ⟨o, h⟩ := k.all a m
  rw [h]; exact e _ _ h
theorem Stp.new (k : Ok K B M H) {p : Addr} {o : HO} (hp : H p = none) : Stp K B M H (upd H p o) := .same (Evl.Ex.new hp) k
theorem new_tup (k : Ok K B M H) {p : Addr} {ob : Obj} {xs : List V} (hp : H p = none) (hd : ob.dict = none) : SqD K (hid M (upd H p (.frz ob (.tup xs)))) p xs := by
  have e : hid M (upd H p (.frz ob (.tup xs))) p = some (.frz ob (.tup xs)) := hid_at (k.fresh hp) upd_same
  exact ⟨.inl (.inr ⟨ob, e⟩), .inl ⟨ob, _, e, hd⟩⟩
theorem new_at (k : Ok K B M H) {p : Addr} {o : HO} (hp : H p = none) : hid M (upd H p o) p = some o := hid_at (k.fresh hp) upd_same
end

/-! ### states -/
abbrev Dst := List (Option D)
structure Rep (K : PySem.W.Frag) (B : Option Addr) (M : List Addr) (H : Hp) (σ : L2.St) (δ : Dst) : Prop where
  ok : Ok K B M H
  len : σ.length = δ.length
  at_ : ∀ (i : Nat) d, δ[i]? = some (some d) → ∃ v, σ[i]? = some (some v) ∧ RD K B (hid M H) d v
section
variable {K : PySem.W.Frag} {B : Option Addr} {M : List Addr} {H H1 H2 : Hp} {σ : L2.St} {δ : Dst}
theorem Rep.stp (r : Rep K B M H σ δ) (s : Stp K B M H H2) : Rep K B M H2 σ δ :=
  ⟨s.ok r.ok, r.len, fun i d e => by
    obtain ⟨v, h1, h2⟩ := r.at_ i d e
    exact ⟨v, h1, RD.ex s.ex d v h2⟩⟩
theorem Rep.set (r : Rep K B M H σ δ) {i : Nat} {d : D} {v : V} (h : RD K B (hid M H) d v) : Rep K B M H (σ.set i (some v)) (δ.set i (some d)) := by
  refine ⟨r.ok, by rw [List.length_set, List.length_set]; exact r.len, fun j e hj => ?_⟩
  by_cases c : i = j
  · subst c
    rw [List.getElem?_set_self' ] at hj
    cases q : δ[i]? with
    | none => rw [q] at hj; cases hj
    | some w =>
      rw [q] at hj
      have ed : d = e := by simpa using hj
      subst ed
      have li : i < δ.length := (List.getElem?_eq_some_iff.mp q).1
      refine ⟨v, ?_, h⟩
      rw [List.getElem?_set_self (by rw [r.len]; exact li)]
  · rw [List.getElem?_set_ne c] at hj
    obtain ⟨w, h1, h2⟩ := r.at_ j e hj
    exact ⟨w, by rw [List.getElem?_set_ne c]; exact h1, h2⟩
end

/-! ### readings of data -/
abbrev DE := Dst → (D → Prop) → (Addr → Prop) → Prop
abbrev DA := Dst → (List D → Prop) → (Addr → Prop) → Prop
abbrev DT := Dst → (Bool → Prop) → (Addr → Prop) → Prop
structure DN where
  nx : Dst → Prop
  rt : D → Prop
  ex : Addr → Prop
  bk : Dst → Prop := fun _ => False
  ct : Dst → Prop := fun _ => False
abbrev DS := DN → Dst → Prop
abbrev DG := D → Dst → (Dst → Prop) → Prop

def SE (K : PySem.W.Frag) (E : XK) (te : TE) (de : DE) : Prop := ∀ B M σ δ H k kx (Q : VK), Rep K B M H σ δ → de δ k kx →
  (∀ v d H2, Stp K B M H H2 → RD K B (hid M H2) d v → k d → Q v H2) → (∀ C H2, Stp K B M H H2 → kx C → E (.ref C) none H2) → te σ H Q
def SA (K : PySem.W.Frag) (E : XK) (te : TA) (de : DA) : Prop := ∀ B M σ δ H k kx (Q : List V → Hp → Prop), Rep K B M H σ δ → de δ k kx →
  (∀ vs ds H2, Stp K B M H H2 → RDs K B (hid M H2) ds vs → k ds → Q vs H2) → (∀ C H2, Stp K B M H H2 → kx C → E (.ref C) none H2) → te σ H Q
def ST (K : PySem.W.Frag) (E : XK) (te : TT) (de : DT) : Prop := ∀ B M σ δ H k kx (Q : Bool → Hp → Prop), Rep K B M H σ δ → de δ k kx →
  (∀ b H2, Stp K B M H H2 → k b → Q b H2) → (∀ C H2, Stp K B M H H2 → kx C → E (.ref C) none H2) → te σ H Q
structure Lk (K : PySem.W.Frag) (E : XK) (B : Option Addr) (M : List Addr) (H : Hp) (D0 : DN) (D1 : Ends) : Prop where
  nx : ∀ σ δ H2, Stp K B M H H2 → Rep K B M H2 σ δ → D0.nx δ → D1.nx σ H2
  rt : ∀ v d H2, Stp K B M H H2 → RD K B (hid M H2) d v → D0.rt d → D1.rt v H2
  ex : ∀ C H2, Stp K B M H H2 → D0.ex C → E (.ref C) none H2
  bk : ∀ σ δ H2, Stp K B M H H2 → Rep K B M H2 σ δ → D0.bk δ → D1.bk σ H2
  ct : ∀ σ δ H2, Stp K B M H H2 → Rep K B M H2 σ δ → D0.ct δ → D1.ct σ H2
def SS (K : PySem.W.Frag) (E : XK) (ts : TS) (ds : DS) : Prop := ∀ B M σ δ H D0 D1, Rep K B M H σ δ → ds D0 δ → Lk K E B M H D0 D1 → ts D1 σ H
def SG (K : PySem.W.Frag) (g : TG) (dg : DG) : Prop := ∀ B M σ δ H v d (k : Dst → Prop) (Q : L2.St → Hp → Prop), Rep K B M H σ δ → RD K B (hid M H) d v → dg d δ k →
  (∀ σ' δ', Rep K B M H σ' δ' → k δ' → Q σ' H) → g v σ H Q
theorem Lk.stp {K : PySem.W.Frag} {E : XK} {B : Option Addr} {M : List Addr} {H H2 : Hp} {D0 : DN} {D1 : Ends} (l : Lk K E B M H D0 D1) (s : Stp K B M H H2) : Lk K E B M H2 D0 D1 :=
  ⟨fun σ δ H3 t => l.nx σ δ H3 (s.trans t), fun v d H3 t => l.rt v d H3 (s.trans t), fun C H3 t => l.ex C H3 (s.trans t), fun σ δ H3 t => l.bk σ δ H3 (s.trans t), fun σ δ H3 t => l.ct σ δ H3 (s.trans t)⟩

/-! ### what the code is, with its reading of data -/
def PD (X : Cx) (E : XK) (e : Expr) (de : DE) : Prop := ∃ te, PE X e te ∧ SE X.K E te de
def PDA (X : Cx) (E : XK) (es : List Expr) (de : DA) : Prop := ∃ te, PA X es te ∧ SA X.K E te de
def PDT (X : Cx) (E : XK) (e : Expr) (de : DT) : Prop := ∃ te, PT X e te ∧ ST X.K E te de
def PDW (X : Cx) (E : XK) (e : Expr) (de : DT) : Prop := ∃ te, PW X e te ∧ ST X.K E te de
def PDS (X : Cx) (E : XK) (s : Stmt) (de : DS) : Prop := ∃ te, PS X s te ∧ SS X.K E te de
def PDB (X : Cx) (E : XK) (s : List Stmt) (de : DS) : Prop := ∃ te, PSs X s te ∧ SS X.K E te de
def PDG (X : Cx) (e : Expr) (de : DG) : Prop := ∃ te, PG X e te ∧ SG X.K te de

section
variable {X : Cx} {E : XK} {a b c e : Expr} {es : List Expr} {da db dc de : DE} {das : DA} {dt du : DT} {pos : Pos}
/-! ### names, constants -/
def dVar (i : Nat) : DE := fun δ k _ => match δ[i]? with
  | some (some d) => k d
  | _ => False
def dC (d : D) : DE := fun _ k _ => k d
theorem se_var {K : PySem.W.Frag} (i : Nat) : SE K E (tVar i) (dVar i) := by
  intro B M σ δ H k kx Q r h hq _
  unfold dVar at h
  cases q : δ[i]? with
  | none => rw [q] at h; exact h.elim
  | some o =>
    cases o with
    | none => rw [q] at h; exact h.elim
    | some d =>
      rw [q] at h
      obtain ⟨v, h1, h2⟩ := r.at_ i d q
      exact ⟨v, h1, hq v d H .refl h2 h⟩
theorem dv (i : Nat) {x : Str} (hN : X.N[i]? = some x := by rfl) (hv : Vis X.env.scope x := by first | exact Or.inl rfl | exact Or.inr (Or.inl rfl) | exact Or.inr (Or.inr rfl)) (hd : (x == ("__debug__" : Str)) = false := by decide)
    (hcd : (x == ("__classdict__" : Str)) = false := by decide) : PD X E (.Name x pos) (dVar i) := ⟨_, pe_var hN hv hd hcd, se_var i⟩
theorem se_c {K : PySem.W.Frag} {v : V} {d : D} (h : ∀ B G, RD K B G d v) : SE K E (tC v) (dC d) := fun B M σ δ H k kx Q r hd hq _ => hq v d H .refl (h _ _) hd
theorem d_int {i : Int} {j : Nat} : PD X E (.Constant (.int i) j pos) (dC (.int i)) := ⟨_, pe_int, se_c fun _ _ => rfl⟩
theorem d_bl {b : Bool} {j : Nat} : PD X E (.Constant (.bool b) j pos) (dC (.bl b)) := ⟨_, pe_bl, se_c fun _ _ => rfl⟩
theorem d_non {j : Nat} : PD X E (.Constant .none j pos) (dC .non) := ⟨_, pe_non, se_c fun _ _ => rfl⟩
theorem d_str {x : Str} {j : Nat} : PD X E (.Constant (.str x) j pos) (dC (.str x)) := ⟨_, pe_str, se_c fun _ _ => rfl⟩
/-- a constant of the module -/
theorem d_gint {x : Str} {i : Int} {t : Tok} (hg : Gl X x) (hm : X.mg x = some (.int i t)) (hd : (x == ("__debug__" : Str)) = false := by decide) : PD X E (.Name x pos) (dC (.int i)) := ⟨_, pe_glob (v := .int i) hg hm ⟨t, rfl⟩ hd, se_c fun _ _ => rfl⟩
theorem d_gref {x : Str} {p : Addr} (hg : Gl X x) (hm : X.mg x = some (.ref p)) (hd : (x == ("__debug__" : Str)) = false := by decide) : PD X E (.Name x pos) (dC (.adr p)) := ⟨_, pe_glob (v := .ref p) hg hm rfl hd, se_c fun _ _ => rfl⟩
/-! ### two values -/
/-- a two-place operation on data -/
abbrev DR := D → D → (D → Prop) → Prop
def SR (K : PySem.W.Frag) (r : R2) (dr : DR) : Prop := ∀ B M H x y v w k (Q : VK), Ok K B M H → RD K B (hid M H) x v → RD K B (hid M H) y w → dr x y k → (∀ u d H2, Stp K B M H H2 → RD K B (hid M H2) d u → k d → Q u H2) → r v w H Q
def dOp (dr : DR) (da db : DE) : DE := fun δ k kx => da δ (fun x => db δ (fun y => dr x y k) kx) kx
theorem se_op {K : PySem.W.Frag} {r : R2} {dr : DR} {ta tb : TE} (hr : SR K r dr) (ha : SE K E ta da) (hb : SE K E tb db) : SE K E (tOp r ta tb) (dOp dr da db) :=
  fun B M σ δ H k kx Q rp h hq hx => ha B M σ δ H _ kx _ rp h (fun v x H1 s1 r1 h1 => hb B M σ δ H1 _ kx _ (rp.stp s1) h1 (fun w y H2 s2 r2 h2 => hr B M H2 x y v w k Q (s2.ok (s1.ok rp.ok)) (RD.ex s2.ex _ _ r1) r2 h2
    (fun u d H3 s3 r3 h3 => hq u d H3 ((s1.trans s2).trans s3) r3 h3)) (fun C H2 s2 h2 => hx C H2 (s1.trans s2) h2)) hx
theorem d_op {op : Operator} {r : R2} {dr : DR} (ho : OpR X (binaryOp op) r) (hr : SR X.K r dr) : PD X E a da → PD X E b db → PD X E (.BinOp a op b pos) (dOp dr da db)
  | ⟨_, h1, s1⟩, ⟨_, h2, s2⟩ => ⟨_, pe_op ho h1 h2, se_op hr s1 s2⟩
theorem d_cmp {op : CmpOp} {r : R2} {dr : DR} (ho : OpR X (compareOp op) r) (hr : SR X.K r dr) (hm : behindInMarks op b = false) : PD X E a da → PD X E b db → PD X E (.Compare a [op] [b] pos) (dOp dr da db)
  | ⟨_, h1, s1⟩, ⟨_, h2, s2⟩ => ⟨_, pe_cmpR ho h1 h2 hm, se_op hr s1 s2⟩
/-- ints -/
def dI0 (g : Int → Int → D) : DR := fun x y k => match x, y with
  | .int i, .int j => k (g i j)
  | _, _ => False
def dI (C : Int → Int → Prop) (g : Int → Int → D) : DR := fun x y k => match x, y with
  | .int i, .int j => C i j ∧ k (g i j)
  | _, _ => False
theorem sr_I0 {K : PySem.W.Frag} {g : Int → Int → V} {h : Int → Int → D} (e : ∀ B G i j, RD K B G (h i j) (g i j)) : SR K (rI0 g) (dI0 h) := by
  intro B M H x y v w k Q ok hx hy hd hq
  cases x <;> try exact hd.elim
  cases y <;> try exact hd.elim
  rename_i i j
  exact ⟨i, j, hx, hy, hq _ _ H .refl (e _ _ i j) hd⟩
theorem sr_I {K : PySem.W.Frag} {C : Int → Int → Prop} {g : Int → Int → V} {h : Int → Int → D} (e : ∀ B G i j, RD K B G (h i j) (g i j)) : SR K (rI C g) (dI C h) := by
  intro B M H x y v w k Q ok hx hy hd hq
  cases x <;> try exact hd.elim
  cases y <;> try exact hd.elim
  rename_i i j
  exact ⟨i, j, hx, hy, hd.1, hq _ _ H .refl (e _ _ i j) hd.2⟩
abbrev dAdd := dOp (dI0 fun i j => .int (i + j))
abbrev dSub := dOp (dI0 fun i j => .int (i - j))
abbrev dMul := dOp (dI CMulW fun i j => .int (i * j))
abbrev dMulS := dOp (dI CMul fun i j => .int (i * j))
abbrev dDiv := dOp (dI CDivW fun i j => .int (i / j))
abbrev dMod := dOp (dI (fun _ j => 0 < j) fun i j => .int (i % j))
abbrev dPow := dOp (dI CPow fun i j => .int (i ^ j.toNat))
abbrev dLt := dOp (dI0 fun i j => .bl (decide (i < j)))
abbrev dLe := dOp (dI0 fun i j => .bl (decide (i ≤ j)))
abbrev dGt := dOp (dI0 fun i j => .bl (decide (j < i)))
abbrev dGe := dOp (dI0 fun i j => .bl (decide (j ≤ i)))
theorem d_add (ha : PD X E a da) (hb : PD X E b db) : PD X E (.BinOp a .Add b pos) (dAdd da db) := d_op op_add (sr_I0 fun _ _ _ _ => rfl) ha hb
theorem d_sub (ha : PD X E a da) (hb : PD X E b db) : PD X E (.BinOp a .Sub b pos) (dSub da db) := d_op op_sub (sr_I0 fun _ _ _ _ => rfl) ha hb
theorem d_mul (ha : PD X E a da) (hb : PD X E b db) : PD X E (.BinOp a .Mult b pos) (dMul da db) := d_op op_mulW (sr_I fun _ _ _ _ => rfl) ha hb
theorem d_mulS (ha : PD X E a da) (hb : PD X E b db) : PD X E (.BinOp a .Mult b pos) (dMulS da db) := d_op op_mul (sr_I fun _ _ _ _ => rfl) ha hb
theorem d_div (ha : PD X E a da) (hb : PD X E b db) : PD X E (.BinOp a .FloorDiv b pos) (dDiv da db) := d_op op_fdivW (sr_I fun _ _ _ _ => rfl) ha hb
theorem d_mod (ha : PD X E a da) (hb : PD X E b db) : PD X E (.BinOp a .Mod b pos) (dMod da db) := d_op op_mod (sr_I fun _ _ _ _ => rfl) ha hb
theorem d_pow (ha : PD X E a da) (hb : PD X E b db) : PD X E (.BinOp a .Pow b pos) (dPow da db) := d_op op_pow (sr_I fun _ _ _ _ => rfl) ha hb
theorem d_lt (ha : PD X E a da) (hb : PD X E b db) : PD X E (.Compare a [.Lt] [b] pos) (dLt da db) := d_cmp op_lt (sr_I0 fun _ _ _ _ => rfl) (nomark _) ha hb
theorem d_le (ha : PD X E a da) (hb : PD X E b db) : PD X E (.Compare a [.LtE] [b] pos) (dLe da db) := d_cmp op_le (sr_I0 fun _ _ _ _ => rfl) (nomark _) ha hb
theorem d_gt (ha : PD X E a da) (hb : PD X E b db) : PD X E (.Compare a [.Gt] [b] pos) (dGt da db) := d_cmp op_gt (sr_I0 fun _ _ _ _ => rfl) (nomark _) ha hb
theorem d_ge (ha : PD X E a da) (hb : PD X E b db) : PD X E (.Compare a [.GtE] [b] pos) (dGe da db) := d_cmp op_ge (sr_I0 fun _ _ _ _ => rfl) (nomark _) ha hb
/-! ### one value -/
def dNeg (da : DE) : DE := fun δ k kx => da δ (fun x => match x with
  | .int i => k (.int (-i))
  | _ => False) kx
theorem d_neg : PD X E a da → PD X E (.UnaryOp .USub a pos) (dNeg da)
  | ⟨_, h1, s1⟩ => ⟨_, pe_un un_neg h1, fun B M σ δ H k kx Q rp h hq hx => s1 B M σ δ H _ kx _ rp h (fun v x H1 t1 r1 h1 => by
      cases x <;> try exact h1.elim
      rename_i i
      exact ⟨i, r1, hq _ (.int (-i)) H1 t1 rfl h1⟩) hx⟩
/-! ### truth -/
def dB (da : DE) : DT := fun δ k kx => da δ (fun x => match x with
  | .bl b => k b
  | _ => False) kx
theorem t_val (h : PD X E e de) (he : ∀ whole, isTrue e X.env whole = (do let v ← whole; standAt e.pos; holding [v] (truthy v)) := by intro _; rfl) : PDT X E e (dB de) := by
  obtain ⟨te, h1, s1⟩ := h
  refine ⟨_, pt_val h1 he, fun B M σ δ H k kx Q rp h hq hx => s1 B M σ δ H _ kx _ rp h (fun v x H1 t1 r1 h1 => ?_) hx⟩
  cases x <;> try exact h1.elim
  exact ⟨_, r1, hq _ H1 t1 h1⟩
theorem t_cmp {op : CmpOp} {r : R2} {dr : DR} (ho : OpR X (compareOp op) r) (hr : SR X.K r dr) (hm : behindInMarks op b = false) (ha : PD X E a da) (hb : PD X E b db) : PDT X E (.Compare a [op] [b] pos) (dB (dOp dr da db)) := by
  obtain ⟨ta, h1, s1⟩ := ha
  obtain ⟨tb, h2, s2⟩ := hb
  refine ⟨_, pt_cmpR ho h1 h2 hm, fun B M σ δ H k kx Q rp h hq hx => (se_op hr s1 s2) B M σ δ H _ kx _ rp h (fun v x H1 t1 r1 h1 => ?_) hx⟩
  cases x <;> try exact h1.elim
  exact ⟨_, r1, hq _ H1 t1 h1⟩
theorem t_lt (ha : PD X E a da) (hb : PD X E b db) : PDT X E (.Compare a [.Lt] [b] pos) (dB (dLt da db)) := t_cmp op_lt (sr_I0 fun _ _ _ _ => rfl) (nomark _) ha hb
theorem t_le (ha : PD X E a da) (hb : PD X E b db) : PDT X E (.Compare a [.LtE] [b] pos) (dB (dLe da db)) := t_cmp op_le (sr_I0 fun _ _ _ _ => rfl) (nomark _) ha hb
theorem t_gt (ha : PD X E a da) (hb : PD X E b db) : PDT X E (.Compare a [.Gt] [b] pos) (dB (dGt da db)) := t_cmp op_gt (sr_I0 fun _ _ _ _ => rfl) (nomark _) ha hb
theorem t_ge (ha : PD X E a da) (hb : PD X E b db) : PDT X E (.Compare a [.GtE] [b] pos) (dB (dGe da db)) := t_cmp op_ge (sr_I0 fun _ _ _ _ => rfl) (nomark _) ha hb
def dAnd (t u : DT) : DT := fun δ k kx => t δ (fun c => if c = true then u δ k kx else k false) kx
def dOr (t u : DT) : DT := fun δ k kx => t δ (fun c => if c = true then k true else u δ k kx) kx
def dNot (t : DT) : DT := fun δ k kx => t δ (fun c => k (!c)) kx
theorem st_and {K : PySem.W.Frag} {t u : TT} (h1 : ST K E t dt) (h2 : ST K E u du) : ST K E (tAnd t u) (dAnd dt du) :=
  fun B M σ δ H k kx Q rp h hq hx => h1 B M σ δ H _ kx _ rp h (fun c H1 t1 q1 => by
    cases c with
    | true =>
      refine iteT (h2 B M σ δ H1 k kx Q (rp.stp t1) ?_ (fun b H2 t2 q2 => hq b H2 (t1.trans t2) q2) (fun C H2 t2 q2 => hx C H2 (t1.trans t2) q2))
      simpa using q1
    | false => exact iteF (hq false H1 t1 (by simpa using q1))) hx
theorem st_or {K : PySem.W.Frag} {t u : TT} (h1 : ST K E t dt) (h2 : ST K E u du) : ST K E (tOr t u) (dOr dt du) :=
  fun B M σ δ H k kx Q rp h hq hx => h1 B M σ δ H _ kx _ rp h (fun c H1 t1 q1 => by
    cases c with
    | true => exact iteT (hq true H1 t1 (by simpa using q1))
    | false =>
      refine iteF (h2 B M σ δ H1 k kx Q (rp.stp t1) ?_ (fun b H2 t2 q2 => hq b H2 (t1.trans t2) q2) (fun C H2 t2 q2 => hx C H2 (t1.trans t2) q2))
      simpa using q1) hx
theorem w_and1 : PDT X E a dt → PDW X E (.BoolOp .And [a] pos) dt
  | ⟨_, h, s⟩ => ⟨_, pw_and1 h, s⟩
theorem w_or1 : PDT X E a dt → PDW X E (.BoolOp .Or [a] pos) dt
  | ⟨_, h, s⟩ => ⟨_, pw_or1 h, s⟩
theorem w_and {rest : List Expr} : PDT X E a dt → PDW X E (.BoolOp .And (b :: rest) pos) du → PDW X E (.BoolOp .And (a :: b :: rest) pos) (dAnd dt du)
  | ⟨_, h1, s1⟩, ⟨_, h2, s2⟩ => ⟨_, pw_and h1 h2, st_and s1 s2⟩
theorem w_or {rest : List Expr} : PDT X E a dt → PDW X E (.BoolOp .Or (b :: rest) pos) du → PDW X E (.BoolOp .Or (a :: b :: rest) pos) (dOr dt du)
  | ⟨_, h1, s1⟩, ⟨_, h2, s2⟩ => ⟨_, pw_or h1 h2, st_or s1 s2⟩
theorem t_w : PDW X E a dt → PDT X E a dt
  | ⟨_, h, s⟩ => ⟨_, h.pt, s⟩
theorem t_not : PDT X E a dt → PDT X E (.UnaryOp .Not a pos) (dNot dt)
  | ⟨_, h, s⟩ => ⟨_, pt_not h, fun B M σ δ H k kx Q rp h hq hx => s B M σ δ H _ kx _ rp h (fun c H1 t1 q1 => hq _ H1 t1 q1) hx⟩
/-- as values -/
def dAndV (da db : DE) : DE := fun δ k kx => da δ (fun x => match x with
  | .bl c => if c = true then db δ k kx else k (.bl false)
  | _ => False) kx
def dOrV (da db : DE) : DE := fun δ k kx => da δ (fun x => match x with
  | .bl c => if c = true then k (.bl true) else db δ k kx
  | _ => False) kx
def dNotV (da : DE) : DE := fun δ k kx => da δ (fun x => match x with
  | .bl c => k (.bl (!c))
  | _ => False) kx
theorem d_one {op : BoolOp} : PD X E a da → PD X E (.BoolOp op [a] pos) da
  | ⟨_, h, s⟩ => ⟨_, pe_one h, s⟩
theorem d_and {rest : List Expr} : PD X E a da → PD X E (.BoolOp .And (b :: rest) pos) db → PD X E (.BoolOp .And (a :: b :: rest) pos) (dAndV da db)
  | ⟨_, h1, s1⟩, ⟨_, h2, s2⟩ => ⟨_, pe_and h1 h2, fun B M σ δ H k kx Q rp h hq hx => s1 B M σ δ H _ kx _ rp h (fun v x H1 t1 r1 q1 => by
      cases x <;> try exact q1.elim
      rename_i c
      refine ⟨c, r1, ?_⟩
      cases c with
      | true =>
        refine iteT (s2 B M σ δ H1 k kx Q (rp.stp t1) ?_ (fun u d H2 t2 r2 q2 => hq u d H2 (t1.trans t2) r2 q2) (fun C H2 t2 q2 => hx C H2 (t1.trans t2) q2))
        simpa using q1
      | false => exact iteF (hq _ (.bl false) H1 t1 rfl (by simpa using q1))) hx⟩
theorem d_or {rest : List Expr} : PD X E a da → PD X E (.BoolOp .Or (b :: rest) pos) db → PD X E (.BoolOp .Or (a :: b :: rest) pos) (dOrV da db)
  | ⟨_, h1, s1⟩, ⟨_, h2, s2⟩ => ⟨_, pe_or h1 h2, fun B M σ δ H k kx Q rp h hq hx => s1 B M σ δ H _ kx _ rp h (fun v x H1 t1 r1 q1 => by
      cases x <;> try exact q1.elim
      rename_i c
      refine ⟨c, r1, ?_⟩
      cases c with
      | true => exact iteT (hq _ (.bl true) H1 t1 rfl (by simpa using q1))
      | false =>
        refine iteF (s2 B M σ δ H1 k kx Q (rp.stp t1) ?_ (fun u d H2 t2 r2 q2 => hq u d H2 (t1.trans t2) r2 q2) (fun C H2 t2 q2 => hx C H2 (t1.trans t2) q2))
        simpa using q1) hx⟩
theorem d_not : PD X E a da → PD X E (.UnaryOp .Not a pos) (dNotV da)
  | ⟨_, h1, s1⟩ => ⟨_, pe_not h1, fun B M σ δ H k kx Q rp h hq hx => s1 B M σ δ H _ kx _ rp h (fun v x H1 t1 r1 q1 => by
      cases x <;> try exact q1.elim
      rename_i c
      exact ⟨c, r1, hq _ (.bl (!c)) H1 t1 rfl q1⟩) hx⟩
def dIf (t : DT) (da db : DE) : DE := fun δ k kx => t δ (fun c => if c = true then da δ k kx else db δ k kx) kx
theorem d_if : PDT X E c dt → PD X E a da → PD X E b db → PD X E (.IfExp c a b pos) (dIf dt da db)
  | ⟨_, h0, s0⟩, ⟨_, h1, s1⟩, ⟨_, h2, s2⟩ => ⟨_, pe_ifExp h0 h1 h2, fun B M σ δ H k kx Q rp h hq hx => s0 B M σ δ H _ kx _ rp h (fun c H1 t1 q1 => by
      cases c with
      | true =>
        refine iteT (s1 B M σ δ H1 k kx Q (rp.stp t1) ?_ (fun u d H2 t2 r2 q2 => hq u d H2 (t1.trans t2) r2 q2) (fun C H2 t2 q2 => hx C H2 (t1.trans t2) q2))
        simpa using q1
      | false =>
        refine iteF (s2 B M σ δ H1 k kx Q (rp.stp t1) ?_ (fun u d H2 t2 r2 q2 => hq u d H2 (t1.trans t2) r2 q2) (fun C H2 t2 q2 => hx C H2 (t1.trans t2) q2))
        simpa using q1) hx⟩
/-! ### is None -/
def D.isN : D → Bool
  | .non => true
  | _ => false
theorem RD.isN {K : PySem.W.Frag} {B : Option Addr} {G : Hp} {d : D} {v : V} (h : RD K B G d v) : decide (v = .non) = d.isN := by
  cases d with
  | non => rw [show v = .non from h]; rfl
  | bl b => rw [show v = .bl b from h]; rfl
  | int i => rw [show v = .int i from h]; rfl
  | str x => rw [show v = .str x from h]; rfl
  | lst ds => obtain ⟨a, xs, e, _⟩ := h; rw [e]; rfl
  | tup ds => obtain ⟨a, xs, e, _⟩ := h; rw [e]; rfl
  | bag => obtain ⟨b, _, e⟩ := h; rw [e]; rfl
  | adr p => rw [show v = .ref p from h]; rfl
  | scr ns => obtain ⟨a, e, _⟩ := h; rw [e]; rfl
  | ins C fs ds => obtain ⟨a, dx, xs, e, _⟩ := h; rw [e]; rfl
  | obj P => obtain ⟨a, o, e, _⟩ := h; rw [e]; rfl
def dIsN (da : DE) : DE := fun δ k kx => da δ (fun x => k (.bl x.isN)) kx
def dNotN (da : DE) : DE := fun δ k kx => da δ (fun x => k (.bl (!x.isN))) kx
theorem d_isN {j : Nat} {p : Pos} : PD X E a da → PD X E (.Compare a [.Is] [.Constant .none j p] pos) (dIsN da)
  | ⟨_, h1, s1⟩ => ⟨_, pe_cmp (pc_isN h1), fun B M σ δ H k kx Q rp h hq hx => s1 B M σ δ H _ kx _ rp h (fun v x H1 t1 r1 q1 => hq _ (.bl x.isN) H1 t1 (by rw [RD.isN r1]; exact rfl) q1) hx⟩
theorem d_notN {j : Nat} {p : Pos} : PD X E a da → PD X E (.Compare a [.IsNot] [.Constant .none j p] pos) (dNotN da)
  | ⟨_, h1, s1⟩ => ⟨_, pe_cmp (pc_notN h1), fun B M σ δ H k kx Q rp h hq hx => s1 B M σ δ H _ kx _ rp h (fun v x H1 t1 r1 q1 => hq _ (.bl (!x.isN)) H1 t1 (by rw [RD.isN r1]; exact rfl) q1) hx⟩
theorem t_isN {j : Nat} {p : Pos} : PD X E a da → PDT X E (.Compare a [.Is] [.Constant .none j p] pos) (dB (dIsN da))
  | ⟨_, h1, s1⟩ => ⟨_, pt_cmp (pc_isN h1), fun B M σ δ H k kx Q rp h hq hx => s1 B M σ δ H _ kx _ rp h (fun v x H1 t1 r1 q1 => ⟨_, rfl, hq _ H1 t1 (by rw [RD.isN r1]; exact q1)⟩) hx⟩
theorem t_notN {j : Nat} {p : Pos} : PD X E a da → PDT X E (.Compare a [.IsNot] [.Constant .none j p] pos) (dB (dNotN da))
  | ⟨_, h1, s1⟩ => ⟨_, pt_cmp (pc_notN h1), fun B M σ δ H k kx Q rp h hq hx => s1 B M σ δ H _ kx _ rp h (fun v x H1 t1 r1 q1 => ⟨_, rfl, hq _ H1 t1 (by rw [RD.isN r1]; exact q1)⟩) hx⟩
end
end DL
namespace DL
open PySem PySem.Spec PyProof.Rows L2
/-! ### argument lists, displays -/
def SAn (K : PySem.W.Frag) (E : XK) (n : Nat) (te : TA) (de : DA) : Prop := ∀ B M σ δ H k kx (Q : List V → Hp → Prop), Rep K B M H σ δ → de δ k kx →
  (∀ vs ds H2, ds.length = n → Stp K B M H H2 → RDs K B (hid M H2) ds vs → k ds → Q vs H2) → (∀ C H2, Stp K B M H H2 → kx C → E (.ref C) none H2) → te σ H Q
def PDL (X : Cx) (E : XK) (es : List Expr) (de : DA) : Prop := ∃ te, PA X es te ∧ SAn X.K E es.length te de
section
variable {X : Cx} {E : XK} {a b c e : Expr} {es : List Expr} {da db dc de : DE} {das : DA} {dt du : DT} {pos : Pos}
def dNil : DA := fun _ k _ => k []
def dCons (de : DE) (da : DA) : DA := fun δ k kx => de δ (fun d => da δ (fun ds => k (d :: ds)) kx) kx
theorem a_nil : PDL X E [] dNil := ⟨_, pa_nil, fun B M σ δ H k kx Q rp h hq hx => hq [] [] H rfl .refl rfl h⟩
theorem a_cons (h1 : PD X E e de) (h2 : PDL X E es das) (hs : starEach (e :: es) X.env = (false, eval e X.env) :: starEach es X.env := by rfl) : PDL X E (e :: es) (dCons de das) := by
  obtain ⟨te, p1, s1⟩ := h1
  obtain ⟨ts, p2, s2⟩ := h2
  refine ⟨_, pa_cons p1 p2 hs, fun B M σ δ H k kx Q rp h hq hx => s1 B M σ δ H _ kx _ rp h (fun v x H1 t1 r1 q1 => ?_) hx⟩
  refine s2 B M σ δ H1 _ kx _ (rp.stp t1) q1 (fun vs ds H2 hl t2 r2 q2 => ?_) (fun C H2 t2 q2 => hx C H2 (t1.trans t2) q2)
  exact hq (v :: vs) (x :: ds) H2 (by rw [List.length_cons, hl]; rfl) (t1.trans t2) ⟨v, vs, rfl, RD.ex t2.ex _ _ r1, r2⟩ q2
def dTup (da : DA) : DE := fun δ k kx => da δ (fun ds => k (.tup ds)) kx
def dLst (da : DA) : DE := fun δ k kx => da δ (fun ds => k (.lst ds)) kx
theorem line1000 {n : Nat} (h : n ≤ 1000) : n ≤ sizeLine := Nat.le_trans h (by rw [sizeLine_eq]; decide)
theorem line100k {n : Nat} (h : n ≤ 100000) : n ≤ sizeLine := Nat.le_trans h (by rw [sizeLine_eq]; decide)
theorem d_tup {x1} (h : PDL X E es das) (hl : es.length ≤ 1000 := by decide) : PD X E (.Tuple es x1 pos) (dTup das) := by
  obtain ⟨ts, p, s⟩ := h
  refine ⟨_, pe_tupN p, fun B M σ δ H k kx Q rp h hq hx => s B M σ δ H _ kx _ rp h (fun vs ds H1 hn t1 r1 q1 => ⟨line1000 (by rw [RDs.len r1, hn]; exact hl), fun p ob hp hob => ?_⟩) hx⟩
  have ok1 := t1.ok rp.ok
  have t2 : Stp X.K B M H1 (upd H1 p (.frz ob (.tup vs))) := .new ok1 hp
  exact hq _ (.tup ds) _ (t1.trans t2) ⟨p, vs, rfl, new_tup ok1 hp hob, RDs.ex t2.ex _ _ r1⟩ q1
theorem d_lst (h : PDL X E es das) (hl : es.length ≤ 1000 := by decide) : PD X E (.List es pos) (dLst das) := by
  obtain ⟨ts, p, s⟩ := h
  refine ⟨_, pe_lst p, fun B M σ δ H k kx Q rp h hq hx => s B M σ δ H _ kx _ rp h (fun vs ds H1 hn t1 r1 q1 => ⟨line1000 (by rw [RDs.len r1, hn]; exact hl), fun p hp => ?_⟩) hx⟩
  have ok1 := t1.ok rp.ok
  have t2 : Stp X.K B M H1 (upd H1 p (.lst vs)) := .new ok1 hp
  exact hq _ (.lst ds) _ (t1.trans t2) ⟨p, vs, rfl, new_at ok1 hp, RDs.ex t2.ex _ _ r1⟩ q1
/-! ### subscripts -/
theorem atI_rd {K : PySem.W.Frag} {B : Option Addr} {G : Hp} {ds : List D} {xs : List V} {i : Int} {d : D} (r : RDs K B G ds xs) (h : atI ds i = some d) : ∃ v, atI xs i = some v ∧ RD K B G d v := by
  unfold atI at h ⊢
  rw [RDs.len r]
  cases q : ixN ds.length i with
  | none => rw [q] at h; cases h
  | some j =>
    rw [q] at h
    exact RDs.gt r h
def dIx : DR := fun x y k => match x, y with
  | .tup ds, .int i => (match atI ds i with | some d => k d | none => False)
  | .lst ds, .int i => (match atI ds i with | some d => k d | none => False)
  | .scr ns, .int i => (match atI ns i with | some d => k (.int d) | none => False)
  | _, _ => False
theorem atI_map (ns : List Int) (i : Int) : atI (ns.map V.int) i = (atI ns i).map V.int := by
  unfold atI
  rw [List.length_map]
  cases ixN ns.length i with
  | none => rfl
  | some j =>
    show (ns.map V.int)[j]? = (ns[j]?).map V.int
    rw [List.getElem?_map]
theorem SqL.un {K : PySem.W.Frag} {M : List Addr} {H : Hp} {a : Addr} {xs : List V} (h : SqL K (hid M H) a xs) : SqL K H a xs := Evl.ex_l (hid_ex M H) h
theorem SqD.un {K : PySem.W.Frag} {M : List Addr} {H : Hp} {a : Addr} {xs : List V} (h : SqD K (hid M H) a xs) : SqT K H a xs := Evl.ex_t (hid_ex M H) h.1
theorem sr_ix {K : PySem.W.Frag} : SR K (rIx K) dIx := by
  intro B M H x y v w k Q ok hx hy hd hq
  cases x with
  | tup ds =>
    cases y <;> try exact hd.elim
    rename_i i
    obtain ⟨a, xs, rfl, e2, e3⟩ := hx
    have hd' : (match atI ds i with | some d => k d | none => False) := hd
    cases q : atI ds i with
    | none => rw [q] at hd'; exact hd'.elim
    | some d =>
      rw [q] at hd'
      obtain ⟨u, h1, h2⟩ := atI_rd e3 q
      exact .inr (.inl ⟨a, xs, i, u, rfl, hy, SqD.un e2, h1, hq u d H .refl h2 hd'⟩)
  | lst ds =>
    cases y <;> try exact hd.elim
    rename_i i
    obtain ⟨a, xs, rfl, e2, e3⟩ := hx
    have hd' : (match atI ds i with | some d => k d | none => False) := hd
    cases q : atI ds i with
    | none => rw [q] at hd'; exact hd'.elim
    | some d =>
      rw [q] at hd'
      obtain ⟨u, h1, h2⟩ := atI_rd e3 q
      exact .inl ⟨a, xs, i, u, rfl, hy, SqL.of (hid_of e2).2, h1, hq u d H .refl h2 hd'⟩
  | scr ns =>
    cases y <;> try exact hd.elim
    rename_i i
    obtain ⟨a, rfl, e2⟩ := hx
    have hd' : (match atI ns i with | some d => k (.int d) | none => False) := hd
    cases q : atI ns i with
    | none => rw [q] at hd'; exact hd'.elim
    | some d =>
      rw [q] at hd'
      exact .inl ⟨a, _, i, .int d, rfl, hy, SqL.un e2, by rw [atI_map, q]; rfl, hq _ (.int d) H .refl rfl hd'⟩
  | _ => exact hd.elim
theorem d_ix : PD X E a da → PD X E b db → (hs : PlainIx b) → PD X E (.Subscript a b pos) (dOp dIx da db)
  | ⟨_, h1, s1⟩, ⟨_, h2, s2⟩, hs => ⟨_, pe_ix ix_seq h1 h2 hs, se_op sr_ix s1 s2⟩
/-! ### slices -/
abbrev DO := Dst → (Option Int → Prop) → (Addr → Prop) → Prop
def SO (K : PySem.W.Frag) (E : XK) (te : TO) (de : DO) : Prop := ∀ B M σ δ H k kx (Q : Option Int → Hp → Prop), Rep K B M H σ δ → de δ k kx →
  (∀ o H2, Stp K B M H H2 → k o → Q o H2) → (∀ C H2, Stp K B M H H2 → kx C → E (.ref C) none H2) → te σ H Q
def PDO (X : Cx) (E : XK) (e : Option Expr) (de : DO) : Prop := ∃ te, PO X e te ∧ SO X.K E te de
def dNo : DO := fun _ k _ => k none
def dSome (de : DE) : DO := fun δ k kx => de δ (fun d => match d with
  | .int i => k (some i)
  | _ => False) kx
theorem o_none : PDO X E none dNo := ⟨_, po_none, fun B M σ δ H k kx Q rp h hq hx => hq none H .refl h⟩
theorem o_some : PD X E e de → PDO X E (some e) (dSome de)
  | ⟨_, h1, s1⟩ => ⟨_, po_some h1, fun B M σ δ H k kx Q rp h hq hx => s1 B M σ δ H _ kx _ rp h (fun v x H1 t1 r1 q1 => by
      cases x <;> try exact q1.elim
      rename_i i
      exact ⟨i, r1, hq _ H1 t1 q1⟩) hx⟩
@[irreducible] def cutD (xs : List D) (lo hi : Option Int) : List D := (xs.drop (HT.sIx xs.length 0 lo)).take (HT.sIx xs.length xs.length hi - HT.sIx xs.length 0 lo)
theorem cut_rd {K : PySem.W.Frag} {B : Option Addr} {G : Hp} {ds : List D} {xs : List V} (r : RDs K B G ds xs) (lo hi : Option Int) : RDs K B G (cutD ds lo hi) (cutV xs lo hi) := by
  unfold cutD cutV
  rw [RDs.len r]
  exact (r.drop _).take _
def dSl (da : DE) (dl dh : DO) : DE := fun δ k kx => da δ (fun x => dl δ (fun l => dh δ (fun h => match x with
  | .tup ds => k (.tup (cutD ds l h))
  | .lst ds => k (.lst (cutD ds l h))
  | _ => False) kx) kx) kx
theorem d_slT {lo hi : Option Expr} {dl dh : DO} {p2 : Pos} : PD X E e de → PDO X E lo dl → PDO X E hi dh → PD X E (.Subscript e (.Slice lo hi none p2) pos) (dSl de dl dh)
  | ⟨_, h0, s0⟩, ⟨_, h1, s1⟩, ⟨_, h2, s2⟩ => ⟨_, pe_slice (SlR.or sl_tupN sl_list) h0 h1 h2, fun B M σ δ H k kx Q rp h hq hx => s0 B M σ δ H _ kx _ rp h (fun v x H1 t1 r1 q1 =>
      s1 B M σ δ H1 _ kx _ (rp.stp t1) q1 (fun l H2 t2 q2 => s2 B M σ δ H2 _ kx _ ((rp.stp t1).stp t2) q2 (fun u H3 t3 q3 => by
        have t := (t1.trans t2).trans t3
        have ok := t.ok rp.ok
        have r3 := RD.ex t3.ex _ _ (RD.ex t2.ex _ _ r1)
        cases x with
        | tup ds =>
          obtain ⟨a, xs, rfl, e2, e3⟩ := r3
          refine .inl ⟨a, xs, rfl, SqD.un e2, fun c => ?_, fun c p ob hp hob => ?_⟩
          · refine hq _ (.tup (cutD ds l u)) H3 t ⟨a, xs, rfl, e2, ?_⟩ q3
            have hc : cutD ds l u = ds := by
              unfold cutD
              rw [← RDs.len e3, c.1, c.2, RDs.len e3]
              simp
            rw [hc]; exact e3
          · have t4 : Stp X.K B M H3 (upd H3 p (.frz ob (.tup (cutV xs l u)))) := .new ok hp
            exact hq _ (.tup (cutD ds l u)) _ (t.trans t4) ⟨p, _, rfl, new_tup ok hp hob, RDs.ex t4.ex _ _ (cut_rd e3 l u)⟩ q3
        | lst ds =>
          obtain ⟨a, xs, rfl, e2, e3⟩ := r3
          refine .inr ⟨a, xs, rfl, SqL.of (hid_of e2).2, fun p hp => ?_⟩
          have t4 : Stp X.K B M H3 (upd H3 p (.lst (cutV xs l u))) := .new ok hp
          exact hq _ (.lst (cutD ds l u)) _ (t.trans t4) ⟨p, _, rfl, new_at ok hp, RDs.ex t4.ex _ _ (cut_rd e3 l u)⟩ q3
        | _ => exact q3.elim) (fun C H3 t3 q3 => hx C H3 ((t1.trans t2).trans t3) q3)) (fun C H2 t2 q2 => hx C H2 (t1.trans t2) q2)) hx⟩
/-! ### t + u, xs + ys -/
def dCat : DR := fun x y k => match x, y with
  | .tup a, .tup b => a.length + b.length ≤ 100000 ∧ k (.tup (a ++ b))
  | .lst a, .lst b => a.length + b.length ≤ 100000 ∧ k (.lst (a ++ b))
  | _, _ => False
theorem sr_cat {K : PySem.W.Frag} : SR K (fun x y H Q => rCatN K x y H Q ∨ rCat x y H Q) dCat := by
  intro B M H x y v w k Q ok hx hy hd hq
  cases x with
  | tup ds =>
    cases y <;> try exact hd.elim
    rename_i es
    obtain ⟨a, xs, rfl, e2, e3⟩ := hx
    obtain ⟨b, ys, rfl, g2, g3⟩ := hy
    refine .inl ⟨a, b, xs, ys, rfl, rfl, SqD.un e2, SqD.un g2, line100k (by rw [RDs.len e3, RDs.len g3]; exact hd.1), fun c => ?_, fun c c2 => ?_, fun c c2 p ob hp hob => ?_⟩
    · subst c
      cases ds with
      | nil => exact hq _ (.tup es) H .refl ⟨b, ys, rfl, g2, g3⟩ hd.2
      | cons z zs => obtain ⟨_, _, q, _⟩ := e3; cases q
    · subst c2
      cases es with
      | nil => exact hq _ (.tup (ds ++ [])) H .refl ⟨a, xs, rfl, e2, by rw [List.append_nil]; exact e3⟩ hd.2
      | cons z zs => obtain ⟨_, _, q, _⟩ := g3; cases q
    · have t4 : Stp K B M H (upd H p (.frz ob (.tup (xs ++ ys)))) := .new ok hp
      exact hq _ (.tup (ds ++ es)) _ t4 ⟨p, _, rfl, new_tup ok hp hob, RDs.ex t4.ex _ _ (RDs.app e3 g3)⟩ hd.2
  | lst ds =>
    cases y <;> try exact hd.elim
    rename_i es
    obtain ⟨a, xs, rfl, e2, e3⟩ := hx
    obtain ⟨b, ys, rfl, g2, g3⟩ := hy
    refine .inr ⟨a, b, xs, ys, rfl, rfl, (hid_of e2).2, (hid_of g2).2, line100k (by rw [RDs.len e3, RDs.len g3]; exact hd.1), fun p hp => ?_⟩
    have t4 : Stp K B M H (upd H p (.lst (xs ++ ys))) := .new ok hp
    exact hq _ (.lst (ds ++ es)) _ t4 ⟨p, _, rfl, new_at ok hp, RDs.ex t4.ex _ _ (RDs.app e3 g3)⟩ hd.2
  | _ => exact hd.elim
theorem d_cat (ha : PD X E a da) (hb : PD X E b db) : PD X E (.BinOp a .Add b pos) (dOp dCat da db) := d_op (OpR.or op_catN op_cat) sr_cat ha hb
/-! ### == and != of data -/
mutual
def D.py : D → PyData
  | .non => .none
  | .bl b => .bool b
  | .int i => .int i
  | .str x => .str x
  | .lst ds => .list (pys ds)
  | .tup ds => .tuple (pys ds)
  | .bag => .none
  | .adr _ => .none
  | .scr _ => .none
  | .ins _ _ _ => .none
  | .obj _ => .none
def pys : List D → List PyData
  | [] => []
  | d :: ds => d.py :: pys ds
end
mutual
def D.plain : D → Bool
  | .lst ds => plains ds
  | .tup ds => plains ds
  | .bag => false
  | .adr _ => false
  | .scr _ => false
  | .ins _ _ _ => false
  | .obj _ => false
  | _ => true
def plains : List D → Bool
  | [] => true
  | d :: ds => d.plain && plains ds
end
mutual
theorem RD.dp {K : PySem.W.Frag} {B : Option Addr} {M : List Addr} {H : Hp} : ∀ (d : D) (v : V), d.plain = true → RD K B (hid M H) d v → Dp K H v d.py
  | .non, v, _, h => by rw [show v = .non from h]; exact .non
  | .bl b, v, _, h => by rw [show v = .bl b from h]; exact .bl b
  | .int i, v, _, h => by rw [show v = .int i from h]; exact .int i
  | .str x, v, _, h => by rw [show v = .str x from h]; exact .str x
  | .lst ds, v, p, ⟨a, xs, e1, e2, e3⟩ => by
    rw [e1]
    exact .lst (SqL.of (hid_of e2).2) (RDs.dp ds xs (by simpa [D.plain] using p) e3)
  | .tup ds, v, p, ⟨a, xs, e1, e2, e3⟩ => by
    rw [e1]
    exact .tup (SqD.un e2) (RDs.dp ds xs (by simpa [D.plain] using p) e3)
  | .bag, v, p, h => by simp [D.plain] at p
  | .adr _, v, p, h => by simp [D.plain] at p
  | .scr _, v, p, h => by simp [D.plain] at p
  | .ins _ _ _, v, p, h => by simp [D.plain] at p
  | .obj _, v, p, h => by simp [D.plain] at p
theorem RDs.dp {K : PySem.W.Frag} {B : Option Addr} {M : List Addr} {H : Hp} : ∀ (ds : List D) (xs : List V), plains ds = true → RDs K B (hid M H) ds xs → DpAll K H xs (pys ds)
  | [], xs, _, h => by rw [show xs = [] from h]; exact .nil
  | d :: ds, xs, p, ⟨y, ys, e1, e2, e3⟩ => by
    rw [e1]
    have p' : d.plain = true ∧ plains ds = true := by simpa [plains] using p
    exact .cons (RD.dp d y p'.1 e2) (RDs.dp ds ys p'.2 e3)
end
def D.shp (d : D) : Bool := d.plain && SeqAt.shaped d.py
@[irreducible] def eqD (x y : D) : Bool := PyData.eqv x.py y.py
@[irreducible] def dEq : DR := fun x y k => x.shp = true ∧ y.shp = true ∧ k (.bl (eqD x y))
@[irreducible] def dNe : DR := fun x y k => x.shp = true ∧ y.shp = true ∧ k (.bl (!eqD x y))
theorem sr_eq {K : PySem.W.Frag} : SR K (rEqD K) dEq := fun B M H x y v w k Q ok hx hy hd hq => by
  unfold dEq at hd
  obtain ⟨s1, s2, q⟩ := hd
  have p1 := Bool.and_eq_true_iff.mp s1
  have p2 := Bool.and_eq_true_iff.mp s2
  exact ⟨x.py, y.py, RD.dp x v p1.1 hx, RD.dp y w p2.1 hy, p1.2, p2.2, hq _ (.bl (eqD x y)) H .refl (by unfold eqD; exact rfl) q⟩
theorem sr_ne {K : PySem.W.Frag} : SR K (rNeD K) dNe := fun B M H x y v w k Q ok hx hy hd hq => by
  unfold dNe at hd
  obtain ⟨s1, s2, q⟩ := hd
  have p1 := Bool.and_eq_true_iff.mp s1
  have p2 := Bool.and_eq_true_iff.mp s2
  exact ⟨x.py, y.py, RD.dp x v p1.1 hx, RD.dp y w p2.1 hy, p1.2, p2.2, hq _ (.bl (!eqD x y)) H .refl (by unfold eqD; exact rfl) q⟩
theorem d_eq (hu : X.A.units + 64 < cLine) (ha : PD X E a da) (hb : PD X E b db) : PD X E (.Compare a [.Eq] [b] pos) (dOp dEq da db) := d_cmp (op_eqD hu) sr_eq (nomark _) ha hb
theorem d_ne (hu : X.A.units + 64 < cLine) (ha : PD X E a da) (hb : PD X E b db) : PD X E (.Compare a [.NotEq] [b] pos) (dOp dNe da db) := d_cmp (op_neD hu) sr_ne (nomark _) ha hb
theorem t_eq (hu : X.A.units + 64 < cLine) (ha : PD X E a da) (hb : PD X E b db) : PDT X E (.Compare a [.Eq] [b] pos) (dB (dOp dEq da db)) := t_cmp (op_eqD hu) sr_eq (nomark _) ha hb
theorem t_ne (hu : X.A.units + 64 < cLine) (ha : PD X E a da) (hb : PD X E b db) : PDT X E (.Compare a [.NotEq] [b] pos) (dB (dOp dNe da db)) := t_cmp (op_neD hu) sr_ne (nomark _) ha hb
/-! ### in, not in: flat things -/
def D.flat : D → Bool
  | .non => true
  | .bl _ => true
  | .int _ => true
  | .str _ => true
  | _ => false
def D.fv : D → V
  | .bl b => .bl b
  | .int i => .int i
  | .str x => .str x
  | _ => .non
theorem RD.fv {K : PySem.W.Frag} {B : Option Addr} {G : Hp} {d : D} {v : V} (f : d.flat = true) (h : RD K B G d v) : v = d.fv ∧ flatV d.fv = true := by
  cases d <;> simp [D.flat] at f <;> exact ⟨h, rfl⟩
theorem RDs.fv {K : PySem.W.Frag} {B : Option Addr} {G : Hp} : ∀ {ds : List D} {xs : List V}, ds.all D.flat = true → RDs K B G ds xs → xs = ds.map D.fv ∧ (ds.map D.fv).all flatV = true
  | [], xs, _, h => by rw [show xs = [] from h]; exact ⟨rfl, rfl⟩
  | d :: ds, xs, f, ⟨y, ys, e1, e2, e3⟩ => by
    have f' : d.flat = true ∧ ds.all D.flat = true := by simpa using f
    obtain ⟨h1, h2⟩ := RD.fv f'.1 e2
    obtain ⟨h3, h4⟩ := RDs.fv f'.2 e3
    rw [e1, h1, h3]
    refine ⟨rfl, ?_⟩
    rw [List.map_cons, List.all_cons, h2, h4]; rfl
def inD (x : D) (ds : List D) : Bool := inV x.fv (ds.map D.fv)
def dIn (neg : Bool) : DR := fun x y k => match y with
  | .tup ds => x.flat = true ∧ ds.all D.flat = true ∧ k (.bl (if neg then !inD x ds else inD x ds))
  | .lst ds => x.flat = true ∧ ds.all D.flat = true ∧ k (.bl (if neg then !inD x ds else inD x ds))
  | _ => False
theorem sr_in {K : PySem.W.Frag} {neg : Bool} : SR K (rIn K neg) (dIn neg) := by
  intro B M H x y v w k Q ok hx hy hd hq
  cases y with
  | tup ds =>
    obtain ⟨b, ys, rfl, g2, g3⟩ := hy
    obtain ⟨f1, f2, q⟩ := hd
    obtain ⟨rfl, h2⟩ := RD.fv f1 hx
    obtain ⟨rfl, h4⟩ := RDs.fv f2 g3
    exact ⟨b, _, rfl, .inr (SqD.un g2), h2, h4, hq _ (.bl (if neg then !inD x ds else inD x ds)) H .refl rfl q⟩
  | lst ds =>
    obtain ⟨b, ys, rfl, g2, g3⟩ := hy
    obtain ⟨f1, f2, q⟩ := hd
    obtain ⟨rfl, h2⟩ := RD.fv f1 hx
    obtain ⟨rfl, h4⟩ := RDs.fv f2 g3
    exact ⟨b, _, rfl, .inl (SqL.of (hid_of g2).2), h2, h4, hq _ (.bl (if neg then !inD x ds else inD x ds)) H .refl rfl q⟩
  | _ => exact hd.elim
theorem d_in (ha : PD X E a da) (hb : PD X E b db) (hm : behindInMarks .In b = false := by with_unfolding_all rfl) : PD X E (.Compare a [.In] [b] pos) (dOp (dIn false) da db) := d_cmp op_in_seq sr_in hm ha hb
theorem d_notIn (ha : PD X E a da) (hb : PD X E b db) (hm : behindInMarks .NotIn b = false := by with_unfolding_all rfl) : PD X E (.Compare a [.NotIn] [b] pos) (dOp (dIn true) da db) := d_cmp op_notIn_seq sr_in hm ha hb
/-! ### chains -/
def dChain (r r' : DR) (da db dc : DE) : DE := fun δ k kx => da δ (fun x => db δ (fun y => r x y (fun z => match z with
  | .bl t => if t = true then dc δ (fun w => r' y w k) kx else k (.bl false)
  | _ => False)) kx) kx
theorem d_chain {op op' : CmpOp} {r r' : R2} {dr dr' : DR} (ho : OpR X (compareOp op) r) (ho' : OpR X (compareOp op') r') (hr : SR X.K r dr) (hr' : SR X.K r' dr') (ha : PD X E a da) (hb : PD X E b db) (hc : PD X E c dc)
    (hm : lastMarks [op, op'] [b, c] = false := by with_unfolding_all rfl) : PD X E (.Compare a [op, op'] [b, c] pos) (dChain dr dr' da db dc) := by
  obtain ⟨ta, p1, s1⟩ := ha
  obtain ⟨tb, p2, s2⟩ := hb
  obtain ⟨tc, p3, s3⟩ := hc
  refine ⟨_, pe_chain ho ho' p1 p2 p3 hm, fun B M σ δ H k kx Q rp h hq hx => s1 B M σ δ H _ kx _ rp h (fun v x H1 t1 r1 q1 => ?_) hx⟩
  refine s2 B M σ δ H1 _ kx _ (rp.stp t1) q1 (fun w y H2 t2 r2 q2 => ?_) (fun C H2 t2 q2 => hx C H2 (t1.trans t2) q2)
  have t12 := t1.trans t2
  refine hr B M H2 x y v w _ _ (t12.ok rp.ok) (RD.ex t2.ex _ _ r1) r2 q2 (fun u d H3 t3 r3 q3 => ?_)
  cases d <;> try exact q3.elim
  rename_i t
  refine ⟨t, r3, ?_⟩
  have t13 := t12.trans t3
  cases t with
  | false => exact iteF (hq _ (.bl false) H3 t13 rfl (by simpa using q3))
  | true =>
    refine iteT (s3 B M σ δ H3 _ kx _ (rp.stp t13) (by simpa using q3) (fun u' z H4 t4 r4 q4 => ?_) (fun C H4 t4 q4 => hx C H4 (t13.trans t4) q4))
    exact hr' B M H4 y z w u' k Q ((t13.trans t4).ok rp.ok) (RD.ex t4.ex _ _ (RD.ex t3.ex _ _ r2)) r4 q4 (fun u2 d2 H5 t5 r5 q5 => hq u2 d2 H5 ((t13.trans t4).trans t5) r5 q5)
/-! ### built-in calls -/
def SC (K : PySem.W.Frag) (r : List V → Hp → VK → Prop) (dr : List D → (D → Prop) → Prop) : Prop := ∀ B M H ds vs k (Q : VK), Ok K B M H → RDs K B (hid M H) ds vs → dr ds k → (∀ u d H2, Stp K B M H H2 → RD K B (hid M H2) d u → k d → Q u H2) → r vs H Q
def dCB (dr : List D → (D → Prop) → Prop) (da : DA) : DE := fun δ k kx => da δ (fun ds => dr ds k) kx
theorem se_cb {K : PySem.W.Frag} {r : List V → Hp → VK → Prop} {dr : List D → (D → Prop) → Prop} {n : Nat} {ta : TA} (hr : SC K r dr) (ha : SAn K E n ta das) : SE K E (tCB r ta) (dCB dr das) :=
  fun B M σ δ H k kx Q rp h hq hx => ha B M σ δ H _ kx _ rp h (fun vs ds H1 _ t1 r1 q1 => hr B M H1 ds vs k Q (t1.ok rp.ok) r1 q1 (fun u d H2 t2 r2 q2 => hq u d H2 (t1.trans t2) r2 q2)) hx
theorem d_callB {id : String} {x : Str} {p : Pos} {r : List V → Hp → VK → Prop} {dr : List D → (D → Prop) → Prop} (hc : CallR X (.builtin id) r) (hr : SC X.K r dr) (hg : Gl X x) (hm : X.mg x = none) (hv : bootBuiltins x = some (.builtin id)) (ha : PDL X E (e :: es) das) (hn : x ≠ "__name__" := by decide) (hdb : (x == ("__debug__" : Str)) = false := by decide)
    (he : starEach (e :: es) X.env = (false, eval e X.env) :: starEach es X.env := by rfl) (hpl : (backTo pos (starEach es X.env)).any (·.1) = false := by rfl) : PD X E (.Call (.Name x p) (e :: es) [] pos) (dCB dr das) := by
  obtain ⟨ta, p1, s1⟩ := ha
  exact ⟨_, pe_callB hc hg hm hv p1 hn hdb he hpl, se_cb hr s1⟩
theorem d_callT {T : String} {x : Str} {p : Pos} {r : List V → Hp → VK → Prop} {dr : List D → (D → Prop) → Prop} (hc : CallR X (.type T) r) (hr : SC X.K r dr) (hg : Gl X x) (hm : X.mg x = none) (hv : bootBuiltins x = some (.type T)) (ha : PDL X E (e :: es) das) (hn : x ≠ "__name__" := by decide) (hdb : (x == ("__debug__" : Str)) = false := by decide)
    (he : starEach (e :: es) X.env = (false, eval e X.env) :: starEach es X.env := by rfl) (hpl : (backTo pos (starEach es X.env)).any (·.1) = false := by rfl) : PD X E (.Call (.Name x p) (e :: es) [] pos) (dCB dr das) := by
  obtain ⟨ta, p1, s1⟩ := ha
  exact ⟨_, pe_callTy hc hg hm hv p1 hn hdb he hpl, se_cb hr s1⟩
/-- one argument, two arguments -/
def SC1 (K : PySem.W.Frag) (r : List V → Hp → VK → Prop) (dr : D → (D → Prop) → Prop) : Prop := ∀ B M H d v k (Q : VK), Ok K B M H → RD K B (hid M H) d v → dr d k → (∀ u d H2, Stp K B M H H2 → RD K B (hid M H2) d u → k d → Q u H2) → r [v] H Q
def SC2 (K : PySem.W.Frag) (r : List V → Hp → VK → Prop) (dr : DR) : Prop := ∀ B M H d d' v v' k (Q : VK), Ok K B M H → RD K B (hid M H) d v → RD K B (hid M H) d' v' → dr d d' k → (∀ u d H2, Stp K B M H H2 → RD K B (hid M H2) d u → k d → Q u H2) → r [v, v'] H Q
def dC1 (dr : D → (D → Prop) → Prop) (da : DE) : DE := fun δ k kx => da δ (fun d => dr d k) kx
theorem se_c1 {K : PySem.W.Frag} {r : List V → Hp → VK → Prop} {dr : D → (D → Prop) → Prop} {ta : TE} (hr : SC1 K r dr) (ha : SE K E ta da) : SE K E (tCB r (tCons ta tNil)) (dC1 dr da) :=
  fun B M σ δ H k kx Q rp h hq hx => ha B M σ δ H _ kx _ rp h (fun v d H1 t1 r1 q1 => hr B M H1 d v k Q (t1.ok rp.ok) r1 q1 (fun u d H2 t2 r2 q2 => hq u d H2 (t1.trans t2) r2 q2)) hx
theorem se_c2 {K : PySem.W.Frag} {r : List V → Hp → VK → Prop} {dr : DR} {ta tb : TE} (hr : SC2 K r dr) (ha : SE K E ta da) (hb : SE K E tb db) : SE K E (tCB r (tCons ta (tCons tb tNil))) (dOp dr da db) :=
  fun B M σ δ H k kx Q rp h hq hx => ha B M σ δ H _ kx _ rp h (fun v d H1 t1 r1 q1 => hb B M σ δ H1 _ kx _ (rp.stp t1) q1 (fun w e H2 t2 r2 q2 => hr B M H2 d e v w k Q ((t1.trans t2).ok rp.ok) (RD.ex t2.ex _ _ r1) r2 q2 (fun u d H3 t3 r3 q3 => hq u d H3 ((t1.trans t2).trans t3) r3 q3))
    (fun C H2 t2 q2 => hx C H2 (t1.trans t2) q2)) hx
theorem d_c1 {id : String} {x : Str} {p : Pos} {r : List V → Hp → VK → Prop} {dr : D → (D → Prop) → Prop} (hc : CallR X (.builtin id) r) (hr : SC1 X.K r dr) (hm : X.mg x = none) (hv : bootBuiltins x = some (.builtin id)) (ha : PD X E a da) (hg : Gl X x := by rfl) (hn : x ≠ "__name__" := by decide) (hdb : (x == ("__debug__" : Str)) = false := by decide)
    (he : starEach [a] X.env = (false, eval a X.env) :: starEach [] X.env := by rfl) (hpl : (backTo pos (starEach [] X.env)).any (·.1) = false := by rfl) : PD X E (.Call (.Name x p) [a] [] pos) (dC1 dr da) := by
  obtain ⟨ta, p1, s1⟩ := ha
  exact ⟨_, pe_callB hc hg hm hv (pa_cons p1 pa_nil he) hn hdb he hpl, se_c1 hr s1⟩
theorem d_t1 {T : String} {x : Str} {p : Pos} {r : List V → Hp → VK → Prop} {dr : D → (D → Prop) → Prop} (hc : CallR X (.type T) r) (hr : SC1 X.K r dr) (hm : X.mg x = none) (hv : bootBuiltins x = some (.type T)) (ha : PD X E a da) (hg : Gl X x := by rfl) (hn : x ≠ "__name__" := by decide) (hdb : (x == ("__debug__" : Str)) = false := by decide)
    (he : starEach [a] X.env = (false, eval a X.env) :: starEach [] X.env := by rfl) (hpl : (backTo pos (starEach [] X.env)).any (·.1) = false := by rfl) : PD X E (.Call (.Name x p) [a] [] pos) (dC1 dr da) := by
  obtain ⟨ta, p1, s1⟩ := ha
  exact ⟨_, pe_callTy hc hg hm hv (pa_cons p1 pa_nil he) hn hdb he hpl, se_c1 hr s1⟩
theorem d_c2 {id : String} {x : Str} {p : Pos} {r : List V → Hp → VK → Prop} {dr : DR} (hc : CallR X (.builtin id) r) (hr : SC2 X.K r dr) (hm : X.mg x = none) (hv : bootBuiltins x = some (.builtin id)) (ha : PD X E a da) (hb : PD X E b db) (hg : Gl X x := by rfl) (hn : x ≠ "__name__" := by decide) (hdb : (x == ("__debug__" : Str)) = false := by decide)
    (he : starEach [a, b] X.env = (false, eval a X.env) :: starEach [b] X.env := by rfl) (he2 : starEach [b] X.env = (false, eval b X.env) :: starEach [] X.env := by rfl) (hpl : (backTo pos (starEach [b] X.env)).any (·.1) = false := by rfl) : PD X E (.Call (.Name x p) [a, b] [] pos) (dOp dr da db) := by
  obtain ⟨ta, p1, s1⟩ := ha
  obtain ⟨tb, p2, s2⟩ := hb
  exact ⟨_, pe_callB hc hg hm hv (pa_cons p1 (pa_cons p2 pa_nil he2) he) hn hdb he hpl, se_c2 hr s1 s2⟩
def cLen : D → (D → Prop) → Prop := fun d k => match d with
  | .tup xs => k (.int xs.length)
  | .lst xs => k (.int xs.length)
  | .scr xs => k (.int xs.length)
  | _ => False
theorem sc_len {K : PySem.W.Frag} : SC1 K (fun xs H Q => ∃ p ys, xs = [.ref p] ∧ (SqL K H p ys ∨ SqT K H p ys) ∧ Q (.int ys.length) H) cLen := by
  intro B M H d v k Q ok r h hq
  cases d with
  | tup es =>
    obtain ⟨a, xs, rfl, e3, e4⟩ := r
    exact ⟨a, xs, rfl, .inr (SqD.un e3), hq _ (.int es.length) H .refl (by rw [RDs.len e4]; exact rfl) h⟩
  | lst es =>
    obtain ⟨a, xs, rfl, e3, e4⟩ := r
    exact ⟨a, xs, rfl, .inl (SqL.of (hid_of e3).2), hq _ (.int es.length) H .refl (by rw [RDs.len e4]; exact rfl) h⟩
  | scr ns =>
    obtain ⟨a, rfl, e2⟩ := r
    exact ⟨a, _, rfl, .inl (SqL.un e2), hq _ (.int ns.length) H .refl (by rw [List.length_map]; exact rfl) h⟩
  | _ => exact h.elim
theorem d_len {p : Pos} (hm : X.mg "len" = none) (ha : PD X E a da) (hg : Gl X "len" := by rfl) (he : starEach [a] X.env = (false, eval a X.env) :: starEach [] X.env := by rfl) (hpl : (backTo pos (starEach [] X.env)).any (·.1) = false := by rfl) : PD X E (.Call (.Name "len" p) [a] [] pos) (dC1 cLen da) :=
  d_c1 call_len_seq sc_len hm (by decide +kernel) ha hg (by decide) (by decide) he hpl
def cAbs : D → (D → Prop) → Prop := fun d k => match d with
  | .int i => k (.int (if i < 0 then -i else i))
  | _ => False
theorem sc_abs {K : PySem.W.Frag} : SC1 K (fun xs H Q => ∃ i, xs = [.int i] ∧ Q (.int (if i < 0 then -i else i)) H) cAbs := by
  intro B M H d v k Q ok r h hq
  cases d with
  | int i => exact ⟨i, by rw [show v = .int i from r], hq _ (.int (if i < 0 then -i else i)) H .refl rfl h⟩
  | _ => exact h.elim
theorem d_abs {p : Pos} (hm : X.mg "abs" = none) (ha : PD X E a da) (hg : Gl X "abs" := by rfl) (he : starEach [a] X.env = (false, eval a X.env) :: starEach [] X.env := by rfl) (hpl : (backTo pos (starEach [] X.env)).any (·.1) = false := by rfl) : PD X E (.Call (.Name "abs" p) [a] [] pos) (dC1 cAbs da) :=
  d_c1 call_abs sc_abs hm (by decide +kernel) ha hg (by decide) (by decide) he hpl
def cInt : D → (D → Prop) → Prop := fun d k => match d with
  | .bl b => k (.int (if b then 1 else 0))
  | _ => False
theorem sc_int {K : PySem.W.Frag} : SC1 K (fun xs H Q => (∃ i, xs = [.int i] ∧ Q (.int i) H) ∨ ∃ k, xs = [.bl k] ∧ Q (.int (if k then 1 else 0)) H) cInt := by
  intro B M H d v k Q ok r h hq
  cases d with
  | bl i => exact .inr ⟨i, by rw [show v = .bl i from r], hq _ (.int (if i then 1 else 0)) H .refl rfl h⟩
  | _ => exact h.elim
theorem d_intb {p : Pos} (hm : X.mg "int" = none) (ha : PD X E a da) (hg : Gl X "int" := by rfl) (he : starEach [a] X.env = (false, eval a X.env) :: starEach [] X.env := by rfl) (hpl : (backTo pos (starEach [] X.env)).any (·.1) = false := by rfl) : PD X E (.Call (.Name "int" p) [a] [] pos) (dC1 cInt da) :=
  d_t1 call_int1 sc_int hm (by decide +kernel) ha hg (by decide) (by decide) he hpl
def cMax : DR := dI0 fun i j => .int (if j > i then j else i)
def cMin : DR := dI0 fun i j => .int (if j < i then j else i)
theorem sc_max {K : PySem.W.Frag} : SC2 K (fun xs H Q => ∃ i j, xs = [.int i, .int j] ∧ Q (.int (if j > i then j else i)) H) cMax := by
  intro B M H d d' v v' k Q ok r r' h hq
  cases d <;> try exact h.elim
  cases d' <;> try exact h.elim
  rename_i i j
  exact ⟨i, j, by rw [show v = .int i from r, show v' = .int j from r'], hq _ (.int (if j > i then j else i)) H .refl rfl h⟩
theorem sc_min {K : PySem.W.Frag} : SC2 K (fun xs H Q => ∃ i j, xs = [.int i, .int j] ∧ Q (.int (if j < i then j else i)) H) cMin := by
  intro B M H d d' v v' k Q ok r r' h hq
  cases d <;> try exact h.elim
  cases d' <;> try exact h.elim
  rename_i i j
  exact ⟨i, j, by rw [show v = .int i from r, show v' = .int j from r'], hq _ (.int (if j < i then j else i)) H .refl rfl h⟩
theorem d_max {p : Pos} (hc : X.calm = true) (hm : X.mg "max" = none) (ha : PD X E a da) (hb : PD X E b db) (hg : Gl X "max" := by rfl) (he : starEach [a, b] X.env = (false, eval a X.env) :: starEach [b] X.env := by rfl) (he2 : starEach [b] X.env = (false, eval b X.env) :: starEach [] X.env := by rfl) (hpl : (backTo pos (starEach [b] X.env)).any (·.1) = false := by rfl) :
    PD X E (.Call (.Name "max" p) [a, b] [] pos) (dOp cMax da db) := d_c2 (call_max2 hc) sc_max hm (by decide +kernel) ha hb hg (by decide) (by decide) he he2 hpl
theorem d_min {p : Pos} (hc : X.calm = true) (hm : X.mg "min" = none) (ha : PD X E a da) (hb : PD X E b db) (hg : Gl X "min" := by rfl) (he : starEach [a, b] X.env = (false, eval a X.env) :: starEach [b] X.env := by rfl) (he2 : starEach [b] X.env = (false, eval b X.env) :: starEach [] X.env := by rfl) (hpl : (backTo pos (starEach [b] X.env)).any (·.1) = false := by rfl) :
    PD X E (.Call (.Name "min" p) [a, b] [] pos) (dOp cMin da db) := d_c2 (call_min2 hc) sc_min hm (by decide +kernel) ha hb hg (by decide) (by decide) he he2 hpl
def cTup : D → (D → Prop) → Prop := fun d k => match d with
  | .lst xs => k (.tup xs)
  | .tup xs => k (.tup xs)
  | _ => False
theorem sc_tup {K : PySem.W.Frag} : SC1 K (fun xs H Q => ∃ p ys, xs = [.ref p] ∧ ((SqL K H p ys ∧ NewT H ys Q) ∨ (SqT K H p ys ∧ Q (.ref p) H))) cTup := by
  intro B M H d v k Q ok r h hq
  cases d with
  | tup es =>
    obtain ⟨a, xs, rfl, e3, e4⟩ := r
    exact ⟨a, xs, rfl, .inr ⟨SqD.un e3, hq _ (.tup es) H .refl ⟨a, xs, rfl, e3, e4⟩ h⟩⟩
  | lst es =>
    obtain ⟨a, xs, rfl, e3, e4⟩ := r
    refine ⟨a, xs, rfl, .inl ⟨SqL.of (hid_of e3).2, fun l ob hl hob => ?_⟩⟩
    have t4 : Stp K B M H (upd H l (.frz ob (.tup xs))) := .new ok hl
    exact hq _ (.tup es) _ t4 ⟨l, xs, rfl, new_tup ok hl hob, RDs.ex t4.ex _ _ e4⟩ h
  | _ => exact h.elim
theorem d_tuple {p : Pos} (hm : X.mg "tuple" = none) (ha : PD X E a da) (hg : Gl X "tuple" := by rfl) (he : starEach [a] X.env = (false, eval a X.env) :: starEach [] X.env := by rfl) (hpl : (backTo pos (starEach [] X.env)).any (·.1) = false := by rfl) : PD X E (.Call (.Name "tuple" p) [a] [] pos) (dC1 cTup da) :=
  d_t1 call_tupN sc_tup hm (by decide +kernel) ha hg (by decide) (by decide) he hpl
def cLst : D → (D → Prop) → Prop := fun d k => match d with
  | .lst xs => k (.lst xs)
  | .tup xs => k (.lst xs)
  | _ => False
theorem sc_lst {K : PySem.W.Frag} : SC1 K (fun xs H Q => ∃ p ys, xs = [.ref p] ∧ (SqL K H p ys ∨ SqT K H p ys) ∧ ∀ l, H l = none → Q (.ref l) (upd H l (.lst ys))) cLst := by
  intro B M H d v k Q ok r h hq
  cases d with
  | tup es =>
    obtain ⟨a, xs, rfl, e3, e4⟩ := r
    refine ⟨a, xs, rfl, .inr (SqD.un e3), fun l hl => ?_⟩
    have t4 : Stp K B M H (upd H l (.lst xs)) := .new ok hl
    exact hq _ (.lst es) _ t4 ⟨l, xs, rfl, new_at ok hl, RDs.ex t4.ex _ _ e4⟩ h
  | lst es =>
    obtain ⟨a, xs, rfl, e3, e4⟩ := r
    refine ⟨a, xs, rfl, .inl (SqL.of (hid_of e3).2), fun l hl => ?_⟩
    have t4 : Stp K B M H (upd H l (.lst xs)) := .new ok hl
    exact hq _ (.lst es) _ t4 ⟨l, xs, rfl, new_at ok hl, RDs.ex t4.ex _ _ e4⟩ h
  | _ => exact h.elim
theorem d_list {p : Pos} (hm : X.mg "list" = none) (ha : PD X E a da) (hg : Gl X "list" := by rfl) (he : starEach [a] X.env = (false, eval a X.env) :: starEach [] X.env := by rfl) (hpl : (backTo pos (starEach [] X.env)).any (·.1) = false := by rfl) : PD X E (.Call (.Name "list" p) [a] [] pos) (dC1 cLst da) :=
  d_t1 call_list_of sc_lst hm (by decide +kernel) ha hg (by decide) (by decide) he hpl
def cAll : D → (D → Prop) → Prop := fun d k => match d with
  | .lst xs => ∃ bs : List Bool, xs = bs.map D.bl ∧ k (.bl (bs.all id))
  | _ => False
theorem sc_all {K : PySem.W.Frag} : SC1 K (rAll K) cAll := by
  intro B M H d v k Q ok r h hq
  cases d with
  | lst es =>
    obtain ⟨a, xs, rfl, e3, e4⟩ := r
    obtain ⟨bs, rfl, h⟩ := h
    have e := RDs.of_bls bs xs e4
    subst e
    exact ⟨a, bs, rfl, SqL.of (hid_of e3).2, hq _ (.bl (bs.all id)) H .refl rfl h⟩
  | _ => exact h.elim
theorem d_all {p : Pos} (hc : X.calm = true) (hm : X.mg "all" = none) (ha : PD X E a da) (hg : Gl X "all" := by rfl) (he : starEach [a] X.env = (false, eval a X.env) :: starEach [] X.env := by rfl) (hpl : (backTo pos (starEach [] X.env)).any (·.1) = false := by rfl) : PD X E (.Call (.Name "all" p) [a] [] pos) (dC1 cAll da) :=
  d_c1 (cr_all hc) sc_all hm (by decide +kernel) ha hg (by decide) (by decide) he hpl
/-! ### isinstance(x, T) -/
def D.ty : D → Option String
  | .non => some "NoneType"
  | .bl _ => some "bool"
  | .int _ => some "int"
  | .str _ => some "str"
  | .lst _ => some "list"
  | .tup _ => some "tuple"
  | _ => none
theorem RD.tyx {K : PySem.W.Frag} {B : Option Addr} {M : List Addr} {H : Hp} {d : D} {v : V} {t : String} (h : RD K B (hid M H) d v) (ht : d.ty = some t) : TyX K H v (.type t) := by
  cases d with
  | non => cases ht; rw [show v = .non from h]; exact .base .non
  | bl b => cases ht; rw [show v = .bl b from h]; exact .base (.bl b)
  | int i => cases ht; rw [show v = .int i from h]; exact .base (.int i)
  | str x => cases ht; rw [show v = .str x from h]; exact .base (.str x)
  | lst ds => cases ht; obtain ⟨a, xs, rfl, e, _⟩ := h; exact .base (.lst (hid_of e).2)
  | tup ds =>
    cases ht
    obtain ⟨a, xs, rfl, e, _⟩ := h
    rcases e.1 with (e | ⟨o, e⟩) | ⟨o, its, n, e1, e2, _⟩
    · exact .base (.tup (hid_of e).2)
    · exact .fTuple (hid_of e).2
    · exact .kTuple e1 e2
  | bag => cases ht
  | adr p => cases ht
  | scr ns => cases ht
  | ins C fs ds => cases ht
  | obj P => cases ht
def D.isi (T : String) (d : D) : Option Bool := d.ty.bind fun t => kitB t T
@[irreducible] def isiK (o : Option Bool) (k : D → Prop) : Prop := match o with
  | some b => k (.bl b)
  | none => False
def dIsi (T : String) (da : DE) : DE := fun δ k kx => da δ (fun d => isiK (d.isi T) k) kx
theorem d_isi {T : String} {x : Str} {p p2 : Pos} (hm : X.mg "isinstance" = none) (hm2 : X.mg x = none) (hv : bootBuiltins x = some (.type T)) (ha : PD X E a da) (hg2 : Gl X x := by rfl) (hg : Gl X "isinstance" := by rfl) (hn : x ≠ "__name__" := by decide) (hd : (x == ("__debug__" : Str)) = false := by decide)
    (hs : starEach [a, .Name x p2] X.env = (false, eval a X.env) :: starEach [.Name x p2] X.env := by rfl) (hs2 : starEach [.Name x p2] X.env = (false, eval (.Name x p2) X.env) :: starEach [] X.env := by rfl) (hpl : (backTo pos (starEach [.Name x p2] X.env)).any (·.1) = false := by rfl) :
    PD X E (.Call (.Name "isinstance" p) [a, .Name x p2] [] pos) (dIsi T da) := by
  obtain ⟨ta, p1, s1⟩ := ha
  refine ⟨_, pe_callB call_isi hg hm (by decide +kernel) (pa_cons p1 (pa_cons (pe_bltn (v := .ty T) hg2 hm2 hv rfl hn hd) pa_nil hs2) hs) (by decide) (by decide) hs hpl, fun B M σ δ H k kx Q rp h hq hx => s1 B M σ δ H _ kx _ rp h (fun v d H1 t1 r1 q1 => ?_) hx⟩
  unfold D.isi isiK at q1
  cases q : d.ty with
  | none => rw [q] at q1; exact q1.elim
  | some t =>
    rw [q] at q1
    cases q' : kitB t T with
    | none => rw [show (some t).bind (fun t => kitB t T) = kitB t T from rfl, q'] at q1; exact q1.elim
    | some b =>
      rw [show (some t).bind (fun t => kitB t T) = kitB t T from rfl, q'] at q1
      exact ⟨v, .ty T, .type t, .type T, b, rfl, .ty T, RD.tyx r1 q, kit_ty q', hq _ (.bl b) H1 t1 rfl q1⟩
end
end DL
namespace DL
open PySem PySem.Spec PyProof.Rows L2
/-! ### what is walked -/
abbrev DI := Dst → (List D → Prop) → (Addr → Prop) → Prop
/-- J gives these items, as long as G stands -/
def Walks (K : PySem.W.Frag) (B : Option Addr) (G : Hp) (J : It) (items : List D) : Prop := ∀ M H, Ex G (hid M H) → Ok K B M H →
  (∀ i d, items[i]? = some d → J.go i H ∧ ∀ y H', J.yld i H y H' → Ex H H' ∧ RD K B (hid M H') d y) ∧ J.stop items.length H
def SI (K : PySem.W.Frag) (E : XK) (wi : TI) (di : DI) : Prop := ∀ B M σ δ H k kx (R : It → Hp → Prop), Rep K B M H σ δ → di δ k kx →
  (∀ J items H2, Stp K B M H H2 → Walks K B (hid M H2) J items → k items → R J H2) → (∀ C H2, Stp K B M H H2 → kx C → E (.ref C) none H2) → wi σ H R
def PDI (X : Cx) (E : XK) (tg e : Expr) (di : DI) : Prop := ∃ wi, PI X tg e wi ∧ SI X.K E wi di
section
variable {X : Cx} {E : XK} {a b c e tg : Expr} {es : List Expr} {da db dc de : DE} {das : DA} {dt du : DT} {pos : Pos}
theorem walks_tup {K : PySem.W.Frag} {B : Option Addr} {G : Hp} {a : Addr} {xs : List V} {ds : List D} (h : SqT K G a xs) (r : RDs K B G ds xs) (inj : ∀ H ys, Ex G H → SqT K H a ys → ys = xs) : Walks K B G (Itt K a) ds := by
  intro M H ex ok
  have exH : Ex G H := fun c o q => hid_ex M H _ _ (ex c o q)
  have h' := Evl.ex_t exH h
  refine ⟨fun i d hd => ?_, xs, h', by rw [RDs.len r]; exact Nat.le_refl _⟩
  obtain ⟨x, h1, h2⟩ := RDs.gt r hd
  refine ⟨⟨xs, x, h', h1⟩, fun y H' hy => ?_⟩
  obtain ⟨rfl, hy⟩ := hy
  have e := hy xs h'
  rw [h1] at e
  cases e
  exact ⟨fun _ _ h => h, RD.ex ex _ _ h2⟩
def dItT (da : DE) : DI := fun δ k kx => da δ (fun d => match d with
  | .tup ds => k ds
  | _ => False) kx
def dItL (da : DE) : DI := fun δ k kx => da δ (fun d => match d with
  | .lst ds => k ds
  | _ => False) kx
theorem i_tup : PD X E a da → PDI X E tg a (dItT da)
  | ⟨_, h1, s1⟩ => ⟨_, pi_tup h1, fun B M σ δ H k kx R rp h hq hx => s1 B M σ δ H _ kx _ rp h (fun v d H1 t1 r1 q1 => by
      cases d with
      | tup ds =>
        obtain ⟨p, xs, rfl, e3, e4⟩ := r1
        refine ⟨p, rfl, ⟨xs, SqD.un e3⟩, hq _ ds H1 t1 (fun M' H' ex ok => ?_) q1⟩
        have exH : Ex (hid M H1) H' := fun c o q => hid_ex M' H' _ _ (ex c o q)
        have h' := Evl.ex_t exH e3.1
        refine ⟨fun i d hd => ?_, xs, h', by rw [RDs.len e4]; exact Nat.le_refl _⟩
        obtain ⟨x, h1, h2⟩ := RDs.gt e4 hd
        refine ⟨⟨xs, x, h', h1⟩, fun y H2 hy => ?_⟩
        obtain ⟨rfl, hy⟩ := hy
        have e := hy xs h'
        rw [h1] at e
        cases e
        exact ⟨fun _ _ h => h, RD.ex ex _ _ h2⟩
      | _ => exact q1.elim) hx⟩
theorem i_lst : PD X E a da → PDI X E tg a (dItL da)
  | ⟨_, h1, s1⟩ => ⟨_, pi_list h1, fun B M σ δ H k kx R rp h hq hx => s1 B M σ δ H _ kx _ rp h (fun v d H1 t1 r1 q1 => by
      cases d with
      | lst ds =>
        obtain ⟨p, xs, rfl, e3, e4⟩ := r1
        refine ⟨p, rfl, ⟨xs, SqL.of (hid_of e3).2⟩, hq _ ds H1 t1 (fun M' H' ex ok => ?_) q1⟩
        have h' : SqL X.K H' p xs := SqL.of (hid_of (ex _ _ e3)).2
        refine ⟨fun i d hd => ?_, xs, h', by rw [RDs.len e4]; exact Nat.le_refl _⟩
        obtain ⟨x, h1, h2⟩ := RDs.gt e4 hd
        refine ⟨⟨xs, x, h', h1⟩, fun y H2 hy => ?_⟩
        obtain ⟨rfl, hy⟩ := hy
        have e := hy xs h'
        rw [h1] at e
        cases e
        exact ⟨fun _ _ h => h, RD.ex ex _ _ h2⟩
      | _ => exact q1.elim) hx⟩
theorem walks_rng {K : PySem.W.Frag} {B : Option Addr} {G : Hp} {lo : Int} {n : Nat} : Walks K B G (Itr lo n) ((List.range n).map fun (i : Nat) => D.int (lo + (i : Int))) := by
  intro M H ex ok
  refine ⟨fun i d hd => ?_, by show n ≤ _; rw [List.length_map, List.length_range]; exact Nat.le_refl _⟩
  rw [List.getElem?_map] at hd
  cases q : (List.range n)[i]? with
  | none => rw [q] at hd; cases hd
  | some j =>
    rw [q] at hd
    have hlt : i < n := by
      have := (List.getElem?_eq_some_iff.mp q).1
      rwa [List.length_range] at this
    have hj : j = i := by
      rw [List.getElem?_range hlt] at q
      exact (Option.some.inj q).symm
    subst hj
    cases hd
    exact ⟨hlt, fun y H' hy => by obtain ⟨rfl, rfl⟩ := hy; exact ⟨fun _ _ h => h, rfl⟩⟩
def rngD (lo : Int) (n : Nat) : List D := (List.range n).map fun (i : Nat) => D.int (lo + (i : Int))
def dItR1 (da : DE) : DI := fun δ k kx => da δ (fun d => match d with
  | .int j => (-(2 ^ 62) ≤ j ∧ j < 2 ^ 62) ∧ k (rngD 0 j.toNat)
  | _ => False) kx
def dItR2 (da db : DE) : DI := fun δ k kx => da δ (fun d => db δ (fun e => match d, e with
  | .int i, .int j => (-(2 ^ 62) ≤ i ∧ i < 2 ^ 62 ∧ -(2 ^ 62) ≤ j ∧ j < 2 ^ 62) ∧ k (rngD i (j - i).toNat)
  | _, _ => False) kx) kx
theorem i_rng1 {p : Pos} (hm : X.mg "range" = none) (ha : PD X E a da) (hg : Gl X "range" := by rfl) (hs : starEach [a] X.env = [(false, eval a X.env)] := by rfl) (he : starEach [a] X.env = (false, eval a X.env) :: starEach [] X.env := by rfl) :
    PDI X E tg (.Call (.Name "range" p) [a] [] pos) (dItR1 da) := by
  obtain ⟨ta, p1, s1⟩ := ha
  refine ⟨_, pi_range1 hg hm (pa_cons p1 pa_nil he) hs, fun B M σ δ H k kx R rp h hq hx => s1 B M σ δ H _ kx _ rp h (fun v d H1 t1 r1 q1 => ?_) hx⟩
  cases d <;> try exact q1.elim
  rename_i j
  exact ⟨j, by rw [show v = .int j from r1], q1.1.1, q1.1.2, hq _ _ H1 t1 walks_rng q1.2⟩
theorem i_rng2 {p : Pos} (hm : X.mg "range" = none) (ha : PD X E a da) (hb : PD X E b db) (hg : Gl X "range" := by rfl) (hs : starEach [a, b] X.env = [(false, eval a X.env), (false, eval b X.env)] := by rfl) (hs2 : starEach [b] X.env = [(false, eval b X.env)] := by rfl)
    (he : starEach [a, b] X.env = (false, eval a X.env) :: starEach [b] X.env := by rfl) (he2 : starEach [b] X.env = (false, eval b X.env) :: starEach [] X.env := by rfl) :
    PDI X E tg (.Call (.Name "range" p) [a, b] [] pos) (dItR2 da db) := by
  obtain ⟨ta, p1, s1⟩ := ha
  obtain ⟨tb, p2, s2⟩ := hb
  refine ⟨_, pi_range2 hg hm (pa_cons p1 (pa_cons p2 pa_nil he2) he) hs hs2, fun B M σ δ H k kx R rp h hq hx => s1 B M σ δ H _ kx _ rp h (fun v d H1 t1 r1 q1 => ?_) hx⟩
  refine s2 B M σ δ H1 _ kx _ (rp.stp t1) q1 (fun w e H2 t2 r2 q2 => ?_) (fun C H2 t2 q2 => hx C H2 (t1.trans t2) q2)
  cases d <;> try exact q2.elim
  cases e <;> try exact q2.elim
  rename_i i j
  exact ⟨i, j, by rw [show v = .int i from r1, show w = .int j from r2], q2.1, hq _ _ H2 (t1.trans t2) walks_rng q2.2⟩
/-! ### targets -/
def gN (i : Nat) : DG := fun d δ k => k (δ.set i (some d))
theorem g_name {i : Nat} {x : Str} (hN : X.N.Nodup) (hi : X.N[i]? = some x) (hx : Loc X.env.scope x) (hf : X.fn x = true ∨ X.env.scope.names.lookup x = some .local := by first | exact .inl rfl | exact .inr rfl | assumption) : PDG X (.Name x pos) (gN i) :=
  ⟨_, pg_name hN hi hx hf, fun B M σ δ H v d k Q rp r h hq => hq _ _ (rp.set r) h⟩
abbrev DGs := List D → Dst → (Dst → Prop) → Prop
def SGs (K : PySem.W.Frag) (g : TGs) (dg : DGs) : Prop := ∀ B M σ δ H vs ds (k : Dst → Prop) (Q : L2.St → Hp → Prop), Rep K B M H σ δ → RDs K B (hid M H) ds vs → dg ds δ k →
  (∀ σ' δ', Rep K B M H σ' δ' → k δ' → Q σ' H) → g vs σ H Q
def PDGs (X : Cx) (es : List Expr) (dg : DGs) : Prop := ∃ g, PGs X es g ∧ SGs X.K g dg
def gNl : DGs := fun ds δ k => match ds with
  | [] => k δ
  | _ => False
def gCn (g : DG) (gs : DGs) : DGs := fun ds δ k => match ds with
  | d :: r => g d δ (fun δ' => gs r δ' k)
  | _ => False
theorem gs_nil : PDGs X [] gNl := ⟨_, pgs_nil, fun B M σ δ H vs ds k Q rp r h hq => by
  cases ds with
  | nil => rw [show vs = [] from r]; exact ⟨rfl, hq _ _ rp h⟩
  | cons d ds => exact h.elim⟩
theorem gs_cons {dg : DG} {dgs : DGs} (h1 : PDG X e dg) (h2 : PDGs X es dgs) (hs : (assignEach (e :: es) X.env).map (·.2) = assign e X.env :: (assignEach es X.env).map (·.2) := by rfl) : PDGs X (e :: es) (gCn dg dgs) := by
  obtain ⟨g, p1, s1⟩ := h1
  obtain ⟨gs, p2, s2⟩ := h2
  refine ⟨_, pgs_cons p1 p2 hs, fun B M σ δ H vs ds k Q rp r h hq => ?_⟩
  cases ds with
  | nil => exact h.elim
  | cons d ds =>
    obtain ⟨y, ys, rfl, e2, e3⟩ := r
    exact ⟨y, ys, rfl, s1 B M σ δ H y d _ _ rp e2 h (fun σ' δ' rp' h' => s2 B M σ' δ' H ys ds k Q rp' e3 h' hq)⟩
def gTp (n : Nat) (gs : DGs) : DG := fun d δ k => match d with
  | .tup ds => ds.length = n ∧ gs ds δ k
  | _ => False
theorem g_tup {dgs : DGs} {k n : Nat} (hc : X.calm = true) (h : PDGs X es dgs) (hn : (assignEach es X.env).length = n := by rfl) (hst : (assignEach es X.env).findIdx? (·.1) = none := by rfl) : PDG X (.Tuple es k pos) (gTp n dgs) := by
  obtain ⟨g, p, s⟩ := h
  refine ⟨_, pg_tup hc p hn hst, fun B M σ δ H v d k Q rp r h hq => ?_⟩
  cases d <;> try exact h.elim
  obtain ⟨a, xs, rfl, e2, e3⟩ := r
  exact ⟨a, xs, rfl, SqD.un e2, by rw [RDs.len e3]; exact h.1, s B M σ δ H xs _ k Q rp e3 h.2 hq⟩
/-! ### statements -/
variable {st : Stmt} {rest sb se : List Stmt} {s1 s2 s3 : DS}
def dNext : DS := fun D δ => D.nx δ
def dSeq (t u : DS) : DS := fun D δ => t { D with nx := u D } δ
theorem b_nil : PDB X E [] dNext := ⟨_, pss_nil, fun B M σ δ H D0 D1 rp h l => l.nx σ δ H .refl rp h⟩
theorem b_one : PDS X E st s1 → PDB X E [st] s1
  | ⟨_, p, s⟩ => ⟨_, pss_one p, s⟩
theorem b_cons : PDS X E st s1 → PDB X E rest s2 → PDB X E (st :: rest) (dSeq s1 s2)
  | ⟨_, p1, q1⟩, ⟨_, p2, q2⟩ => ⟨_, pss_cons p1 p2, fun B M σ δ H D0 D1 rp h l => q1 B M σ δ H _ _ rp h
      ⟨fun σ' δ' H2 t r h2 => q2 B M σ' δ' H2 D0 D1 r h2 (l.stp t), l.rt, l.ex, l.bk, l.ct⟩⟩
/-- what follows is shown once, from Mid -/
def dCut (t u : DS) : DS := fun D δ => ∃ Mid : Dst → Prop, t { D with nx := Mid } δ ∧ ∀ δ', Mid δ' → u D δ'
theorem b_cut : PDS X E st s1 → PDB X E rest s2 → PDB X E (st :: rest) (dCut s1 s2)
  | ⟨_, p1, q1⟩, ⟨_, p2, q2⟩ => ⟨_, pss_cons p1 p2, fun B M σ δ H D0 D1 rp h l => by
      obtain ⟨Mid, h1, h2⟩ := h
      exact q1 B M σ δ H { D0 with nx := Mid } _ rp h1 ⟨fun σ' δ' H2 t r h3 => q2 B M σ' δ' H2 D0 D1 r (h2 δ' h3) (l.stp t), l.rt, l.ex, l.bk, l.ct⟩⟩
def dAsg (de : DE) (g : DG) : DS := fun D δ => de δ (fun d => g d δ D.nx) D.ex
abbrev dSet (i : Nat) (de : DE) : DS := dAsg de (gN i)
theorem s_set {i : Nat} {x : Str} {pos' : Pos} (hN : X.N.Nodup) (hi : X.N[i]? = some x) (hx : Loc X.env.scope x) (he : PD X E e de) (hs : swapsWith e (some (.Name x pos')) pos.line X.env = pure false := by rfl) (hf : X.fn x = true ∨ X.env.scope.names.lookup x = some .local := by first | exact .inl rfl | exact .inr rfl | assumption) :
    PDS X E (.Assign [.Name x pos'] e pos) (dSet i de) := by
  obtain ⟨te, p, s⟩ := he
  refine ⟨_, ps_set hN hi hx p hs hf, fun B M σ δ H D0 D1 rp h l => s B M σ δ H _ _ _ rp h (fun v d H2 t r q => ?_) l.ex⟩
  exact l.nx _ _ H2 t ((rp.stp t).set r) q
theorem s_asg {g : DG} (he : PD X E e de) (hg : PDG X tg g) (hs : swapsWithSole [tg] e pos.line X.env = pure false := by rfl) (hw : swappedStores [tg] e X.env = pure none := by rfl)
    (h1 : (assignEach [tg] X.env).map (·.2) = [assign tg X.env] := by rfl) : PDS X E (.Assign [tg] e pos) (dAsg de g) := by
  obtain ⟨te, p, s⟩ := he
  obtain ⟨g, p2, q2⟩ := hg
  refine ⟨_, ps_asg p p2 hs hw h1, fun B M σ δ H D0 D1 rp h l => s B M σ δ H _ _ _ rp h (fun v d H2 t r q => ?_) l.ex⟩
  exact q2 B M σ δ H2 v d _ _ (rp.stp t) r q (fun σ' δ' rp' h' => l.nx _ _ H2 t rp' h')
/-- a, b = x, y -/
def dPar (i j : Nat) (da db : DE) : DS := fun D δ => da δ (fun x => db δ (fun y => D.nx ((δ.set i (some x)).set j (some y))) D.ex) D.ex
theorem s_par {i j : Nat} {x y : Str} {px py pt : Pos} {kt k2 pt2} (hc : X.calm = true) (hN : X.N.Nodup) (hi : X.N[i]? = some x) (hj : X.N[j]? = some y) (hij : i ≠ j)
    (hx : X.env.scope.names.lookup x = some .local) (hy : X.env.scope.names.lookup y = some .local) (ha : PD X E a da) (hb : PD X E b db)
    (hw : swappedStores [.Tuple [.Name x px, .Name y py] kt pt] (.Tuple [a, b] k2 pt2) X.env = pure (some [x, y]) := by rfl)
    (hs : swapsWithSole [.Tuple [.Name x px, .Name y py] kt pt] (.Tuple [a, b] k2 pt2) pos.line X.env = pure false := by rfl)
    (he : starEach [a, b] X.env = (false, eval a X.env) :: starEach [b] X.env := by rfl) (he2 : starEach [b] X.env = (false, eval b X.env) :: starEach [] X.env := by rfl) :
    PDS X E (.Assign [.Tuple [.Name x px, .Name y py] kt pt] (.Tuple [a, b] k2 pt2) pos) (dPar i j da db) := by
  obtain ⟨ta, p1, q1⟩ := ha
  obtain ⟨tb, p2, q2⟩ := hb
  refine ⟨_, ps_par hc hN hi hj hij hx hy (pa_cons p1 (pa_cons p2 pa_nil he2) he) hw hs, fun B M σ δ H D0 D1 rp h l => q1 B M σ δ H _ _ _ rp h (fun v d H1 t1 r1 h1 => ?_) l.ex⟩
  refine q2 B M σ δ H1 _ _ _ (rp.stp t1) h1 (fun w e H2 t2 r2 h2 => ?_) (fun C H2 t2 h2 => l.ex C H2 (t1.trans t2) h2)
  exact ⟨v, w, rfl, l.nx _ _ H2 (t1.trans t2) ((((rp.stp t1).stp t2).set (RD.ex t2.ex _ _ r1)).set r2) h2⟩
def dPar3 (i j m : Nat) (da db dc : DE) : DS := fun D δ => da δ (fun x => db δ (fun y => dc δ (fun z => D.nx (((δ.set i (some x)).set j (some y)).set m (some z))) D.ex) D.ex) D.ex
theorem s_par3 {i j m : Nat} {x y z : Str} {px py pz pt : Pos} {kt k2 pt2} (hc : X.calm = true) (hN : X.N.Nodup) (hi : X.N[i]? = some x) (hj : X.N[j]? = some y) (hl : X.N[m]? = some z) (hij : i ≠ j) (hil : i ≠ m) (hjl : j ≠ m)
    (hx : X.env.scope.names.lookup x = some .local) (hy : X.env.scope.names.lookup y = some .local) (hz : X.env.scope.names.lookup z = some .local) (ha : PD X E a da) (hb : PD X E b db) (hcc : PD X E c dc)
    (hw : swappedStores [.Tuple [.Name x px, .Name y py, .Name z pz] kt pt] (.Tuple [a, b, c] k2 pt2) X.env = pure (some [x, y, z]) := by rfl)
    (hs : swapsWithSole [.Tuple [.Name x px, .Name y py, .Name z pz] kt pt] (.Tuple [a, b, c] k2 pt2) pos.line X.env = pure false := by rfl)
    (he : starEach [a, b, c] X.env = (false, eval a X.env) :: starEach [b, c] X.env := by rfl) (he2 : starEach [b, c] X.env = (false, eval b X.env) :: starEach [c] X.env := by rfl) (he3 : starEach [c] X.env = (false, eval c X.env) :: starEach [] X.env := by rfl) :
    PDS X E (.Assign [.Tuple [.Name x px, .Name y py, .Name z pz] kt pt] (.Tuple [a, b, c] k2 pt2) pos) (dPar3 i j m da db dc) := by
  obtain ⟨ta, p1, q1⟩ := ha
  obtain ⟨tb, p2, q2⟩ := hb
  obtain ⟨tc, p3, q3⟩ := hcc
  refine ⟨_, ps_par3 hc hN hi hj hl hij hil hjl hx hy hz (pa_cons p1 (pa_cons p2 (pa_cons p3 pa_nil he3) he2) he) hw hs, fun B M σ δ H D0 D1 rp h l => q1 B M σ δ H _ _ _ rp h (fun v d H1 t1 r1 h1 => ?_) l.ex⟩
  refine q2 B M σ δ H1 _ _ _ (rp.stp t1) h1 (fun w e H2 t2 r2 h2 => ?_) (fun C H2 t2 h2 => l.ex C H2 (t1.trans t2) h2)
  refine q3 B M σ δ H2 _ _ _ ((rp.stp t1).stp t2) h2 (fun w3 e3 H3 t3 r3 h3 => ?_) (fun C H3 t3 h3 => l.ex C H3 ((t1.trans t2).trans t3) h3)
  exact ⟨v, w, w3, rfl, l.nx _ _ H3 ((t1.trans t2).trans t3) ((((((rp.stp t1).stp t2).stp t3).set (RD.ex t3.ex _ _ (RD.ex t2.ex _ _ r1))).set (RD.ex t3.ex _ _ r2)).set r3) h3⟩
def dDrop (de : DE) : DS := fun D δ => de δ (fun _ => D.nx δ) D.ex
theorem s_expr (he : PD X E e de) (hs : swapsWith e none pos.line X.env = pure false := by rfl) : PDS X E (.Expr e pos) (dDrop de) := by
  obtain ⟨te, p, s⟩ := he
  exact ⟨_, ps_expr p hs, fun B M σ δ H D0 D1 rp h l => s B M σ δ H _ _ _ rp h (fun v d H2 t r q => l.nx _ _ H2 t (rp.stp t) q) l.ex⟩
def dRet (de : DE) : DS := fun D δ => de δ D.rt D.ex
theorem s_ret : PD X E e de → PDS X E (.Return (some e) pos) (dRet de)
  | ⟨_, p, s⟩ => ⟨_, ps_ret p, fun B M σ δ H D0 D1 rp h l => s B M σ δ H _ _ _ rp h (fun v d H2 t r q => l.rt v d H2 t r q) l.ex⟩
def dIfS (t : DT) (u v : DS) : DS := fun D δ => t δ (fun b => if b = true then u D δ else v D δ) D.ex
theorem s_if : PDT X E c dt → PDB X E sb s1 → PDB X E se s2 → PDS X E (.If c sb se pos) (dIfS dt s1 s2)
  | ⟨_, p0, q0⟩, ⟨_, p1, q1⟩, ⟨_, p2, q2⟩ => ⟨_, ps_if p0 p1 p2, fun B M σ δ H D0 D1 rp h l => q0 B M σ δ H _ _ _ rp h (fun b H2 t q => by
      cases b with
      | true => exact iteT (q1 B M σ δ H2 D0 D1 (rp.stp t) (by simpa using q) (l.stp t))
      | false => exact iteF (q2 B M σ δ H2 D0 D1 (rp.stp t) (by simpa using q) (l.stp t))) l.ex⟩
/-! ### loops -/
def dFor (di : DI) (g : DG) (tb : DS) : DS := fun D δ => di δ (fun items => ∃ Pv : Nat → Dst → Prop, Pv 0 δ ∧
  (∀ i d δ', items[i]? = some d → Pv i δ' → g d δ' (fun δ2 => tb { D with nx := Pv (i + 1), ct := Pv (i + 1), bk := D.nx } δ2)) ∧ ∀ δ', Pv items.length δ' → D.nx δ') D.ex
theorem s_for {iter : Expr} {body : List Stmt} {di : DI} {g : DG} (hp : PassesOwn (model X.prog X.w) X.A X.env X.xe) (hc : X.calm = true) (hi : PDI X E tg iter di) (hg : PDG X tg g) (hb : PDB X E body s1)
    (hs : ∀ x, foldedSetIterable iter X.env x = pure x := by intro _; rfl) : PDS X E (.For tg iter body [] pos) (dFor di g s1) := by
  obtain ⟨wi, p1, q1⟩ := hi
  obtain ⟨tg', p2, q2⟩ := hg
  obtain ⟨tb, p3, q3⟩ := hb
  refine ⟨_, ps_for hp hc p1 p2 p3 hs, fun B M σ δ H D0 D1 rp h l => q1 B M σ δ H _ _ _ rp h (fun J items H1 t1 wk hk => ?_) l.ex⟩
  obtain ⟨Pv, h0, hst, hd⟩ := hk
  refine ⟨fun i m σ' H' => i + m = items.length ∧ Stp X.K B M H1 H' ∧ ∃ δ', Rep X.K B M H' σ' δ' ∧ Pv i δ', ⟨items.length, by omega, .refl, δ, rp.stp t1, h0⟩, fun i m σ' H' hW => ?_⟩
  obtain ⟨em, t2, δ', rp', hpv⟩ := hW
  obtain ⟨go, stop⟩ := wk M H' t2.ex rp'.ok
  by_cases c : i = items.length
  · subst c
    exact .inl ⟨stop, l.nx _ _ H' (t1.trans t2) rp' (hd _ hpv)⟩
  · have hi : i < items.length := by omega
    obtain ⟨hg, hy⟩ := go i _ (List.getElem?_eq_getElem hi)
    refine .inr ⟨hg, fun σ2 H2 => Stp X.K B M H1 H2 ∧ ∃ δ2, Rep X.K B M H2 σ2 δ2 ∧ Pv (i + 1) δ2, fun σ2 H2 hN => ⟨m - 1, by omega, by omega, hN⟩, fun x H2 hyl => ?_⟩
    obtain ⟨ex2, rx⟩ := hy x H2 hyl
    have t3 : Stp X.K B M H' H2 := .same ex2 rp'.ok
    refine q2 B M σ' δ' H2 x _ _ _ (rp'.stp t3) rx (hst i _ δ' (List.getElem?_eq_getElem hi) hpv) (fun σ3 δ3 rp3 h3 => ?_)
    refine q3 B M σ3 δ3 H2 _ _ rp3 h3 ⟨fun σ4 δ4 H4 t4 rp4 h4 => ⟨(t2.trans t3).trans t4, δ4, rp4, h4⟩, fun v d H4 t4 r4 h4 => l.rt v d H4 (((t1.trans t2).trans t3).trans t4) r4 h4,
      fun C H4 t4 h4 => l.ex C H4 (((t1.trans t2).trans t3).trans t4) h4, fun σ4 δ4 H4 t4 rp4 h4 => l.nx σ4 δ4 H4 (((t1.trans t2).trans t3).trans t4) rp4 h4, fun σ4 δ4 H4 t4 rp4 h4 => ⟨(t2.trans t3).trans t4, δ4, rp4, h4⟩⟩
def dWhile (t : DT) (tb : DS) : DS := fun D δ => ∃ Pv : Nat → Dst → Prop, (∃ m, Pv m δ) ∧ ∀ m δ', Pv m δ' → t δ' (fun b => if b = true then tb { D with nx := fun δ2 => ∃ m', m' < m ∧ Pv m' δ2, ct := fun δ2 => ∃ m', m' < m ∧ Pv m' δ2, bk := D.nx } δ' else D.nx δ') D.ex
theorem s_while {body : List Stmt} (hp : PassesOwn (model X.prog X.w) X.A X.env X.xe) (hc : PDT X E c dt) (hb : PDB X E body s1) : PDS X E (.While c body [] pos) (dWhile dt s1) := by
  obtain ⟨tc, p1, q1⟩ := hc
  obtain ⟨tb, p2, q2⟩ := hb
  refine ⟨_, ps_while hp p1 p2, fun B M σ δ H D0 D1 rp h l => ?_⟩
  obtain ⟨Pv, ⟨m0, h0⟩, hst⟩ := h
  refine ⟨fun m σ' H' => Stp X.K B M H H' ∧ ∃ δ', Rep X.K B M H' σ' δ' ∧ Pv m δ', ⟨m0, .refl, δ, rp, h0⟩, fun m σ' H' hW => ?_⟩
  obtain ⟨t1, δ', rp', hpv⟩ := hW
  refine q1 B M σ' δ' H' _ _ _ rp' (hst m δ' hpv) (fun b H2 t2 q => ?_) (fun C H2 t2 q => l.ex C H2 (t1.trans t2) q)
  cases b with
  | false => exact iteF (l.nx _ _ H2 (t1.trans t2) (rp'.stp t2) (by simpa using q))
  | true =>
    refine iteT ⟨fun σ2 H3 => Stp X.K B M H H3 ∧ ∃ δ2, Rep X.K B M H3 σ2 δ2 ∧ ∃ m', m' < m ∧ Pv m' δ2, fun σ2 H3 hN => ?_, ?_⟩
    · obtain ⟨t3, δ2, rp2, m', hm, hp'⟩ := hN
      exact ⟨m', hm, t3, δ2, rp2, hp'⟩
    · rw [if_pos rfl] at q
      refine q2 B M σ' δ' H2 _ _ (rp'.stp t2) q ⟨fun σ4 δ4 H4 t4 rp4 h4 => ⟨(t1.trans t2).trans t4, δ4, rp4, h4⟩, fun v d H4 t4 r4 h4 => l.rt v d H4 ((t1.trans t2).trans t4) r4 h4,
        fun C H4 t4 h4 => l.ex C H4 ((t1.trans t2).trans t4) h4, fun σ4 δ4 H4 t4 rp4 h4 => l.nx σ4 δ4 H4 ((t1.trans t2).trans t4) rp4 h4, fun σ4 δ4 H4 t4 rp4 h4 => ⟨(t1.trans t2).trans t4, δ4, rp4, h4⟩⟩
/-! ### calls of defs -/
abbrev DSp := List D → (D → Prop) → (Addr → Prop) → Prop
def spD (K : PySem.W.Frag) (dsp : DSp) : Sp := fun vs H Q E => ∃ B M ds k kx, Ok K B M H ∧ RDs K B (hid M H) ds vs ∧ dsp ds k kx ∧ (∀ v d H2, Stp K B M H H2 → RD K B (hid M H2) d v → k d → Q v H2) ∧ (∀ C H2, Stp K B M H H2 → kx C → E (.ref C) none H2)
abbrev CXL (X : Cx) : CXT := L2.CX X.prog X.w
def dCall (dsp : DSp) (da : DA) : DE := fun δ k kx => da δ (fun ds => dsp ds k kx) kx
theorem se_call {K : PySem.W.Frag} {dsp : DSp} {n : Nat} {ta : TA} (ha : SAn K E n ta das) : SE K E (tCall (spD K dsp) [] E ta) (dCall dsp das) :=
  fun B M σ δ H k kx Q rp h hq hx => ha B M σ δ H _ kx _ rp h (fun vs ds H1 _ t1 r1 q1 => ⟨B, M, ds, k, kx, t1.ok rp.ok, by rw [List.append_nil]; exact r1, q1, fun v d H2 t2 r2 q2 => hq v d H2 (t1.trans t2) r2 q2, fun C H2 t2 q2 => hx C H2 (t1.trans t2) q2⟩) hx
theorem d_call {k : Nat} {f : Addr} {fd : FuncData} {ps : List Str} {dsp : DSp} {x : Str} {p : Pos} (hx : Passes (CXL X) X E) (hr : Room k X.A) (F : FnOk X.prog X.w X.K X.mg X.base (CXL X) k f fd ps (spD X.K dsp)) (hm : X.mg x = some (.ref f)) (hk : PySem.W.keepIn X.K (.ref f) = true) (hb : Binds X.K fd ps [])
    (ha : PDL X E (e :: es) das) (hg : Gl X x := by rfl) (hdb : (x == ("__debug__" : Str)) = false := by decide) (he : starEach (e :: es) X.env = (false, eval e X.env) :: starEach es X.env := by rfl) (hpl : (backTo pos (starEach es X.env)).any (·.1) = false := by rfl) :
    PD X E (.Call (.Name x p) (e :: es) [] pos) (dCall dsp das) := by
  obtain ⟨ta, p1, s1⟩ := ha
  exact ⟨_, pe_call F hr hg hm hk hb .nil hx p1 hdb he hpl, se_call s1⟩
/-! ### a def keeps its promise -/
def dstart (N : List Str) (ds : List D) : Dst := ds.map some ++ List.replicate (N.length - ds.length) none
theorem rep_start {K : PySem.W.Frag} {B : Option Addr} {M : List Addr} {H : Hp} {N : List Str} {ds : List D} {vs : List V} (ok : Ok K B M H) (r : RDs K B (hid M H) ds vs) : Rep K B M H (L2.start N vs) (dstart N ds) := by
  have hl := RDs.len r
  refine ⟨ok, ?_, fun i d h => ?_⟩
  · unfold L2.start dstart
    rw [List.length_append, List.length_append, List.length_map, List.length_map, List.length_replicate, List.length_replicate, hl]
  · unfold dstart at h
    unfold L2.start
    by_cases c : i < ds.length
    · rw [List.getElem?_append_left (by rw [List.length_map]; exact c), List.getElem?_map] at h
      cases q : ds[i]? with
      | none => rw [q] at h; cases h
      | some e =>
        rw [q] at h
        cases h
        obtain ⟨v, h1, h2⟩ := RDs.gt r q
        refine ⟨v, ?_, h2⟩
        rw [List.getElem?_append_left (by rw [List.length_map, hl]; exact c), List.getElem?_map, h1]
        rfl
    · rw [List.getElem?_append_right (by rw [List.length_map]; omega)] at h
      rw [List.getElem?_replicate] at h
      split at h <;> cases h
end
section
variable {P : Program} {w : World} {K : PySem.W.Frag} {mg : Str → Option Value} {base : Heap}
theorem fn_D {x qual : Str} {st : Stmt} {f : Addr} {fd : FuncData} {N ps : List Str} {k : Nat} {dsp : DSp} (F : Fun K x qual st f fd) (S : FnScope N ps (defScope st)) (hlen : ∀ ds k kx, dsp ds k kx → ds.length = ps.length)
    (hbody : ∀ (cdv : Value) (A : Around) (outer : List Env) (s : Shared) (H : Hp) (E : XK), Room k (A.deeper (envOfC qual (defScope st) s.heap.objs.size f cdv)) →
      ∃ t, PDB (cxOf (L2.CX P w) P w K mg base N qual (defScope st) f cdv A outer s H E) E (defBody st) t ∧ ∀ ds k kx, dsp ds k kx → t { nx := fun _ => k .non, rt := k, ex := kx } (dstart N ds)) : FnOk P w K mg base (L2.CX P w) (k + 1) f fd ps (spD K dsp) := by
  refine F.okX S (fun vs H Q E h => ?_) (fun cdv A outer s H vs Q E hr h => ?_)
  · obtain ⟨B, M, ds, k, kx, _, r, hd, _⟩ := h
    rw [RDs.len r]; exact hlen _ _ _ hd
  · obtain ⟨t, ⟨ts, p, q⟩, ht⟩ := hbody cdv A outer s H E hr
    obtain ⟨B, M, ds, k, kx, ok, r, hd, hq, hx⟩ := h
    refine ⟨ts, p, q B M _ _ H _ _ (rep_start ok r) (ht ds k kx hd) ⟨fun σ δ H2 t _ h2 => hq .non .non H2 t rfl h2, hq, hx, fun _ _ _ _ _ h => h.elim, fun _ _ _ _ _ h => h.elim⟩⟩
end
section
variable {X : Cx} {E : XK}
/-- a def's own exceptions pass -/
theorem passO (hs : X.stack = X.env :: X.outer := by rfl) (hf : X.env.frame = some X.env.locals := by rfl) (hex : X.ex = [] := by rfl) {E₁ : Value → Shared → Prop}
    (hx : X.xe = fun e s' => wpAny (model X.prog X.w) X.A (leaving X.env e) (fun _ s'' => L2.CX X.prog X.w X.outer X.H_0 X.s_0 E e s'') E₁ s' := by rfl) : Passes (CXL X) X E :=
  passes_call (takes_of hs hf hex hx) (fun _ _ _ _ h => h)
/-! ### raise C() -/
theorem pmk_own0 {C : Addr} {bmB : List Value} {B newId initId : String} {x : Str} {p pos : Pos} (F : ExcBaseFacts B newId initId bmB) (q : PySem.W.excIn X.K C bmB newId = true) (gC : X.mg x = some (.ref C))
    (kC : PySem.W.keepIn X.K (.ref C) = true) (r : Raises X (.ref C)) (hg : Gl X x) (hdb : (x == ("__debug__" : Str)) = false := by decide) :
    PMk X (.Call (.Name x p) [] [] pos) (fun _ H Q => Q (.ref C) none H) := by
  intro pins s σ H Q I h
  refine wpAny_Call_Name_kw (ld_glob I hg gC ?_ hdb)
  refine PySem.W.callWith_K0 I.kIn kC ?_
  obtain ⟨bm, N, nm, qn, bs, hdct, sn, sub, ab, col, dd, k0, k1, k2, k3, k5, mN, hC, hN, hni, T⟩ := exc_obj I.kIn q
  exact wpAny_call_exc_subT F T hC hN hni (fun h' e hm => mk_of I hm r h (I.hok.gone hm.new)) (Nat.zero_le _)
/-- what the text says of an own refusal -/
structure Ref (K : PySem.W.Frag) (mg : Str → Option Value) (x : Str) (C : Addr) : Prop where
  exc : PySem.W.excIn K C [.type "ValueError", .type "Exception", .type "BaseException", .type "object"] "ValueError.__new__" = true
  g : mg x = some (.ref C)
  kp : PySem.W.keepIn K (.ref C) = true
  sub : PySem.W.subIn K (.ref C) (.type "BaseException") = some true
  ty : PySem.W.typeIn K (.ref C) = some (.type "type")
def dRaise (C : Addr) : DS := fun D _ => D.ex C
theorem s_raise {x : Str} {C : Addr} {p pos pos2 : Pos} (T : Ref X.K X.mg x C) (hc : X.calm = true := by rfl) (hg : Gl X x := by rfl) (hdb : (x == ("__debug__" : Str)) = false := by decide)
    (hs : X.stack = X.env :: X.outer := by rfl) (hf : X.env.frame = some X.env.locals := by rfl) (hex : X.ex = [] := by rfl) {E₁ : Value → Shared → Prop}
    (hx : X.xe = fun e s' => wpAny (model X.prog X.w) X.A (leaving X.env e) (fun _ s'' => L2.CX X.prog X.w X.outer X.H_0 X.s_0 E e s'') E₁ s' := by rfl) :
    PDS X E (.Raise (some (.Call (.Name x p) [] [] pos)) none pos2) (dRaise C) :=
  ⟨_, ps_raise hc (takes_of hs hf hex hx) (pmk_own0 PySem.F.excBase_ValueError T.exc T.g T.kp (raises_own T.sub T.ty) hg hdb), fun B M σ δ H D0 D1 rp h l => l.ex C H .refl h⟩
end
end DL
namespace DL
open PySem PySem.Spec PyProof.Rows L2
/-! ### comprehensions -/
def wipeD (δ : Dst) : List Nat → Dst
  | [] => δ
  | v :: vs => (wipeD δ vs).set v none
section
variable {K : PySem.W.Frag} {B : Option Addr} {M : List Addr} {H H1 H2 : Hp} {σ : L2.St} {δ : Dst}
theorem Rep.unset (r : Rep K B M H σ δ) (i : Nat) : Rep K B M H (σ.set i none) (δ.set i none) := by
  refine ⟨r.ok, by rw [List.length_set, List.length_set]; exact r.len, fun j e hj => ?_⟩
  by_cases c : i = j
  · subst c
    rw [List.getElem?_set_self'] at hj
    cases q : δ[i]? with
    | none => rw [q] at hj; cases hj
    | some w => rw [q] at hj; cases hj
  · rw [List.getElem?_set_ne c] at hj
    obtain ⟨w, h1, h2⟩ := r.at_ j e hj
    exact ⟨w, by rw [List.getElem?_set_ne c]; exact h1, h2⟩
theorem Rep.wipe (r : Rep K B M H σ δ) : ∀ vs, Rep K B M H (L2.wipe σ vs) (wipeD δ vs)
  | [] => r
  | v :: vs => (Rep.wipe r vs).unset v
end
/-- a target of a comprehension: it stores in the slots vs alone -/
def SGk (K : PySem.W.Frag) (g : TG) (dg : DG) (vs : List Nat) : Prop := ∀ B M σ δ H v d (k : Dst → Prop) (Q : L2.St → Hp → Prop), Rep K B M H (L2.wipe σ vs) δ → RD K B (hid M H) d v → dg d δ k →
  (∀ σ' δ', Rep K B M H σ' δ' → L2.wipe σ' vs = L2.wipe σ vs → k δ' → Q σ' H) → g v (L2.wipe σ vs) H Q
theorem sgk_name {K : PySem.W.Frag} (j : Nat) : SGk K (gName j) (gN j) [j] := fun B M σ δ H v d k Q rp r h hq => hq _ _ (rp.set r) (by
  show ((σ.set j none).set j (some v)).set j none = σ.set j none
  rw [List.set_set, List.set_set]) h
theorem wipe_two {σ : L2.St} {i j : Nat} {v w : V} (hij : i ≠ j) : L2.wipe (((L2.wipe σ [i, j]).set i (some v)).set j (some w)) [i, j] = L2.wipe σ [i, j] := by
  show (((((σ.set j none).set i none).set i (some v)).set j (some w)).set j none).set i none = (σ.set j none).set i none
  rw [List.set_set, List.set_set, List.set_comm _ _ hij, List.set_set, List.set_set]
theorem RDs.two {K : PySem.W.Frag} {B : Option Addr} {G : Hp} {x y : D} {xs : List V} (h : RDs K B G [x, y] xs) : ∃ v w, xs = [v, w] ∧ RD K B G x v ∧ RD K B G y w := by
  obtain ⟨v, vs, rfl, rx, w, ws, rfl, ry, en⟩ := h
  rw [show ws = [] from en]
  exact ⟨v, w, rfl, rx, ry⟩
theorem sgk_two {K : PySem.W.Frag} {i j : Nat} (hij : i ≠ j) : SGk K (gTup K 2 (gCons (gName i) (gCons (gName j) gNil))) (gTp 2 (gCn (gN i) (gCn (gN j) gNl))) [i, j] := by
  intro B M σ δ H v d k Q rp r h hq
  cases d <;> try exact h.elim
  rename_i ds
  obtain ⟨a, xs, rfl, e2, e3⟩ := r
  obtain ⟨hl, h⟩ := h
  cases ds with
  | nil => cases hl
  | cons x ds =>
    cases ds with
    | nil => cases hl
    | cons y ds =>
      cases ds with
      | cons z ds => simp at hl
      | nil =>
        obtain ⟨v, w, rfl, rx, ry⟩ := RDs.two e3
        exact ⟨a, [v, w], rfl, SqD.un e2, rfl, v, [w], rfl, w, [], rfl, rfl, hq _ _ ((rp.set rx).set ry) (wipe_two hij) h⟩
def dLc (di : DI) (dg : DG) (dt : DT) (de : DE) (vs : List Nat) : DE := fun δ k kx => di δ (fun items => items.length ≤ 100000 ∧ ∃ Iv : Nat → List D → Prop, Iv 0 [] ∧
  (∀ i acc d, items[i]? = some d → Iv i acc → dg d (wipeD δ vs) (fun δ2 => dt δ2 (fun b => if b = true then de δ2 (fun y => Iv (i + 1) (acc ++ [y])) (fun _ => False) else Iv (i + 1) acc) (fun _ => False))) ∧
  ∀ acc, Iv items.length acc → k (.lst acc)) kx
section
variable {K : PySem.W.Frag} {B : Option Addr} {M : List Addr} {H H1 H2 : Hp} {L : Addr}
theorem hid_upd_in {xs : List V} : hid (L :: M) (upd H L (.lst xs)) = hid (L :: M) H := by
  funext a
  unfold hid
  by_cases c : a ∈ L :: M
  · rw [if_pos c, if_pos c]
  · rw [if_neg c, if_neg c]
    exact upd_ne (fun e => c (e ▸ List.mem_cons_self))
theorem Bag.upd_in {xs : List V} {b dr : Addr} {n : Int} {ns : List Int} (w : Bag K (L :: M) b H dr n ns) (nb : b ≠ L) : Bag K (L :: M) b (upd H L (.lst xs)) dr n ns :=
  ⟨w.mem, (upd_ne nb).trans w.at_, by rw [hid_upd_in]; exact w.dr_, w.len, w.rng⟩
theorem Ok.upd_in {xs : List V} (ok : Ok K B (L :: M) H) (nb : B ≠ some L) : Ok K B (L :: M) (upd H L (.lst xs)) := by
  refine ⟨fun a m => ?_, fun b e => ?_⟩
  · by_cases c : a = L
    · exact ⟨_, by rw [c]; exact upd_same⟩
    · obtain ⟨o, h⟩ := ok.all a m
      exact ⟨o, (upd_ne c).trans h⟩
  · obtain ⟨dr, n, ns, w⟩ := ok.bag b e
    exact ⟨dr, n, ns, w.upd_in (fun c => nb (by rw [← c]; exact e))⟩
theorem ex_start {xs : List V} (hL : H L = none) : Ex (hid M H) (hid (L :: M) (upd H L (.lst xs))) := fun a o e => by
  have h3 := hid_of e
  have ndL : a ≠ L := ne_of_none h3.2 hL
  exact hid_at (fun m => by
      rcases List.mem_cons.mp m with c | c
      · exact ndL c
      · exact h3.1 c) ((upd_ne ndL).trans h3.2)
theorem Bag.start {xs : List V} {b dr : Addr} {n : Int} {ns : List Int} (w : Bag K M b H dr n ns) (hL : H L = none) : Bag K (L :: M) b (upd H L (.lst xs)) dr n ns :=
  ⟨List.mem_cons_of_mem _ w.mem, (upd_ne (ne_of_none w.at_ hL)).trans w.at_, ex_start hL _ _ w.dr_, w.len, w.rng⟩
theorem Ok.start {xs : List V} (ok : Ok K B M H) (hL : H L = none) : Ok K B (L :: M) (upd H L (.lst xs)) ∧ B ≠ some L := by
  have nL := ok.fresh hL
  have nb : B ≠ some L := fun e => by
    obtain ⟨dr, n, ns, w⟩ := ok.bag L e
    exact nL w.mem
  refine ⟨⟨fun a m => ?_, fun b e => ?_⟩, nb⟩
  · rcases List.mem_cons.mp m with c | c
    · exact ⟨_, by rw [c]; exact upd_same⟩
    · obtain ⟨o, h⟩ := ok.all a c
      exact ⟨o, (upd_ne (fun (q : a = L) => nL (by rw [← q]; exact c))).trans h⟩
  · obtain ⟨dr, n, ns, w⟩ := ok.bag b e
    exact ⟨dr, n, ns, w.start hL⟩
theorem Bag.unpriv {b dr : Addr} {n : Int} {ns : List Int} (w : Bag K (L :: M) b H dr n ns) (hb : b ∈ M) : Bag K M b H dr n ns :=
  ⟨hb, w.at_, hid_sub H (fun a m => List.mem_cons_of_mem _ m) _ _ w.dr_, w.len, w.rng⟩
end
theorem se_lc {K : PySem.W.Frag} {E : XK} {wi : TI} {g : TG} {tt : TT} {te : TE} {di : DI} {dg : DG} {dt : DT} {de : DE} {vs : List Nat} (hi : SI K E wi di) (sg : SGk K g dg vs) (st : ST K E0 tt dt) (se : SE K E0 te de) : SE K E (tLc wi g tt te vs) (dLc di dg dt de vs) := by
  intro B M σ δ H k kx Q rp h hq hx
  refine hi B M σ δ H _ kx _ rp h (fun J items H1 t1 wk hk => ?_) hx
  obtain ⟨hn, Iv, i0, hst, hd⟩ := hk
  intro L hL
  have ok1 := t1.ok rp.ok
  obtain ⟨okS, nb⟩ := Ok.start (xs := []) ok1 hL
  have nL := ok1.fresh hL
  refine ⟨fun i m H' => i + m = items.length ∧ Ok K B (L :: M) H' ∧ Ex (hid M H1) (hid (L :: M) H') ∧ (∀ a ∈ M, B ≠ some a → H' a = H1 a) ∧ (∀ b dr n ns, B = some b → Bag K M b H1 dr n ns → ∃ n', Bag K (L :: M) b H' dr n' ns) ∧ ∃ acc xs, H' L = some (.lst xs) ∧ RDs K B (hid (L :: M) H') acc xs ∧ acc.length ≤ i ∧ Iv i acc,
    ⟨items.length, by omega, okS, ex_start hL, fun a m _ => upd_ne (fun q => nL (q ▸ m)), fun b dr n ns _ w => ⟨n, w.start hL⟩, [], [], upd_same, rfl, Nat.le_refl _, i0⟩, fun i m H' hW => ?_⟩
  obtain ⟨em, ok', ex', pr', bg', acc, xs, hL', ra, la, hI⟩ := hW
  obtain ⟨go, stop⟩ := wk (L :: M) H' ex' ok'
  by_cases c : i = items.length
  · subst c
    refine .inl ⟨stop, ?_⟩
    have ex2 : Ex (hid M H1) (hid M H') := fun a o e => hid_sub H' (fun b mb => List.mem_cons_of_mem _ mb) _ _ (ex' a o e)
    have tf : Stp K B M H1 H' := ⟨ex2, pr', fun b dr n ns e w => by
      obtain ⟨n', w'⟩ := bg' b dr n ns e w
      exact ⟨n', w'.unpriv w.mem⟩⟩
    exact hq _ (.lst acc) H' (t1.trans tf) ⟨L, xs, rfl, hid_at nL hL', RDs.ex (hid_sub H' (fun b mb => List.mem_cons_of_mem _ mb)) _ _ ra⟩ (hd acc hI)
  · have hi : i < items.length := by omega
    obtain ⟨hg, hy⟩ := go i _ (List.getElem?_eq_getElem hi)
    refine .inr ⟨hg, fun H2 => Ok K B (L :: M) H2 ∧ Ex (hid M H1) (hid (L :: M) H2) ∧ (∀ a ∈ M, B ≠ some a → H2 a = H1 a) ∧ (∀ b dr n ns, B = some b → Bag K M b H1 dr n ns → ∃ n', Bag K (L :: M) b H2 dr n' ns) ∧ ∃ acc xs, H2 L = some (.lst xs) ∧ RDs K B (hid (L :: M) H2) acc xs ∧ acc.length ≤ i + 1 ∧ Iv (i + 1) acc, fun H2 hN => ⟨m - 1, by omega, by omega, hN⟩, fun x H2 hyl => ?_⟩
    obtain ⟨ex2, rx⟩ := hy x H2 hyl
    have t2 : Stp K B (L :: M) H' H2 := .same ex2 ok'
    have ok2 := t2.ok ok'
    have rpw := rp.wipe vs
    have exw : Ex (hid M H) (hid (L :: M) H2) := fun a o e => t2.ex _ _ (ex' _ _ (t1.ex a o e))
    have rp2 : Rep K B (L :: M) H2 (L2.wipe σ vs) (wipeD δ vs) := ⟨ok2, rpw.len, fun j d hj => by
      obtain ⟨v, h1, h2⟩ := rpw.at_ j d hj
      exact ⟨v, h1, RD.ex exw _ _ h2⟩⟩
    refine sg B (L :: M) σ (wipeD δ vs) H2 x _ _ _ rp2 rx (hst i acc _ (List.getElem?_eq_getElem hi) hI) (fun σ3 δ3 rp3 hw h3 => ⟨hw, ?_⟩)
    refine st B (L :: M) σ3 δ3 H2 _ _ _ rp3 h3 (fun b H3 t3 q3 => ?_) (fun C H3 t3 q3 => q3.elim)
    have t23 := t2.trans t3
    cases b with
    | false =>
      refine iteF ⟨t23.ok ok', fun a o e => t23.ex _ _ (ex' a o e), fun a m n => (t23.pr a (List.mem_cons_of_mem _ m) n).trans (pr' a m n), fun b dr n ns e w => by
        obtain ⟨n', w'⟩ := bg' b dr n ns e w
        exact t23.bg b dr n' ns e w', acc, xs, (t23.pr L List.mem_cons_self nb).trans hL', RDs.ex t23.ex _ _ ra, by omega, by simpa using q3⟩
    | true =>
      refine iteT (se B (L :: M) σ3 δ3 H3 (fun y => Iv (i + 1) (acc ++ [y])) (fun _ => False) _ (rp3.stp t3) (by simpa using q3) (fun y d H4 t4 r4 q4 => ?_) (fun C H4 t4 q4 => q4.elim))
      have t24 := t23.trans t4
      have hl4 : H4 L = some (.lst xs) := (t24.pr L List.mem_cons_self nb).trans hL'
      refine ⟨xs, hl4, Nat.lt_of_le_of_lt (m := items.length) ?_ (Nat.lt_of_le_of_lt hn (by rw [sizeLine_eq]; decide)), Ok.upd_in (t24.ok ok') nb, ?_, fun a m n => ?_, fun b dr n ns e w => ?_, acc ++ [d], xs ++ [y], upd_same, ?_, by rw [List.length_append]; exact Nat.add_le_add la (Nat.le_refl _), q4⟩
      · rw [RDs.len ra]; omega
      · rw [hid_upd_in]
        exact fun a o e => t24.ex _ _ (ex' a o e)
      · rw [upd_ne (fun (q : a = L) => nL (by rw [← q]; exact m))]
        exact (t24.pr a (List.mem_cons_of_mem _ m) n).trans (pr' a m n)
      · obtain ⟨n', w'⟩ := bg' b dr n ns e w
        obtain ⟨n2, w2⟩ := t24.bg b dr n' ns e w'
        exact ⟨n2, w2.upd_in (fun c => nb (by rw [← c]; exact e))⟩
      · rw [hid_upd_in]
        exact RDs.app (RDs.ex t24.ex _ _ ra) ⟨y, [], rfl, r4, rfl⟩
def dYes : DT := fun _ k _ => k true
theorem st_yes {K : PySem.W.Frag} {E : XK} : ST K E tYes dYes := fun B M σ δ H k kx Q rp h hq hx => hq true H .refl h
section
variable {X : Cx} {E : XK}
theorem d_lc {elt tg iter : Expr} {ifs : List Expr} {scope : Scope} {own : List (Str × Nat)} {pos : Pos} {g : TG} {tt : TT} {te : TE} {di : DI} {dg : DG} {dt : DT} {de : DE} (hc : X.calm = true) (hN : X.N.Nodup) (hi : PDI X E tg iter di) (ok : BlkOk X.N X.env.scope scope own)
    (hg : ∀ (s : Shared) (H : Hp) (C : Addr) (cl : List (Str × Addr)) (fp : List Addr), PG (X.blk s H scope (compEnvC scope cl C X.env) fp) tg g) (ht : ∀ (s : Shared) (H : Hp) (C : Addr) (cl : List (Str × Addr)) (fp : List Addr), PTs (X.blk s H scope (compEnvC scope cl C X.env) fp) ifs tt)
    (he : ∀ (s : Shared) (H : Hp) (C : Addr) (cl : List (Str × Addr)) (fp : List Addr), PE (X.blk s H scope (compEnvC scope cl C X.env) fp) elt te) (sg : SGk X.K g dg (own.map (·.2))) (st : ST X.K E0 tt dt) (se : SE X.K E0 te de) (hs : ∀ x, foldedSetIterable iter X.env x = pure x := by intro _; rfl) :
    PD X E (.ListComp elt [⟨tg, iter, ifs, 0⟩] scope pos) (dLc di dg dt de (own.map (·.2))) := by
  obtain ⟨wi, p1, q1⟩ := hi
  exact ⟨_, pe_lc hc hN p1 ok hg ht he hs, se_lc q1 sg st se⟩
theorem s_setLc {i : Nat} {y : Str} {py spos : Pos} {elt tg iter : Expr} {ifs : List Expr} {scope : Scope} {own : List (Str × Nat)} {pos : Pos} {g : TG} {tt : TT} {te : TE} {di : DI} {dg : DG} {dt : DT} {de : DE} (hc : X.calm = true) (hN : X.N.Nodup) (hy : X.N[i]? = some y) (hyl : X.env.scope.names.lookup y = some .local)
    (hsw : swapsWith (.ListComp elt [⟨tg, iter, ifs, 0⟩] scope pos) (some (.Name y py)) spos.line X.env = pure true) (hi : PDI X E tg iter di) (ok : BlkOk X.N X.env.scope scope own)
    (hg : ∀ (s : Shared) (H : Hp) (C : Addr) (cl : List (Str × Addr)) (fp : List Addr), PG (X.blk s H scope (compEnvC scope cl C X.env) fp) tg g) (ht : ∀ (s : Shared) (H : Hp) (C : Addr) (cl : List (Str × Addr)) (fp : List Addr), PTs (X.blk s H scope (compEnvC scope cl C X.env) fp) ifs tt)
    (he : ∀ (s : Shared) (H : Hp) (C : Addr) (cl : List (Str × Addr)) (fp : List Addr), PE (X.blk s H scope (compEnvC scope cl C X.env) fp) elt te) (sg : SGk X.K g dg (own.map (·.2))) (st : ST X.K E0 tt dt) (se : SE X.K E0 te de) (hs : ∀ x, foldedSetIterable iter X.env x = pure x := by intro _; rfl) :
    PDS X E (.Assign [.Name y py] (.ListComp elt [⟨tg, iter, ifs, 0⟩] scope pos) spos) (dSet i (dLc di dg dt de (own.map (·.2)))) := by
  obtain ⟨wi, p1, q1⟩ := hi
  refine ⟨_, ps_setLc hc hN hy hyl hsw p1 ok hg ht he hs, fun B M σ δ H D0 D1 rp h l => (se_lc q1 sg st se) B M σ δ H _ _ _ rp h (fun v d H2 t r q => ?_) l.ex⟩
  exact l.nx _ _ H2 t ((rp.stp t).set r) q
end
end DL
namespace DL
open PySem PySem.Spec PyProof.Rows L2
/-- the def x of the text, as it stands behind the top -/
def DefT (K : PySem.W.Frag) (mg : Str → Option Value) (x : Str) (st : Stmt) : Prop := ∃ f fd, Fun K x x st f fd ∧ mg x = some (.ref f)
/-- the def x keeps its promise -/
def Def (P : Program) (w : World) (K : PySem.W.Frag) (mg : Str → Option Value) (base : Heap) (k : Nat) (x : Str) (ps : List Str) (dsp : DSp) : Prop :=
  ∃ f fd, FnOk P w K mg base (L2.CX P w) k f fd ps (spD K dsp) ∧ mg x = some (.ref f) ∧ PySem.W.keepIn K (.ref f) = true ∧ Binds K fd ps []
/-- the built-in names -/
structure Bl (mg : Str → Option Value) : Prop where
  abs : mg "abs" = none
  all : mg "all" = none
  bool : mg "bool" = none
  enumerate : mg "enumerate" = none
  int : mg "int" = none
  isinstance : mg "isinstance" = none
  len : mg "len" = none
  list : mg "list" = none
  max : mg "max" = none
  min : mg "min" = none
  range : mg "range" = none
  repr : mg "repr" = none
  str : mg "str" = none
  tuple : mg "tuple" = none
  zip : mg "zip" = none
  verr : mg "ValueError" = none
section
variable {P : Program} {w : World} {K : PySem.W.Frag} {mg : Str → Option Value} {base : Heap}
theorem def_mk {x : Str} {st : Stmt} {N ps : List Str} {k : Nat} {dsp : DSp} (T : DefT K mg x st) (S : FnScope N ps (defScope st))
    (hb : ∀ (kV doc pm : Value) (an : Option Addr) (cdv ct : Value) (us : List Value), us.length = ps.length → bindArgs (PySem.W.fnOf x x (defArgs st) (defBody st) (defScope st) .none kV doc pm an cdv ct) ⟨us, []⟩ = pure (ps.zip us))
    (hlen : ∀ ds k kx, dsp ds k kx → ds.length = ps.length)
    (hbody : ∀ (f : Addr) (cdv : Value) (A : Around) (outer : List Env) (s : Shared) (H : Hp) (E : XK), Room k (A.deeper (envOfC x (defScope st) s.heap.objs.size f cdv)) →
      ∃ t, PDB (cxOf (L2.CX P w) P w K mg base N x (defScope st) f cdv A outer s H E) E (defBody st) t ∧ ∀ ds k kx, dsp ds k kx → t { nx := fun _ => k .non, rt := k, ex := kx } (dstart N ds)) :
    Def P w K mg base (k + 1) x ps dsp := by
  obtain ⟨f, fd, F, hm⟩ := T
  exact ⟨f, fd, fn_D F S hlen (hbody f), hm, F.kp, F.binds hb⟩
theorem Def.mono {x : Str} {ps : List Str} {j k : Nat} {dsp : DSp} (d : Def P w K mg base j x ps dsp) (h : j ≤ k) : Def P w K mg base k x ps dsp := by
  obtain ⟨f, fd, F, a, b, c⟩ := d
  exact ⟨f, fd, F.mono h, a, b, c⟩
theorem Def.imp {x : Str} {ps : List Str} {k : Nat} {dsp dsp' : DSp} (d : Def P w K mg base k x ps dsp) (h : ∀ ds k kx, dsp' ds k kx → dsp ds k kx) : Def P w K mg base k x ps dsp' := by
  obtain ⟨f, fd, F, a, b, c⟩ := d
  refine ⟨f, fd, F.imp (fun vs H Q E hs => ?_), a, b, c⟩
  obtain ⟨B, M, ds, k, kx, h1, h2, h3, h4, h5⟩ := hs
  exact ⟨B, M, ds, k, kx, h1, h2, h _ _ _ h3, h4, h5⟩
end
section
variable {X : Cx} {E : XK} {e : Expr} {es : List Expr} {das : DA} {pos : Pos}
/-- f(e, ..) -/
theorem d_fn {k j : Nat} {ps : List Str} {dsp : DSp} {x : Str} {p : Pos} (hx : Passes (CXL X) X E) (hr : Room j X.A) (D : Def X.prog X.w X.K X.mg X.base k x ps dsp) (ha : PDL X E (e :: es) das) (hkj : k ≤ j := by decide)
    (hg : Gl X x := by rfl) (hdb : (x == ("__debug__" : Str)) = false := by decide) (he : starEach (e :: es) X.env = (false, eval e X.env) :: starEach es X.env := by rfl) (hpl : (backTo pos (starEach es X.env)).any (·.1) = false := by rfl) :
    PD X E (.Call (.Name x p) (e :: es) [] pos) (dCall dsp das) := by
  obtain ⟨f, fd, F, hm, hk, hb⟩ := D
  exact d_call hx (hr.mono hkj) F hm hk hb ha hg hdb he hpl
/-- .. in a comprehension: the raw form, one for all its blocks -/
theorem pe_fn {ι : Type} {XF : ι → Cx} {P : Program} {w : World} {K : PySem.W.Frag} {mg : Str → Option Value} {base : Heap} {k j : Nat} {ps : List Str} {dsp : DSp} {x : Str} {p : Pos} {t : TA} (D : Def P w K mg base k x ps dsp)
    (hX : ∀ i, (XF i).prog = P ∧ (XF i).w = w ∧ (XF i).K = K ∧ (XF i).mg = mg ∧ (XF i).base = base) (hr : ∀ i, Room j (XF i).A) (ha : ∀ i, PA (XF i) (e :: es) t) (hkj : k ≤ j) (hg : ∀ i, Gl (XF i) x) (hdb : (x == ("__debug__" : Str)) = false)
    (he : ∀ i, starEach (e :: es) (XF i).env = (false, eval e (XF i).env) :: starEach es (XF i).env) (hpl : ∀ i, (backTo pos (starEach es (XF i).env)).any (·.1) = false) :
    ∀ i, PE (XF i) (.Call (.Name x p) (e :: es) [] pos) (tCall (spD K dsp) [] E0 t) := by
  intro i
  obtain ⟨f, fd, F, hm, hk, hb⟩ := D
  obtain ⟨h1, h2, h3, h4, h5⟩ := hX i
  subst h1; subst h2; subst h3; subst h4; subst h5
  exact pe_call (F.mono hkj) (hr i) (hg i) hm hk hb .nil passL (ha i) hdb (he i) (hpl i)
end
/-! ### data of the laws -/
/-- a fraction -/
def fr (x : Rat) : D := .tup [.int x.num, .int x.den]
/-- a pour, a row -/
def wd (b : Bool) : D := if b then .str "left" else .str "right"
def rw_ (r : List Bool) : D := .tup (r.map wd)
theorem fr_inj {x y : Rat} (h : fr x = fr y) : x = y := by
  unfold fr at h
  injection h with h
  injection h with h1 h2
  injection h1 with h1
  injection h2 with h2
  injection h2 with h2
  exact Rat.ext h1 (by omega)
end DL
namespace DL
open PySem PySem.Spec PyProof.Rows L2
abbrev rLt : DR := dI0 fun i j => .bl (decide (i < j))
abbrev rLe : DR := dI0 fun i j => .bl (decide (i ≤ j))
abbrev rGt : DR := dI0 fun i j => .bl (decide (j < i))
abbrev rGe : DR := dI0 fun i j => .bl (decide (j ≤ i))
theorem sr_lt {K : PySem.W.Frag} : SR K (rI0 fun i j => .bl (decide (i < j))) rLt := sr_I0 fun _ _ _ _ => rfl
theorem sr_le {K : PySem.W.Frag} : SR K (rI0 fun i j => .bl (decide (i ≤ j))) rLe := sr_I0 fun _ _ _ _ => rfl
theorem sr_gt {K : PySem.W.Frag} : SR K (rI0 fun i j => .bl (decide (j < i))) rGt := sr_I0 fun _ _ _ _ => rfl
theorem sr_ge {K : PySem.W.Frag} : SR K (rI0 fun i j => .bl (decide (j ≤ i))) rGe := sr_I0 fun _ _ _ _ => rfl
theorem sr_add {K : PySem.W.Frag} : SR K (rI0 fun i j => .int (i + j)) (dI0 fun i j => .int (i + j)) := sr_I0 fun _ _ _ _ => rfl
theorem sr_sub {K : PySem.W.Frag} : SR K (rI0 fun i j => .int (i - j)) (dI0 fun i j => .int (i - j)) := sr_I0 fun _ _ _ _ => rfl
/-- the addresses of the refusals' classes -/
structure Er where
  PourError : Addr
  NoParts : Addr
  NoShare : Addr
  NoRow : Addr
  NoMany : Addr
  NoLefts : Addr
  NoPlace : Addr
  NoNumber : Addr
  NoDistance : Addr
  NoPour : Addr
  Full : Addr
  NothingLeft : Addr
  Kept : Addr
section
variable {K : PySem.W.Frag} {E : XK} {ta tb tc td te : TE} {da db dc dd de : DE} {n : Nat} {ts : TA} {das : DA} {t u : TT} {dt du : DT}
theorem se_non : SE K E (tC .non) (dC .non) := se_c fun _ _ => rfl
theorem se_bl {b : Bool} : SE K E (tC (.bl b)) (dC (.bl b)) := se_c fun _ _ => rfl
theorem se_int {i : Int} : SE K E (tC (.int i)) (dC (.int i)) := se_c fun _ _ => rfl
theorem se_str {x : Str} : SE K E (tC (.str x)) (dC (.str x)) := se_c fun _ _ => rfl
theorem sa_nil : SAn K E 0 tNil dNil := fun B M σ δ H k kx Q rp h hq hx => hq [] [] H rfl .refl rfl h
theorem sa_cons (s1 : SE K E te de) (s2 : SAn K E n ts das) : SAn K E (n + 1) (tCons te ts) (dCons de das) := by
  refine fun B M σ δ H k kx Q rp h hq hx => s1 B M σ δ H _ kx _ rp h (fun v x H1 t1 r1 q1 => ?_) hx
  refine s2 B M σ δ H1 _ kx _ (rp.stp t1) q1 (fun vs ds H2 hl t2 r2 q2 => ?_) (fun C H2 t2 q2 => hx C H2 (t1.trans t2) q2)
  exact hq (v :: vs) (x :: ds) H2 (by rw [List.length_cons, hl]) (t1.trans t2) ⟨v, vs, rfl, RD.ex t2.ex _ _ r1, r2⟩ q2
theorem se_tup (s : SAn K E n ts das) (hl : n ≤ 1000) : SE K E (tTupN ts) (dTup das) := by
  refine fun B M σ δ H k kx Q rp h hq hx => s B M σ δ H _ kx _ rp h (fun vs ds H1 hn t1 r1 q1 => ⟨line1000 (by rw [RDs.len r1, hn]; exact hl), fun p ob hp hob => ?_⟩) hx
  have ok1 := t1.ok rp.ok
  have t2 : Stp K B M H1 (upd H1 p (.frz ob (.tup vs))) := .new ok1 hp
  exact hq _ (.tup ds) _ (t1.trans t2) ⟨p, vs, rfl, new_tup ok1 hp hob, RDs.ex t2.ex _ _ r1⟩ q1
theorem se_lst (s : SAn K E n ts das) (hl : n ≤ 1000) : SE K E (tLst ts) (dLst das) := by
  refine fun B M σ δ H k kx Q rp h hq hx => s B M σ δ H _ kx _ rp h (fun vs ds H1 hn t1 r1 q1 => ⟨line1000 (by rw [RDs.len r1, hn]; exact hl), fun p hp => ?_⟩) hx
  have ok1 := t1.ok rp.ok
  have t2 : Stp K B M H1 (upd H1 p (.lst vs)) := .new ok1 hp
  exact hq _ (.lst ds) _ (t1.trans t2) ⟨p, vs, rfl, new_at ok1 hp, RDs.ex t2.ex _ _ r1⟩ q1
theorem se_and (s1 : SE K E ta da) (s2 : SE K E tb db) : SE K E (tAndV ta tb) (dAndV da db) :=
  fun B M σ δ H k kx Q rp h hq hx => s1 B M σ δ H _ kx _ rp h (fun v x H1 t1 r1 q1 => by
      cases x <;> try exact q1.elim
      rename_i c
      refine ⟨c, r1, ?_⟩
      cases c with
      | true =>
        refine iteT (s2 B M σ δ H1 k kx Q (rp.stp t1) ?_ (fun u d H2 t2 r2 q2 => hq u d H2 (t1.trans t2) r2 q2) (fun C H2 t2 q2 => hx C H2 (t1.trans t2) q2))
        simpa using q1
      | false => exact iteF (hq _ (.bl false) H1 t1 rfl (by simpa using q1))) hx
theorem st_test (s1 : SE K E te de) : ST K E (tTest te) (dB de) := fun B M σ δ H k kx Q rp h hq hx => s1 B M σ δ H _ kx _ rp h (fun v x H1 t1 r1 h1 => by
  cases x <;> try exact h1.elim
  exact ⟨_, r1, hq _ H1 t1 h1⟩) hx
theorem st_B (s1 : SE K E te de) : ST K E (tB te) (dB de) := fun B M σ δ H k kx Q rp h hq hx => s1 B M σ δ H _ kx _ rp h (fun v x H1 t1 r1 h1 => by
  cases x <;> try exact h1.elim
  exact ⟨_, r1, hq _ H1 t1 h1⟩) hx
theorem st_not (s : ST K E t dt) : ST K E (tNot t) (dNot dt) := fun B M σ δ H k kx Q rp h hq hx => s B M σ δ H _ kx _ rp h (fun c H1 t1 q1 => hq _ H1 t1 q1) hx
theorem st_isN (s1 : SE K E ta da) : ST K E (L2.tB (tIsN ta)) (dB (dIsN da)) := fun B M σ δ H k kx Q rp h hq hx => s1 B M σ δ H _ kx _ rp h (fun v x H1 t1 r1 q1 => ⟨_, rfl, hq _ H1 t1 (by rw [RD.isN r1]; exact q1)⟩) hx
theorem st_notN (s1 : SE K E ta da) : ST K E (L2.tB (tNotN ta)) (dB (dNotN da)) := fun B M σ δ H k kx Q rp h hq hx => s1 B M σ δ H _ kx _ rp h (fun v x H1 t1 r1 q1 => ⟨_, rfl, hq _ H1 t1 (by rw [RD.isN r1]; exact q1)⟩) hx
theorem so_none : SO K E tNoPart dNo := fun B M σ δ H k kx Q rp h hq hx => hq none H .refl h
theorem so_some (s1 : SE K E te de) : SO K E (tPart te) (dSome de) := fun B M σ δ H k kx Q rp h hq hx => s1 B M σ δ H _ kx _ rp h (fun v x H1 t1 r1 q1 => by
      cases x <;> try exact q1.elim
      rename_i i
      exact ⟨i, r1, hq _ H1 t1 q1⟩) hx
theorem se_sl {tl th : TO} {dl dh : DO} (s0 : SE K E te de) (s1 : SO K E tl dl) (s2 : SO K E th dh) : SE K E (tSl (fun x lo hi H Q => rSlN K x lo hi H Q ∨ rSlL K x lo hi H Q) te tl th) (dSl de dl dh) :=
  fun B M σ δ H k kx Q rp h hq hx => s0 B M σ δ H _ kx _ rp h (fun v x H1 t1 r1 q1 =>
      s1 B M σ δ H1 _ kx _ (rp.stp t1) q1 (fun l H2 t2 q2 => s2 B M σ δ H2 _ kx _ ((rp.stp t1).stp t2) q2 (fun u H3 t3 q3 => by
        have t := (t1.trans t2).trans t3
        have ok := t.ok rp.ok
        have r3 := RD.ex t3.ex _ _ (RD.ex t2.ex _ _ r1)
        cases x with
        | tup ds =>
          obtain ⟨a, xs, rfl, e2, e3⟩ := r3
          refine .inl ⟨a, xs, rfl, SqD.un e2, fun c => ?_, fun c p ob hp hob => ?_⟩
          · refine hq _ (.tup (cutD ds l u)) H3 t ⟨a, xs, rfl, e2, ?_⟩ q3
            have hc : cutD ds l u = ds := by
              unfold cutD
              rw [← RDs.len e3, c.1, c.2, RDs.len e3]
              simp
            rw [hc]; exact e3
          · have t4 : Stp K B M H3 (upd H3 p (.frz ob (.tup (cutV xs l u)))) := .new ok hp
            exact hq _ (.tup (cutD ds l u)) _ (t.trans t4) ⟨p, _, rfl, new_tup ok hp hob, RDs.ex t4.ex _ _ (cut_rd e3 l u)⟩ q3
        | lst ds =>
          obtain ⟨a, xs, rfl, e2, e3⟩ := r3
          refine .inr ⟨a, xs, rfl, SqL.of (hid_of e2).2, fun p hp => ?_⟩
          have t4 : Stp K B M H3 (upd H3 p (.lst (cutV xs l u))) := .new ok hp
          exact hq _ (.lst (cutD ds l u)) _ (t.trans t4) ⟨p, _, rfl, new_at ok hp, RDs.ex t4.ex _ _ (cut_rd e3 l u)⟩ q3
        | _ => exact q3.elim) (fun C H3 t3 q3 => hx C H3 ((t1.trans t2).trans t3) q3)) (fun C H2 t2 q2 => hx C H2 (t1.trans t2) q2)) hx
theorem se_isi {T : String} (s1 : SE K E ta da) : SE K E (tCB (rIsi K) (tCons ta (tCons (tC (.ty T)) tNil))) (dIsi T da) := fun B M σ δ H k kx Q rp h hq hx => s1 B M σ δ H _ kx _ rp h (fun v d H1 t1 r1 q1 => by
  unfold D.isi isiK at q1
  cases q : d.ty with
  | none => rw [q] at q1; exact q1.elim
  | some t =>
    rw [q] at q1
    cases q' : kitB t T with
    | none => rw [show (some t).bind (fun t => kitB t T) = kitB t T from rfl, q'] at q1; exact q1.elim
    | some b =>
      rw [show (some t).bind (fun t => kitB t T) = kitB t T from rfl, q'] at q1
      exact ⟨v, .ty T, .type t, .type T, b, rfl, .ty T, RD.tyx r1 q, kit_ty q', hq _ (.bl b) H1 t1 rfl q1⟩) hx
/-! ### a < b < c <= d -/
def tChain3 (r r' r'' : R2) (ta tb tc td : TE) : TE := fun σ H Q => ta σ H fun x H1 => tb σ H1 fun y H2 => r x y H2 fun z H3 => ∃ k, z = .bl k ∧
  (if k = true then tc σ H3 fun w' H4 => r' y w' H4 fun z2 H5 => ∃ k2, z2 = .bl k2 ∧ (if k2 = true then td σ H5 fun w2 H6 => r'' w' w2 H6 Q else Q (.bl false) H5) else Q (.bl false) H3)
def dChain3 (r r' r'' : DR) (da db dc dd : DE) : DE := fun δ k kx => da δ (fun x => db δ (fun y => r x y (fun z => match z with
  | .bl t => if t = true then dc δ (fun w => r' y w (fun z2 => match z2 with
    | .bl t2 => if t2 = true then dd δ (fun w2 => r'' w w2 k) kx else k (.bl false)
    | _ => False)) kx else k (.bl false)
  | _ => False)) kx) kx
theorem se_chain3 {r r' r'' : R2} {dr dr' dr'' : DR} (hr : SR K r dr) (hr' : SR K r' dr') (hr'' : SR K r'' dr'') (s1 : SE K E ta da) (s2 : SE K E tb db) (s3 : SE K E tc dc) (s4 : SE K E td dd) : SE K E (tChain3 r r' r'' ta tb tc td) (dChain3 dr dr' dr'' da db dc dd) := by
  refine fun B M σ δ H k kx Q rp h hq hx => s1 B M σ δ H _ kx _ rp h (fun v x H1 t1 r1 q1 => ?_) hx
  refine s2 B M σ δ H1 _ kx _ (rp.stp t1) q1 (fun w y H2 t2 r2 q2 => ?_) (fun C H2 t2 q2 => hx C H2 (t1.trans t2) q2)
  have t12 := t1.trans t2
  refine hr B M H2 x y v w _ _ (t12.ok rp.ok) (RD.ex t2.ex _ _ r1) r2 q2 (fun u d H3 t3 r3 q3 => ?_)
  cases d <;> try exact q3.elim
  rename_i t
  refine ⟨t, r3, ?_⟩
  have t13 := t12.trans t3
  cases t with
  | false => exact iteF (hq _ (.bl false) H3 t13 rfl (by simpa using q3))
  | true =>
    refine iteT (s3 B M σ δ H3 _ kx _ (rp.stp t13) (by simpa using q3) (fun u' z H4 t4 r4 q4 => ?_) (fun C H4 t4 q4 => hx C H4 (t13.trans t4) q4))
    have t14 := t13.trans t4
    refine hr' B M H4 y z w u' _ _ (t14.ok rp.ok) (RD.ex t4.ex _ _ (RD.ex t3.ex _ _ r2)) r4 q4 (fun u2 d2 H5 t5 r5 q5 => ?_)
    have t15 := t14.trans t5
    cases d2 <;> try exact q5.elim
    rename_i tt
    refine ⟨tt, r5, ?_⟩
    cases tt with
    | false => exact iteF (hq _ (.bl false) H5 t15 rfl (by simpa using q5))
    | true =>
      refine iteT (s4 B M σ δ H5 _ kx _ (rp.stp t15) (by simpa using q5) (fun u6 z6 H6 t6 r6 q6 => ?_) (fun C H6 t6 q6 => hx C H6 (t15.trans t6) q6))
      exact hr'' B M H6 z z6 u' u6 k Q ((t15.trans t6).ok rp.ok) (RD.ex t6.ex _ _ (RD.ex t5.ex _ _ r4)) r6 q6 (fun u7 d7 H7 t7 r7 q7 => hq u7 d7 H7 ((t15.trans t6).trans t7) r7 q7)
end
section
variable {X : Cx} {E : XK} {a b c d e : Expr} {es : List Expr} {ta tb tc td : TE} {da db dc dd de : DE} {das : DA} {dt du : DT} {pos : Pos}
theorem pe_chain3 {op op' op'' : CmpOp} {r r' r'' : R2} (ho : OpR X (compareOp op) r) (ho' : OpR X (compareOp op') r') (ho'' : OpR X (compareOp op'') r'') (ha : PE X a ta) (hb : PE X b tb) (hc : PE X c tc) (hd : PE X d td)
    (hm : lastMarks [op, op', op''] [b, c, d] = false := by with_unfolding_all rfl) : PE X (.Compare a [op, op', op''] [b, c, d] pos) (tChain3 r r' r'' ta tb tc td) := by
  refine ⟨fun pins s σ H Q I h => ?_⟩
  refine Compare_chain (thn (ha.run pins s σ H _ I h) fun v s1 ⟨x, H1, I1, r1, q1⟩ => chain_link (thn (hb.run pins s1 σ H1 _ I1 q1) fun u s2 ⟨y, H2, I2, r2, q2⟩ =>
    thn (ho pins s2 σ H2 x y v u _ I2 r1 r2 q2) fun d s3 ⟨z, H3, I3, r3, k, e, q3⟩ => ?_)) hm
  subst e
  cases r3
  refine wpAny_truthy_bool ?_
  cases k with
  | false => exact ite_ff ⟨.bl false, H3, I3, rfl, by simpa using q3⟩
  | true =>
    rw [if_pos rfl] at q3
    refine ite_tt (chain_link (thn (hc.run pins s3 σ H3 _ I3 q3) fun w' s4 ⟨z', H4, I4, r4, q4⟩ => thn (ho' pins s4 σ H4 y z' u w' _ I4 r2 r4 q4) fun d' s5 ⟨z5, H5, I5, r5, k5, e5, q5⟩ => ?_))
    subst e5
    cases r5
    refine wpAny_truthy_bool ?_
    cases k5 with
    | false => exact ite_ff ⟨.bl false, H5, I5, rfl, by simpa using q5⟩
    | true =>
      rw [if_pos rfl] at q5
      exact ite_tt (chain_last (thn (hd.run pins s5 σ H5 _ I5 q5) fun w6 s6 ⟨z6, H6, I6, r6, q6⟩ => ho'' pins s6 σ H6 z' z6 w' w6 Q I6 r4 r6 q6))
theorem t_chain {op op' : CmpOp} {r r' : R2} {dr dr' : DR} (ho : OpR X (compareOp op) r) (ho' : OpR X (compareOp op') r') (hr : SR X.K r dr) (hr' : SR X.K r' dr') (ha : PD X E a da) (hb : PD X E b db) (hc : PD X E c dc)
    (hm : lastMarks [op, op'] [b, c] = false := by with_unfolding_all rfl) : PDT X E (.Compare a [op, op'] [b, c] pos) (dB (dChain dr dr' da db dc)) := by
  obtain ⟨ta, p1, s1⟩ := ha
  obtain ⟨tb, p2, s2⟩ := hb
  obtain ⟨tc, p3, s3⟩ := hc
  refine ⟨_, pt_chain ho ho' p1 p2 p3 hm, st_test ?_⟩
  refine fun B M σ δ H k kx Q rp h hq hx => s1 B M σ δ H _ kx _ rp h (fun v x H1 t1 r1 q1 => ?_) hx
  refine s2 B M σ δ H1 _ kx _ (rp.stp t1) q1 (fun w y H2 t2 r2 q2 => ?_) (fun C H2 t2 q2 => hx C H2 (t1.trans t2) q2)
  have t12 := t1.trans t2
  refine hr B M H2 x y v w _ _ (t12.ok rp.ok) (RD.ex t2.ex _ _ r1) r2 q2 (fun u d H3 t3 r3 q3 => ?_)
  cases d <;> try exact q3.elim
  rename_i t
  refine ⟨t, r3, ?_⟩
  have t13 := t12.trans t3
  cases t with
  | false => exact iteF (hq _ (.bl false) H3 t13 rfl (by simpa using q3))
  | true =>
    refine iteT (s3 B M σ δ H3 _ kx _ (rp.stp t13) (by simpa using q3) (fun u' z H4 t4 r4 q4 => ?_) (fun C H4 t4 q4 => hx C H4 (t13.trans t4) q4))
    exact hr' B M H4 y z w u' k Q ((t13.trans t4).ok rp.ok) (RD.ex t4.ex _ _ (RD.ex t3.ex _ _ r2)) r4 q4 (fun u2 d2 H5 t5 r5 q5 => hq u2 d2 H5 ((t13.trans t4).trans t5) r5 q5)
theorem t_in (ha : PD X E a da) (hb : PD X E b db) (hm : behindInMarks .In b = false := by with_unfolding_all rfl) : PDT X E (.Compare a [.In] [b] pos) (dB (dOp (dIn false) da db)) := t_cmp op_in_seq sr_in hm ha hb
theorem t_notIn (ha : PD X E a da) (hb : PD X E b db) (hm : behindInMarks .NotIn b = false := by with_unfolding_all rfl) : PDT X E (.Compare a [.NotIn] [b] pos) (dB (dOp (dIn true) da db)) := t_cmp op_notIn_seq sr_in hm ha hb
theorem passF {Kx : Value → Shared → Prop} {E₁ : Value → Shared → Prop} (hx : X.xe = fun e s' => wpAny (model X.prog X.w) X.A (leaving X.env e) (fun _ s'' => Kx e s'') E₁ s' := by rfl) : PassesOwn (model X.prog X.w) X.A X.env X.xe := passes_of hx
/-- f() -/
theorem d_fn0 {k j : Nat} {dsp : DSp} {x : Str} {p : Pos} (hx : Passes (CXL X) X E) (hr : Room j X.A) (D : Def X.prog X.w X.K X.mg X.base k x [] dsp) (hkj : k ≤ j := by decide)
    (hg : Gl X x := by rfl) (hdb : (x == ("__debug__" : Str)) = false := by decide) : PD X E (.Call (.Name x p) [] [] pos) (dCall dsp dNil) := by
  obtain ⟨f, fd, F, hm, hk, hb⟩ := D
  exact ⟨_, pe_call0 (F.mono hkj) hr hg hm hk hb .nil hx hdb, se_call sa_nil⟩
/-- a written tuple of texts -/
theorem d_gtup {x : Str} {p : Addr} {ds : List D} {xs : List V} (hg : Gl X x) (h : X.mg x = some (.ref p) ∧ (∀ H, SqD X.K H p xs) ∧ ∀ B G, RDs X.K B G ds xs) (hd : (x == ("__debug__" : Str)) = false := by decide) : PD X E (.Name x pos) (dC (.tup ds)) :=
  ⟨_, pe_glob (v := .ref p) hg h.1 rfl hd, fun B M σ δ H k kx Q r hk hq _ => hq _ (.tup ds) H .refl ⟨p, xs, rfl, h.2.1 _, h.2.2 _ _⟩ hk⟩
end
end DL
/-! Lists that a def has made and still changes: mu tells their contents by address; what they hold is plain data. -/
namespace DL
open PySem PySem.Spec PyProof.Rows L2
abbrev Mu := List (Addr × List D)
abbrev Mu.ad (μ : Mu) : List Addr := μ.map (·.1)
structure ON where
  nx : Dst → Mu → Prop
  rt : D → Prop
  rn : List D → Prop
  ex : Addr → Prop
  bk : Dst → Mu → Prop := fun _ _ => False
  ct : Dst → Mu → Prop := fun _ _ => False
abbrev OS := ON → Dst → Mu → Prop
/-- the state: G stands, the private lists are as told -/
structure RepG (K : PySem.W.Frag) (B : Option Addr) (M : List Addr) (G H0 H : Hp) (σ : L2.St) (δ : Dst) (μ : Mu) : Prop where
  pr : ∀ a ∈ M, B ≠ some a → H a = H0 a
  bm : ∀ b, B = some b → b ∈ M
  bg : ∀ b dr n ns, B = some b → Bag K M b H0 dr n ns → ∃ n', Bag K (μ.ad ++ M) b H dr n' ns
  rep : Rep K B (μ.ad ++ M) H σ δ
  nb : ∀ p ∈ μ.ad, p ∉ M
  nd : μ.ad.Nodup
  own : ∀ e ∈ μ, ∃ vs, H e.1 = some (.lst vs) ∧ RDs K B (hid (μ.ad ++ M) H) e.2 vs
  ex : Ex G (hid (μ.ad ++ M) H)
structure Fin (K : PySem.W.Frag) (B : Option Addr) (M : List Addr) (G H0 H : Hp) : Prop where
  pr : ∀ a ∈ M, B ≠ some a → H a = H0 a
  bg : ∀ b dr n ns, B = some b → Bag K M b H0 dr n ns → ∃ n', Bag K M b H dr n' ns
  ex : Ex G (hid M H)
  ok : Ok K B M H
/-- a new list is handed back -/
structure FinN (K : PySem.W.Frag) (B : Option Addr) (M : List Addr) (G H0 H : Hp) (p : Addr) (ds : List D) : Prop where
  fin : Fin K B M G H0 H
  nb : p ∉ M
  ng : Ex G (hid (p :: M) H)
  at_ : ∃ vs, H p = some (.lst vs) ∧ RDs K B (hid (p :: M) H) ds vs
structure LkG (K : PySem.W.Frag) (E : XK) (B : Option Addr) (M : List Addr) (G H0 : Hp) (D0 : ON) (D1 : Ends) : Prop where
  nx : ∀ σ δ μ H, RepG K B M G H0 H σ δ μ → D0.nx δ μ → D1.nx σ H
  rt : ∀ v d H, Fin K B M G H0 H → RD K B (hid M H) d v → D0.rt d → D1.rt v H
  rn : ∀ p ds H, FinN K B M G H0 H p ds → D0.rn ds → D1.rt (.ref p) H
  ex : ∀ C H, Fin K B M G H0 H → D0.ex C → E (.ref C) none H
  bk : ∀ σ δ μ H, RepG K B M G H0 H σ δ μ → D0.bk δ μ → D1.bk σ H
  ct : ∀ σ δ μ H, RepG K B M G H0 H σ δ μ → D0.ct δ μ → D1.ct σ H
def SSo (K : PySem.W.Frag) (E : XK) (ts : TS) (os : OS) : Prop := ∀ B M G H0 σ δ μ H D0 D1, RepG K B M G H0 H σ δ μ → os D0 δ μ → LkG K E B M G H0 D0 D1 → ts D1 σ H
def PDSo (X : Cx) (E : XK) (s : Stmt) (os : OS) : Prop := ∃ te, PS X s te ∧ SSo X.K E te os
def PDBo (X : Cx) (E : XK) (s : List Stmt) (os : OS) : Prop := ∃ te, PSs X s te ∧ SSo X.K E te os
section
variable {K : PySem.W.Frag} {B : Option Addr} {M : List Addr} {G H0 H H2 : Hp} {σ : L2.St} {δ : Dst} {μ : Mu}
theorem hid_app {P : List Addr} : Ex (hid (P ++ M) H) (hid M H) := hid_sub H fun a m => List.mem_append_right _ m
theorem Ok.unpr {P : List Addr} (bm : ∀ b, B = some b → b ∈ M) (ok : Ok K B (P ++ M) H) : Ok K B M H := by
  refine ⟨fun a m => ok.all a (List.mem_append_right _ m), fun b e => ?_⟩
  obtain ⟨dr, n, ns, w⟩ := ok.bag b e
  exact ⟨dr, n, ns, bm b e, w.at_, hid_app _ _ w.dr_, w.len, w.rng⟩
theorem RepG.fin (r : RepG K B M G H0 H σ δ μ) : Fin K B M G H0 H := ⟨r.pr, fun b dr n ns e w => by
  obtain ⟨n', w'⟩ := r.bg b dr n ns e w
  exact ⟨n', w.mem, w'.at_, hid_app _ _ w'.dr_, w.len, w.rng⟩, fun a o e => hid_app _ _ (r.ex a o e), r.rep.ok.unpr r.bm⟩
theorem RepG.neb (r : RepG K B M G H0 H σ δ μ) {p : Addr} (hp : p ∈ μ.ad) : B ≠ some p := fun e => r.nb p hp (r.bm p e)
theorem RepG.stp (r : RepG K B M G H0 H σ δ μ) (t : Stp K B (μ.ad ++ M) H H2) : RepG K B M G H0 H2 σ δ μ := by
  refine ⟨fun a m n => (t.pr a (List.mem_append_right _ m) n).trans (r.pr a m n), r.bm, fun b dr n ns e w => (by
    obtain ⟨n', w'⟩ := r.bg b dr n ns e w
    exact t.bg b dr n' ns e w'), r.rep.stp t, r.nb, r.nd, fun e he => ?_, fun a o q => t.ex _ _ (r.ex a o q)⟩
  obtain ⟨vs, h1, h2⟩ := r.own e he
  have hp : e.1 ∈ μ.ad := List.mem_map_of_mem he
  exact ⟨vs, (t.pr e.1 (List.mem_append_left _ hp) (r.neb hp)).trans h1, RDs.ex t.ex _ _ h2⟩
theorem RepG.set (r : RepG K B M G H0 H σ δ μ) {i : Nat} {d : D} {v : V} (h : RD K B (hid (μ.ad ++ M) H) d v) : RepG K B M G H0 H (σ.set i (some v)) (δ.set i (some d)) μ :=
  ⟨r.pr, r.bm, r.bg, r.rep.set h, r.nb, r.nd, r.own, r.ex⟩
theorem RepG.fin2 (r : RepG K B M G H0 H σ δ μ) (t : Stp K B (μ.ad ++ M) H H2) : Fin K B M G H0 H2 := (r.stp t).fin
theorem LkG.weak {E : XK} {D0 : ON} {D1 : Ends} {G1 : Hp} (l : LkG K E B M G H0 D0 D1) (g : Ex G G1) : LkG K E B M G1 H0 D0 D1 := by
  have hr : ∀ {σ δ μ H}, RepG K B M G1 H0 H σ δ μ → RepG K B M G H0 H σ δ μ := fun r => ⟨r.pr, r.bm, r.bg, r.rep, r.nb, r.nd, r.own, fun a o q => r.ex _ _ (g a o q)⟩
  have hf : ∀ {H}, Fin K B M G1 H0 H → Fin K B M G H0 H := fun r => ⟨r.pr, r.bg, fun a o q => r.ex _ _ (g a o q), r.ok⟩
  exact ⟨fun σ δ μ H r => l.nx σ δ μ H (hr r), fun v d H f => l.rt v d H (hf f), fun p ds H f => l.rn p ds H ⟨hf f.fin, f.nb, fun a o q => f.ng _ _ (g a o q), f.at_⟩, fun C H f => l.ex C H (hf f),
    fun σ δ μ H r => l.bk σ δ μ H (hr r), fun σ δ μ H r => l.ct σ δ μ H (hr r)⟩
end
section
variable {X : Cx} {E : XK} {a b c e tg : Expr} {da db dc de : DE} {das : DA} {dt du : DT} {pos : Pos} {st : Stmt} {rest sb se : List Stmt} {s1 s2 s3 : DS} {o1 o2 o3 : OS}
def oNext : OS := fun N δ μ => N.nx δ μ
def oSeq (t u : OS) : OS := fun N δ μ => t { N with nx := u N } δ μ
theorem ob_nil : PDBo X E [] oNext := ⟨_, pss_nil, fun B M G H0 σ δ μ H D0 D1 rp h l => l.nx σ δ μ H rp h⟩
theorem ob_one : PDSo X E st o1 → PDBo X E [st] o1
  | ⟨_, p, s⟩ => ⟨_, pss_one p, s⟩
theorem ob_cons : PDSo X E st o1 → PDBo X E rest o2 → PDBo X E (st :: rest) (oSeq o1 o2)
  | ⟨_, p1, q1⟩, ⟨_, p2, q2⟩ => ⟨_, pss_cons p1 p2, fun B M G H0 σ δ μ H D0 D1 rp h l => q1 B M G H0 σ δ μ H _ _ rp h
      ⟨fun σ' δ' μ' H2 r h2 => q2 B M G H0 σ' δ' μ' H2 D0 D1 r h2 l, l.rt, l.rn, l.ex, l.bk, l.ct⟩⟩
/-- a statement that changes no private list -/
def oLift (s : DS) : OS := fun N δ μ => s { nx := fun δ' => N.nx δ' μ, rt := N.rt, ex := N.ex, bk := fun δ' => N.bk δ' μ, ct := fun δ' => N.ct δ' μ } δ
theorem RepG.back {K : PySem.W.Frag} {B : Option Addr} {M : List Addr} {G H0 H H2 : Hp} {σ σ2 : L2.St} {δ δ2 : Dst} {μ : Mu} (r : RepG K B M G H0 H σ δ μ) (t : Stp K B (μ.ad ++ M) H H2) (r2 : Rep K B (μ.ad ++ M) H2 σ2 δ2) : RepG K B M G H0 H2 σ2 δ2 μ := by
  have q := r.stp t
  exact ⟨q.pr, q.bm, q.bg, r2, q.nb, q.nd, q.own, q.ex⟩
theorem ss_lift {K : PySem.W.Frag} {ts : TS} (q : SS K E ts s1) : SSo K E ts (oLift s1) := fun B M G H0 σ δ μ H D0 D1 rp h l =>
  q B (μ.ad ++ M) σ δ H _ D1 rp.rep h ⟨fun σ2 δ2 H2 t r2 h2 => l.nx _ _ μ H2 (rp.back t r2) h2, fun v d H2 t r2 h2 => l.rt v d H2 (rp.fin2 t) (RD.ex hid_app _ _ r2) h2, fun C H2 t h2 => l.ex C H2 (rp.fin2 t) h2,
    fun σ2 δ2 H2 t r2 h2 => l.bk _ _ μ H2 (rp.back t r2) h2, fun σ2 δ2 H2 t r2 h2 => l.ct _ _ μ H2 (rp.back t r2) h2⟩
theorem os_lift : PDS X E st s1 → PDSo X E st (oLift s1)
  | ⟨_, p, q⟩ => ⟨_, p, ss_lift q⟩
theorem ob_lift : PDB X E rest s1 → PDBo X E rest (oLift s1)
  | ⟨_, p, q⟩ => ⟨_, p, ss_lift q⟩
/-- x = [], a list that will be changed -/
def oNew (i : Nat) : OS := fun N δ μ => ∀ p, p ∉ μ.ad → N.nx (δ.set i (some (.adr p))) ((p, []) :: μ)
theorem hid_new {M : List Addr} {H : Hp} {p : Addr} {o : HO} (hp : H p = none) : Ex (hid M H) (hid (p :: M) (upd H p o)) := fun a u e => by
  have h3 := hid_of e
  have nd : a ≠ p := ne_of_none h3.2 hp
  exact hid_at (fun m => by
      rcases List.mem_cons.mp m with c | c
      · exact nd c
      · exact h3.1 c) ((upd_ne nd).trans h3.2)
theorem RepG.new {K : PySem.W.Frag} {B : Option Addr} {M : List Addr} {G H0 H : Hp} {σ : L2.St} {δ : Dst} {μ : Mu} {i : Nat} (r : RepG K B M G H0 H σ δ μ) {p : Addr} (hp : H p = none) : p ∉ μ.ad ∧ RepG K B M G H0 (upd H p (.lst [])) (σ.set i (some (.ref p))) (δ.set i (some (.adr p))) ((p, []) :: μ) := by
  have np : p ∉ μ.ad ++ M := r.rep.ok.fresh hp
  have npM : p ∉ M := fun m => np (List.mem_append_right _ m)
  have npP : p ∉ μ.ad := fun m => np (List.mem_append_left _ m)
  have ex : Ex (hid (μ.ad ++ M) H) (hid (p :: (μ.ad ++ M)) (upd H p (.lst []))) := hid_new hp
  have ok := (Ok.start (xs := []) r.rep.ok hp).1
  refine ⟨npP, fun a m n => (upd_ne (fun (q : a = p) => npM (by rw [← q]; exact m))).trans (r.pr a m n), r.bm, fun b dr n ns e w => (by
    obtain ⟨n', w'⟩ := r.bg b dr n ns e w
    exact ⟨n', w'.start hp⟩), ?_, ?_, ?_, ?_, fun a o q => ex _ _ (r.ex a o q)⟩
  · have base : Rep K B (p :: (μ.ad ++ M)) (upd H p (.lst [])) σ δ := ⟨ok, r.rep.len, fun j d hj => by
      obtain ⟨v, h1, h2⟩ := r.rep.at_ j d hj
      exact ⟨v, h1, RD.ex ex _ _ h2⟩⟩
    exact base.set (d := .adr p) (v := .ref p) rfl
  · intro q hq
    rcases List.mem_cons.mp hq with c | c
    · rw [c]; exact npM
    · exact r.nb q c
  · exact List.nodup_cons.mpr ⟨npP, r.nd⟩
  · intro e he
    rcases List.mem_cons.mp he with c | c
    · rw [c]; exact ⟨[], upd_same, rfl⟩
    · obtain ⟨vs, h1, h2⟩ := r.own e c
      exact ⟨vs, (upd_ne (ne_of_none h1 hp)).trans h1, RDs.ex ex _ _ h2⟩
theorem os_new {i : Nat} {x : Str} {pos' p2 : Pos} (hN : X.N.Nodup) (hi : X.N[i]? = some x) (hx : Loc X.env.scope x) (hs : swapsWith (.List [] p2) (some (.Name x pos')) pos.line X.env = pure false := by rfl) (hf : X.fn x = true ∨ X.env.scope.names.lookup x = some .local := by first | exact .inl rfl | exact .inr rfl | assumption) :
    PDSo X E (.Assign [.Name x pos'] (.List [] p2) pos) (oNew i) := by
  refine ⟨_, ps_set hN hi hx (pe_lst pa_nil) hs hf, fun B M G H0 σ δ μ H D0 D1 rp h l => ⟨Nat.zero_le _, fun p hp => ?_⟩⟩
  obtain ⟨h1, h2⟩ := rp.new (i := i) hp
  exact l.nx _ _ _ _ h2 (h p h1)
/-- x.append(e) -/
def oApp (i : Nat) (de : DE) : OS := fun N δ μ => ∃ p μ1 ds μ2, δ[i]? = some (some (.adr p)) ∧ μ = μ1 ++ (p, ds) :: μ2 ∧ ds.length < 100000 ∧ de δ (fun d => N.nx δ (μ1 ++ (p, ds ++ [d]) :: μ2)) N.ex
theorem ad_app (μ1 μ2 : Mu) (p : Addr) (ds es : List D) : Mu.ad (μ1 ++ (p, ds) :: μ2) = Mu.ad (μ1 ++ (p, es) :: μ2) := by
  show (μ1 ++ (p, ds) :: μ2).map (·.1) = (μ1 ++ (p, es) :: μ2).map (·.1)
  simp
theorem hid_upd_mem {M : List Addr} {H : Hp} {p : Addr} {o : HO} (hp : p ∈ M) : hid M (upd H p o) = hid M H := by
  funext a
  unfold hid
  by_cases c : a ∈ M
  · rw [if_pos c, if_pos c]
  · rw [if_neg c, if_neg c]
    exact upd_ne (fun e => c (e ▸ hp))
theorem RepG.write {K : PySem.W.Frag} {B : Option Addr} {M : List Addr} {G H0 H : Hp} {σ : L2.St} {δ : Dst} {μ1 μ2 : Mu} {p : Addr} {ds es : List D} {ws : List V} (r : RepG K B M G H0 H σ δ (μ1 ++ (p, ds) :: μ2)) (hw : RDs K B (hid (Mu.ad (μ1 ++ (p, ds) :: μ2) ++ M) H) es ws) :
    RepG K B M G H0 (upd H p (.lst ws)) σ δ (μ1 ++ (p, es) :: μ2) := by
  have hp : p ∈ Mu.ad (μ1 ++ (p, ds) :: μ2) := List.mem_map_of_mem (f := (·.1)) (List.mem_append_right μ1 (List.mem_cons_self (a := (p, ds)) (l := μ2)))
  have eh : hid (Mu.ad (μ1 ++ (p, ds) :: μ2) ++ M) (upd H p (.lst ws)) = hid (Mu.ad (μ1 ++ (p, ds) :: μ2) ++ M) H := hid_upd_mem (List.mem_append_left _ hp)
  have ea := ad_app μ1 μ2 p ds es
  have npM := r.nb p hp
  refine ⟨fun a m n => (upd_ne (fun (q : a = p) => npM (by rw [← q]; exact m))).trans (r.pr a m n), r.bm, fun b dr n ns e w => (by
    obtain ⟨n', w'⟩ := r.bg b dr n ns e w
    rw [← ea]
    exact ⟨n', w'.mem, (upd_ne (fun (c : b = p) => npM (by rw [← c]; exact r.bm b e))).trans w'.at_, by rw [eh]; exact w'.dr_, w'.len, w'.rng⟩), ?_, by rw [← ea]; exact r.nb, by rw [← ea]; exact r.nd, ?_, by rw [← ea, eh]; exact r.ex⟩
  · rw [← ea]
    refine ⟨⟨fun a m => ?_, fun b e => ?_⟩, r.rep.len, fun j d hj => ?_⟩
    · by_cases c : a = p
      · exact ⟨_, by rw [c]; exact upd_same⟩
      · obtain ⟨o, h⟩ := r.rep.ok.all a m
        exact ⟨o, (upd_ne c).trans h⟩
    · obtain ⟨dr, n, ns, w⟩ := r.rep.ok.bag b e
      exact ⟨dr, n, ns, w.mem, (upd_ne (fun (c : b = p) => npM (by rw [← c]; exact r.bm b e))).trans w.at_, by rw [eh]; exact w.dr_, w.len, w.rng⟩
    · obtain ⟨v, h1, h2⟩ := r.rep.at_ j d hj
      exact ⟨v, h1, by rw [eh]; exact h2⟩
  · intro e he
    rw [← ea, eh]
    by_cases c : e = (p, es)
    · rw [c]; exact ⟨ws, upd_same, hw⟩
    · have he' : e ∈ μ1 ++ (p, ds) :: μ2 := by
        rcases List.mem_append.mp he with q | q
        · exact List.mem_append_left _ q
        · rcases List.mem_cons.mp q with q | q
          · exact absurd q c
          · exact List.mem_append_right _ (List.mem_cons_of_mem _ q)
      obtain ⟨vs, h1, h2⟩ := r.own e he'
      have ne : e.1 ≠ p := fun q => by
        have nd := r.nd
        rw [show Mu.ad (μ1 ++ (p, ds) :: μ2) = μ1.map (·.1) ++ p :: μ2.map (·.1) by simp [Mu.ad]] at nd
        have nd2 := List.nodup_append.mp nd
        rcases List.mem_append.mp he with z | z
        · exact nd2.2.2 e.1 (List.mem_map_of_mem z) p List.mem_cons_self q
        · rcases List.mem_cons.mp z with z | z
          · exact c z
          · exact (List.nodup_cons.mp nd2.2.1).1 (q ▸ List.mem_map_of_mem (f := (·.1)) z)
      exact ⟨vs, (upd_ne ne).trans h1, h2⟩
theorem os_app {i : Nat} {x : Str} {p1 apos cpos : Pos} (he : PD X E e de) (hN : X.N[i]? = some x := by rfl) (hv : Vis X.env.scope x := by first | exact Or.inl rfl | exact Or.inr (Or.inl rfl) | exact Or.inr (Or.inr rfl)) (hd : (x == ("__debug__" : Str)) = false := by decide) (hcd : (x == ("__classdict__" : Str)) = false := by decide)
    (hbase : attributeBase (.Name x p1) "append" X.env (eval (.Name x p1) X.env) = eval (.Name x p1) X.env := by rfl)
    (hfew : ((backTo cpos (starEach (e :: []) X.env)).all (fun x => !x.1) && (backToKw cpos (keywordEach [] X.env)).all (fun x => x.1.isSome)
      && decide ((e :: ([] : List Expr)).length + ([] : List Keyword).length + (if ([] : List Keyword).isEmpty then 0 else 1) < 30)) = true := by rfl)
    (hline : (apos.endLine == cpos.line) = true := by rfl) (hs : starEach (e :: []) X.env = (false, eval e X.env) :: starEach [] X.env := by rfl) (hplain : (backTo cpos (starEach [] X.env)).any (·.1) = false := by rfl)
    (hsw : swapsWith (.Call (.Attribute (.Name x p1) "append" apos) [e] [] cpos) none pos.line X.env = pure false := by rfl) :
    PDSo X E (.Expr (.Call (.Attribute (.Name x p1) "append" apos) [e] [] cpos) pos) (oApp i de) := by
  obtain ⟨te, p, q⟩ := he
  refine ⟨_, ps_expr (pe_bm PySem.F.plainAttrs_list PySem.F.slot_list_append PySem.F.type_list_append mt_append (pe_var hN hv hd hcd) (pa_cons p pa_nil hs) hbase hfew hline hs hplain) hsw, fun B M G H0 σ δ μ H D0 D1 rp h l => ?_⟩
  obtain ⟨pa, μ1, ds, μ2, z, rfl, hl, h⟩ := h
  obtain ⟨v, hσ, hv⟩ := rp.rep.at_ i _ z
  have ev : v = .ref pa := hv
  subst ev
  have he0 : (pa, ds) ∈ μ1 ++ (pa, ds) :: μ2 := List.mem_append_right _ List.mem_cons_self
  obtain ⟨vs, hH, _⟩ := rp.own _ he0
  refine ⟨.ref pa, hσ, .inl ⟨rfl, vs, SqL.of hH⟩, ?_⟩
  refine q B _ σ δ H _ _ _ rp.rep h (fun v d H2 t2 r2 h2 => ?_) (fun C H2 t2 h2 => l.ex C H2 (rp.fin2 t2) h2)
  have rp2 := rp.stp t2
  obtain ⟨ws, hH2, hr2⟩ := rp2.own _ he0
  refine ⟨pa, ws, v, rfl, rfl, hH2, Nat.lt_of_lt_of_le (by rw [RDs.len hr2]; exact hl) (by rw [sizeLine_eq]; decide), ?_⟩
  exact l.nx _ _ _ _ (rp2.write (es := ds ++ [d]) (RDs.app hr2 (show RDs _ _ _ [d] [v] from ⟨v, [], rfl, r2, rfl⟩))) h2
/-- x[j] = e of a private list -/
def oPut (i : Nat) (dj de : DE) : OS := fun N δ μ => ∃ p μ1 ds μ2, δ[i]? = some (some (.adr p)) ∧ μ = μ1 ++ (p, ds) :: μ2 ∧ de δ (fun d => dj δ (fun j => match j with
  | .int j => (match ixN ds.length j with | some n => N.nx δ (μ1 ++ (p, ds.set n d) :: μ2) | none => False)
  | _ => False) N.ex) N.ex
theorem RDs.set' {K : PySem.W.Frag} {B : Option Addr} {G : Hp} {d : D} {v : V} (h : RD K B G d v) : ∀ {ds : List D} {xs : List V} (n : Nat), RDs K B G ds xs → RDs K B G (ds.set n d) (xs.set n v)
  | [], _, n, r => by rw [show _ = [] from r]; exact rfl
  | x :: ds, _, 0, ⟨y, ys, e1, e2, e3⟩ => by rw [e1]; exact ⟨v, ys, rfl, h, e3⟩
  | x :: ds, _, n + 1, ⟨y, ys, e1, e2, e3⟩ => by rw [e1]; exact ⟨y, _, rfl, e2, RDs.set' h n e3⟩
theorem os_put {i : Nat} {x : Str} {p1 tp : Pos} {ej : Expr} {dj : DE} (he : PD X E e de) (hj : PD X E ej dj) (hN : X.N[i]? = some x := by rfl) (hv : Vis X.env.scope x := by first | exact Or.inl rfl | exact Or.inr (Or.inl rfl) | exact Or.inr (Or.inr rfl)) (hd : (x == ("__debug__" : Str)) = false := by decide) (hcd : (x == ("__classdict__" : Str)) = false := by decide)
    (ha : ∀ v, assign (.Subscript (.Name x p1) ej tp) X.env v = (do
      let ov ← holding [v] (eval (.Name x p1) X.env)
      let iv ← holding [v, ov] (eval ej X.env)
      standAt tp
      holding [v, ov, iv] (setItem ov iv v)
      release [v, ov, iv] []) := by intro _; rfl) (hs : swapsWithSole [.Subscript (.Name x p1) ej tp] e pos.line X.env = pure false := by rfl) (hw : swappedStores [.Subscript (.Name x p1) ej tp] e X.env = pure none := by rfl)
    (h1 : (assignEach [.Subscript (.Name x p1) ej tp] X.env).map (·.2) = [assign (.Subscript (.Name x p1) ej tp) X.env] := by rfl) :
    PDSo X E (.Assign [.Subscript (.Name x p1) ej tp] e pos) (oPut i dj de) := by
  obtain ⟨te, p, q⟩ := he
  obtain ⟨tj, p', q'⟩ := hj
  refine ⟨_, ps_asg p (pg_sub (pe_var hN hv hd hcd) p' set_list ha) hs hw h1, fun B M G H0 σ δ μ H D0 D1 rp h l => ?_⟩
  obtain ⟨pa, μ1, ds, μ2, z, rfl, h⟩ := h
  obtain ⟨v, hσ, hv⟩ := rp.rep.at_ i _ z
  have ev : v = .ref pa := hv
  subst ev
  have he0 : (pa, ds) ∈ μ1 ++ (pa, ds) :: μ2 := List.mem_append_right _ List.mem_cons_self
  refine q B _ σ δ H _ _ _ rp.rep h (fun v d H2 t2 r2 h2 => ?_) (fun C H2 t2 h2 => l.ex C H2 (rp.fin2 t2) h2)
  have rp2 := rp.stp t2
  refine ⟨.ref pa, hσ, ?_⟩
  refine q' B _ σ δ H2 _ _ _ rp2.rep h2 (fun w j H3 t3 r3 h3 => ?_) (fun C H3 t3 h3 => l.ex C H3 (rp2.fin2 t3) h3)
  have rp3 := rp2.stp t3
  cases j <;> try exact h3.elim
  rename_i j
  obtain ⟨ws, hH3, hr3⟩ := rp3.own _ he0
  have h3' : (match ixN ds.length j with | some n => D0.nx δ (μ1 ++ (pa, ds.set n d) :: μ2) | none => False) := h3
  cases e : ixN ds.length j with
  | none => rw [e] at h3'; exact h3'.elim
  | some n =>
    rw [e] at h3'
    exact ⟨pa, ws, j, n, rfl, r3, hH3, by rw [RDs.len hr3]; exact e, l.nx _ _ _ _ (rp3.write (RDs.set' (RD.ex t3.ex _ _ r2) n hr3)) h3'⟩
/-! ### a private list is shown -/
theorem RepG.frz {K : PySem.W.Frag} {B : Option Addr} {M : List Addr} {G H0 H : Hp} {σ : L2.St} {δ : Dst} {μ1 μ2 : Mu} {p : Addr} {ds : List D} {i : Nat} (r : RepG K B M G H0 H σ δ (μ1 ++ (p, ds) :: μ2)) (z : δ[i]? = some (some (.adr p))) :
    RepG K B M G H0 H σ (δ.set i (some (.lst ds))) (μ1 ++ μ2) := by
  have sub : ∀ a, a ∈ Mu.ad (μ1 ++ μ2) → a ∈ Mu.ad (μ1 ++ (p, ds) :: μ2) := fun a m => by
    simp [Mu.ad] at m ⊢
    rcases m with m | m
    · exact .inl m
    · exact .inr (.inr m)
  have sub2 : ∀ a, a ∈ Mu.ad (μ1 ++ μ2) ++ M → a ∈ Mu.ad (μ1 ++ (p, ds) :: μ2) ++ M := fun a m => by
    rcases List.mem_append.mp m with m | m
    · exact List.mem_append_left _ (sub a m)
    · exact List.mem_append_right _ m
  have ex : Ex (hid (Mu.ad (μ1 ++ (p, ds) :: μ2) ++ M) H) (hid (Mu.ad (μ1 ++ μ2) ++ M) H) := hid_sub H sub2
  have he0 : (p, ds) ∈ μ1 ++ (p, ds) :: μ2 := List.mem_append_right _ List.mem_cons_self
  have hp : p ∈ Mu.ad (μ1 ++ (p, ds) :: μ2) := List.mem_map_of_mem (f := (·.1)) he0
  obtain ⟨vs, h1, h2⟩ := r.own _ he0
  have nd := r.nd
  rw [show Mu.ad (μ1 ++ (p, ds) :: μ2) = μ1.map (·.1) ++ p :: μ2.map (·.1) by simp [Mu.ad]] at nd
  have nd2 := List.nodup_append.mp nd
  have nd3 := List.nodup_cons.mp nd2.2.1
  have np : p ∉ Mu.ad (μ1 ++ μ2) ++ M := fun m => by
    rcases List.mem_append.mp m with m | m
    · rw [show Mu.ad (μ1 ++ μ2) = μ1.map (·.1) ++ μ2.map (·.1) by simp [Mu.ad]] at m
      rcases List.mem_append.mp m with m | m
      · exact nd2.2.2 p m p List.mem_cons_self rfl
      · exact nd3.1 m
    · exact r.nb p hp m
  obtain ⟨v, hσ, hv⟩ := r.rep.at_ i _ z
  have ev : v = .ref p := hv
  subst ev
  have ok : Ok K B (Mu.ad (μ1 ++ μ2) ++ M) H := ⟨fun a m => r.rep.ok.all a (sub2 a m), fun b e => by
    obtain ⟨dr, n, ns, w⟩ := r.rep.ok.bag b e
    exact ⟨dr, n, ns, List.mem_append_right _ (r.bm b e), w.at_, ex _ _ w.dr_, w.len, w.rng⟩⟩
  have base : Rep K B (Mu.ad (μ1 ++ μ2) ++ M) H σ δ := ⟨ok, r.rep.len, fun j d hj => by
    obtain ⟨v, q1, q2⟩ := r.rep.at_ j d hj
    exact ⟨v, q1, RD.ex ex _ _ q2⟩⟩
  refine ⟨r.pr, r.bm, fun b dr n ns e w => (by
    obtain ⟨n', w'⟩ := r.bg b dr n ns e w
    exact ⟨n', List.mem_append_right _ (r.bm b e), w'.at_, ex _ _ w'.dr_, w'.len, w'.rng⟩), ?_, fun a m => r.nb a (sub a m), ?_, ?_, fun a o q => ex _ _ (r.ex a o q)⟩
  · have li : i < σ.length := (List.getElem?_eq_some_iff.mp hσ).1
    have e : σ.set i (some (.ref p)) = σ := by
      apply List.ext_getElem?
      intro j
      by_cases c : i = j
      · subst c
        rw [List.getElem?_set_self li, hσ]
      · rw [List.getElem?_set_ne c]
    have q := base.set (i := i) (d := .lst ds) (v := .ref p) ⟨p, vs, rfl, hid_at np h1, RDs.ex ex _ _ h2⟩
    rw [e] at q
    exact q
  · rw [show Mu.ad (μ1 ++ μ2) = μ1.map (·.1) ++ μ2.map (·.1) by simp [Mu.ad]]
    exact List.nodup_append.mpr ⟨nd2.1, nd3.2, fun a ha b hb => nd2.2.2 a ha b (List.mem_cons_of_mem _ hb)⟩
  · intro e he
    have he' : e ∈ μ1 ++ (p, ds) :: μ2 := by
      rcases List.mem_append.mp he with q | q
      · exact List.mem_append_left _ q
      · exact List.mem_append_right _ (List.mem_cons_of_mem _ q)
    obtain ⟨vs, q1, q2⟩ := r.own e he'
    exact ⟨vs, q1, RDs.ex ex _ _ q2⟩
def oFrz (i : Nat) (s : OS) : OS := fun N δ μ => ∃ p μ1 ds μ2, δ[i]? = some (some (.adr p)) ∧ μ = μ1 ++ (p, ds) :: μ2 ∧ s N (δ.set i (some (.lst ds))) (μ1 ++ μ2)
theorem ob_frz (i : Nat) : PDBo X E rest o1 → PDBo X E rest (oFrz i o1)
  | ⟨_, p, q⟩ => ⟨_, p, fun B M G H0 σ δ μ H D0 D1 rp h l => by
      obtain ⟨pa, μ1, ds, μ2, z, rfl, h⟩ := h
      exact q B M G H0 σ _ _ H D0 D1 (rp.frz z) h l⟩
/-- if a test reads the private list in slot i: it stays private behind the test -/
def oIfB (i : Nat) (t : DT) (u v : OS) : OS := fun N δ μ => ∃ p μ1 ds μ2, δ[i]? = some (some (.adr p)) ∧ μ = μ1 ++ (p, ds) :: μ2 ∧ t (δ.set i (some (.lst ds))) (fun b => if b = true then u N δ μ else v N δ μ) N.ex
theorem RepG.unborrow {K : PySem.W.Frag} {B : Option Addr} {M : List Addr} {G H0 H H2 : Hp} {σ : L2.St} {δ : Dst} {μ1 μ2 : Mu} {p : Addr} {ds : List D} {i : Nat} (r : RepG K B M G H0 H σ δ (μ1 ++ (p, ds) :: μ2)) (z : δ[i]? = some (some (.adr p))) (t : Stp K B (Mu.ad (μ1 ++ μ2) ++ M) H H2) :
    RepG K B M G H0 H2 σ δ (μ1 ++ (p, ds) :: μ2) := by
  have mem : ∀ a, a ∈ Mu.ad (μ1 ++ (p, ds) :: μ2) ++ M → a = p ∨ a ∈ Mu.ad (μ1 ++ μ2) ++ M := fun a m => by
    simp [Mu.ad] at m ⊢
    rcases m with m | m | m | m
    · exact .inr (.inl m)
    · exact .inl m
    · exact .inr (.inr (.inl m))
    · exact .inr (.inr (.inr m))
  have he0 : (p, ds) ∈ μ1 ++ (p, ds) :: μ2 := List.mem_append_right _ List.mem_cons_self
  have hp : p ∈ Mu.ad (μ1 ++ (p, ds) :: μ2) := List.mem_map_of_mem (f := (·.1)) he0
  obtain ⟨vs, h1, _⟩ := r.own _ he0
  have rf := r.frz z
  have np : p ∉ Mu.ad (μ1 ++ μ2) ++ M := fun m => by
    have nd := r.nd
    rw [show Mu.ad (μ1 ++ (p, ds) :: μ2) = μ1.map (·.1) ++ p :: μ2.map (·.1) by simp [Mu.ad]] at nd
    have nd2 := List.nodup_append.mp nd
    have nd3 := List.nodup_cons.mp nd2.2.1
    rcases List.mem_append.mp m with m | m
    · rw [show Mu.ad (μ1 ++ μ2) = μ1.map (·.1) ++ μ2.map (·.1) by simp [Mu.ad]] at m
      rcases List.mem_append.mp m with m | m
      · exact nd2.2.2 p m p List.mem_cons_self rfl
      · exact nd3.1 m
    · exact r.nb p hp m
  have h2p : H2 p = some (.lst vs) := (hid_of (t.ex p _ (hid_at np h1))).2
  have ex : Ex (hid (Mu.ad (μ1 ++ (p, ds) :: μ2) ++ M) H) (hid (Mu.ad (μ1 ++ (p, ds) :: μ2) ++ M) H2) := fun a o q => by
    have h3 := hid_of q
    have na : a ∉ Mu.ad (μ1 ++ μ2) ++ M := fun m => h3.1 (by
      simp [Mu.ad] at m ⊢
      rcases m with m | m | m
      · exact .inl m
      · exact .inr (.inr (.inl m))
      · exact .inr (.inr (.inr m)))
    exact hid_at h3.1 (hid_of (t.ex a o (hid_at na h3.2))).2
  refine r.stp ⟨ex, fun a m n => ?_, fun b dr n ns e w => ?_⟩
  · rcases mem a m with c | c
    · rw [c, h2p, h1]
    · exact t.pr a c n
  · obtain ⟨n', w'⟩ := t.bg b dr n ns e ⟨List.mem_append_right _ (r.bm b e), w.at_, hid_sub H (fun a m => by
      simp [Mu.ad] at m ⊢
      rcases m with m | m | m
      · exact .inl m
      · exact .inr (.inr (.inl m))
      · exact .inr (.inr (.inr m))) _ _ w.dr_, w.len, w.rng⟩
    exact ⟨n', w.mem, w'.at_, hid_at (hid_of w.dr_).1 (hid_of w'.dr_).2, w.len, w.rng⟩
theorem os_ifB (i : Nat) : PDT X E c dt → PDBo X E sb o1 → PDBo X E se o2 → PDSo X E (.If c sb se pos) (oIfB i dt o1 o2)
  | ⟨_, p0, q0⟩, ⟨_, p1, q1⟩, ⟨_, p2, q2⟩ => ⟨_, ps_if p0 p1 p2, fun B M G H0 σ δ μ H D0 D1 rp h l => by
      obtain ⟨pa, μ1, ds, μ2, z, rfl, h⟩ := h
      have rf := rp.frz z
      refine q0 B _ σ _ H _ _ _ rf.rep h (fun b H2 t q => ?_) (fun C H2 t q => l.ex C H2 (rf.fin2 t) q)
      have rp2 := rp.unborrow z t
      cases b with
      | true => exact iteT (q1 B M G H0 σ δ _ H2 D0 D1 rp2 (by simpa using q) l)
      | false => exact iteF (q2 B M G H0 σ δ _ H2 D0 D1 rp2 (by simpa using q) l)⟩
def oIf (t : DT) (u v : OS) : OS := fun N δ μ => t δ (fun b => if b = true then u N δ μ else v N δ μ) N.ex
theorem os_if : PDT X E c dt → PDBo X E sb o1 → PDBo X E se o2 → PDSo X E (.If c sb se pos) (oIf dt o1 o2)
  | ⟨_, p0, q0⟩, ⟨_, p1, q1⟩, ⟨_, p2, q2⟩ => ⟨_, ps_if p0 p1 p2, fun B M G H0 σ δ μ H D0 D1 rp h l =>
      q0 B _ σ δ H _ _ _ rp.rep h (fun b H2 t q => by
        have rp2 := rp.stp t
        cases b with
        | true => exact iteT (q1 B M G H0 σ δ _ H2 D0 D1 rp2 (by simpa using q) l)
        | false => exact iteF (q2 B M G H0 σ δ _ H2 D0 D1 rp2 (by simpa using q) l)) (fun C H2 t q => l.ex C H2 (rp.fin2 t) q)⟩
/-- a new list is handed back -/
def oRetN (i : Nat) : OS := fun N δ μ => ∃ p μ1 ds μ2, δ[i]? = some (some (.adr p)) ∧ μ = μ1 ++ (p, ds) :: μ2 ∧ N.rn ds
theorem os_retN {i : Nat} {x : Str} {p1 : Pos} (hN : X.N[i]? = some x := by rfl) (hv : Vis X.env.scope x := by first | exact Or.inl rfl | exact Or.inr (Or.inl rfl) | exact Or.inr (Or.inr rfl)) (hd : (x == ("__debug__" : Str)) = false := by decide) (hcd : (x == ("__classdict__" : Str)) = false := by decide) :
    PDSo X E (.Return (some (.Name x p1)) pos) (oRetN i) := by
  refine ⟨_, ps_ret (pe_var hN hv hd hcd), fun B M G H0 σ δ μ H D0 D1 rp h l => ?_⟩
  obtain ⟨pa, μ1, ds, μ2, z, rfl, h⟩ := h
  obtain ⟨v, hσ, hv⟩ := rp.rep.at_ i _ z
  have ev : v = .ref pa := hv
  subst ev
  have he0 : (pa, ds) ∈ μ1 ++ (pa, ds) :: μ2 := List.mem_append_right _ List.mem_cons_self
  have hp : pa ∈ Mu.ad (μ1 ++ (pa, ds) :: μ2) := List.mem_map_of_mem (f := (·.1)) he0
  obtain ⟨vs, h1, h2⟩ := rp.own _ he0
  have ex : Ex (hid (Mu.ad (μ1 ++ (pa, ds) :: μ2) ++ M) H) (hid (pa :: M) H) := hid_sub H fun a m => by
    rcases List.mem_cons.mp m with c | c
    · rw [c]; exact List.mem_append_left _ hp
    · exact List.mem_append_right _ c
  exact ⟨.ref pa, hσ, l.rn pa ds H ⟨rp.fin, rp.nb pa hp, fun a o q => ex _ _ (rp.ex a o q), vs, h1, RDs.ex ex _ _ h2⟩ h⟩
/-! ### for -/
def oFor (di : DI) (g : DG) (tb : OS) : OS := fun N δ μ => di δ (fun items => ∃ Pv : Nat → Dst → Mu → Prop, Pv 0 δ μ ∧
  (∀ i d δ' μ', items[i]? = some d → Pv i δ' μ' → g d δ' (fun δ2 => tb { N with nx := Pv (i + 1), ct := Pv (i + 1), bk := N.nx } δ2 μ')) ∧ ∀ δ' μ', Pv items.length δ' μ' → N.nx δ' μ') N.ex
theorem os_for {iter : Expr} {body : List Stmt} {di : DI} {g : DG} (hp : PassesOwn (model X.prog X.w) X.A X.env X.xe) (hc : X.calm = true) (hi : PDI X E tg iter di) (hg : PDG X tg g) (hb : PDBo X E body o1)
    (hs : ∀ x, foldedSetIterable iter X.env x = pure x := by intro _; rfl) : PDSo X E (.For tg iter body [] pos) (oFor di g o1) := by
  obtain ⟨wi, p1, q1⟩ := hi
  obtain ⟨tg', p2, q2⟩ := hg
  obtain ⟨tb, p3, q3⟩ := hb
  refine ⟨_, ps_for hp hc p1 p2 p3 hs, fun B M G H0 σ δ μ H D0 D1 rp h l => q1 B _ σ δ H _ _ _ rp.rep h (fun J items H1 t1 wk hk => ?_) (fun C H2 t q => l.ex C H2 (rp.fin2 t) q)⟩
  obtain ⟨Pv, h0, hst, hd⟩ := hk
  have rp1 := rp.stp t1
  have gg : Ex G (hid (μ.ad ++ M) H1) := rp1.ex
  have rp1' : RepG X.K B M (hid (μ.ad ++ M) H1) H0 H1 σ δ μ := ⟨rp1.pr, rp1.bm, rp1.bg, rp1.rep, rp1.nb, rp1.nd, rp1.own, fun _ _ q => q⟩
  refine ⟨fun i m σ' H' => i + m = items.length ∧ ∃ δ' μ', RepG X.K B M (hid (μ.ad ++ M) H1) H0 H' σ' δ' μ' ∧ Pv i δ' μ', ⟨items.length, by omega, δ, μ, rp1', h0⟩, fun i m σ' H' hW => ?_⟩
  obtain ⟨em, δ', μ', rp', hpv⟩ := hW
  obtain ⟨go, stop⟩ := wk (μ'.ad ++ M) H' rp'.ex rp'.rep.ok
  have l' := l.weak gg
  by_cases c : i = items.length
  · subst c
    exact .inl ⟨stop, l'.nx _ _ _ H' rp' (hd _ _ hpv)⟩
  · have hi : i < items.length := by omega
    obtain ⟨hg, hy⟩ := go i _ (List.getElem?_eq_getElem hi)
    refine .inr ⟨hg, fun σ2 H2 => ∃ δ2 μ2, RepG X.K B M (hid (μ.ad ++ M) H1) H0 H2 σ2 δ2 μ2 ∧ Pv (i + 1) δ2 μ2, fun σ2 H2 hN => ⟨m - 1, by omega, by omega, hN⟩, fun x H2 hyl => ?_⟩
    obtain ⟨ex2, rx⟩ := hy x H2 hyl
    have t3 : Stp X.K B (μ'.ad ++ M) H' H2 := .same ex2 rp'.rep.ok
    have rp3 := rp'.stp t3
    refine q2 B _ σ' δ' H2 x _ _ _ rp3.rep rx (hst i _ δ' μ' (List.getElem?_eq_getElem hi) hpv) (fun σ4 δ4 rp4 h4 => ?_)
    have rp5 : RepG X.K B M (hid (μ.ad ++ M) H1) H0 H2 σ4 δ4 μ' := rp3.back .refl rp4
    exact q3 B M _ H0 σ4 δ4 μ' H2 _ _ rp5 h4 ⟨fun σ5 δ5 μ5 H5 r5 h5 => ⟨δ5, μ5, r5, h5⟩, l'.rt, l'.rn, l'.ex, l'.nx, fun σ5 δ5 μ5 H5 r5 h5 => ⟨δ5, μ5, r5, h5⟩⟩
/-! ### a def that hands back a new list, or data -/
abbrev DSpN := List D → (D → Prop) → (List D → Prop) → (Addr → Prop) → Prop
def spN (K : PySem.W.Frag) (dsp : DSpN) : Sp := fun vs H Q E => ∃ B M ds k kn kx, Ok K B M H ∧ RDs K B (hid M H) ds vs ∧ dsp ds k kn kx ∧ (∀ v d H2, Stp K B M H H2 → RD K B (hid M H2) d v → k d → Q v H2) ∧
  (∀ p es H2, Stp K B M H H2 → p ∉ M → H p = none → (∃ ws, H2 p = some (.lst ws) ∧ RDs K B (hid (p :: M) H2) es ws) → kn es → Q (.ref p) H2) ∧ (∀ C H2, Stp K B M H H2 → kx C → E (.ref C) none H2)
end
end DL
namespace DL
open PySem PySem.Spec PyProof.Rows L2
section
variable {P : Program} {w : World} {K : PySem.W.Frag} {mg : Str → Option Value} {base : Heap}
theorem fn_N {x qual : Str} {st : Stmt} {f : Addr} {fd : FuncData} {N ps : List Str} {k : Nat} {dsp : DSpN} (F : Fun K x qual st f fd) (S : FnScope N ps (defScope st)) (hlen : ∀ ds k kn kx, dsp ds k kn kx → ds.length = ps.length)
    (hbody : ∀ (cdv : Value) (A : Around) (outer : List Env) (s : Shared) (H : Hp) (E : XK), Room k (A.deeper (envOfC qual (defScope st) s.heap.objs.size f cdv)) →
      ∃ t, PDBo (cxOf (L2.CX P w) P w K mg base N qual (defScope st) f cdv A outer s H E) E (defBody st) t ∧ ∀ ds k kn kx, dsp ds k kn kx → t { nx := fun _ _ => k .non, rt := k, rn := kn, ex := kx } (dstart N ds) []) : FnOk P w K mg base (L2.CX P w) (k + 1) f fd ps (spN K dsp) := by
  refine F.okX S (fun vs H Q E h => ?_) (fun cdv A outer s H vs Q E hr h => ?_)
  · obtain ⟨B, M, ds, k, kn, kx, _, r, hd, _⟩ := h
    rw [RDs.len r]; exact hlen _ _ _ _ hd
  · obtain ⟨t, ⟨ts, p, q⟩, ht⟩ := hbody cdv A outer s H E hr
    obtain ⟨B, M, ds, k, kn, kx, ok, r, hd, hq, hn, hx⟩ := h
    have rg : RepG K B M (hid M H) H H (L2.start N vs) (dstart N ds) [] := ⟨fun _ _ _ => rfl, fun b e => (by
      obtain ⟨dr, n, ns, w⟩ := ok.bag b e
      exact w.mem), fun b dr n ns e w => ⟨n, w⟩, rep_start ok r, fun p hp => absurd hp (List.not_mem_nil), List.nodup_nil, fun e he => absurd he (List.not_mem_nil), fun _ _ q => q⟩
    have toStp : ∀ H2, Fin K B M (hid M H) H H2 → Stp K B M H H2 := fun H2 f => ⟨f.ex, f.pr, f.bg⟩
    refine ⟨ts, p, q B M _ H _ _ [] H _ _ rg (ht ds k kn kx hd) ⟨fun σ δ μ H2 r h2 => hq .non .non H2 (toStp H2 r.fin) rfl h2, fun v d H2 f rd h2 => hq v d H2 (toStp H2 f) rd h2, fun p es H2 f h2 => ?_, fun C H2 f h2 => hx C H2 (toStp H2 f) h2, fun _ _ _ _ _ h => h.elim, fun _ _ _ _ _ h => h.elim⟩⟩
    refine hn p es H2 (toStp H2 f.fin) f.nb ?_ f.at_ h2
    cases e : H p with
    | none => rfl
    | some o => exact absurd List.mem_cons_self (hid_of (f.ng p o (hid_at f.nb e))).1
/-- such a def as one that hands back data -/
def toD (dsp : DSpN) : DSp := fun ds k kx => dsp ds k (fun es => k (.lst es)) kx
theorem spN_D {dsp : DSpN} {vs : List V} {H : Hp} {Q : VK} {E : XK} (h : spD K (toD dsp) vs H Q E) : spN K dsp vs H Q E := by
  obtain ⟨B, M, ds, k, kx, ok, r, hd, hq, hx⟩ := h
  refine ⟨B, M, ds, k, _, kx, ok, r, hd, hq, fun p es H2 t np hp hw h2 => ?_, hx⟩
  obtain ⟨ws, h3, h4⟩ := hw
  exact hq _ (.lst es) H2 t ⟨p, ws, rfl, hid_at np h3, RDs.ex (hid_sub H2 fun a m => List.mem_cons_of_mem _ m) _ _ h4⟩ h2
def DefN (P : Program) (w : World) (K : PySem.W.Frag) (mg : Str → Option Value) (base : Heap) (k : Nat) (x : Str) (ps : List Str) (dsp : DSpN) : Prop :=
  ∃ f fd, FnOk P w K mg base (L2.CX P w) k f fd ps (spN K dsp) ∧ mg x = some (.ref f) ∧ PySem.W.keepIn K (.ref f) = true ∧ Binds K fd ps []
theorem DefN.toDef {x : Str} {ps : List Str} {k : Nat} {dsp : DSpN} (d : DefN P w K mg base k x ps dsp) : Def P w K mg base k x ps (toD dsp) := by
  obtain ⟨f, fd, F, a, b, c⟩ := d
  exact ⟨f, fd, F.imp fun vs H Q E h => spN_D h, a, b, c⟩
theorem defN_mk {x : Str} {st : Stmt} {N ps : List Str} {k : Nat} {dsp : DSpN} (T : DefT K mg x st) (S : FnScope N ps (defScope st))
    (hb : ∀ (kV doc pm : Value) (an : Option Addr) (cdv ct : Value) (us : List Value), us.length = ps.length → bindArgs (PySem.W.fnOf x x (defArgs st) (defBody st) (defScope st) .none kV doc pm an cdv ct) ⟨us, []⟩ = pure (ps.zip us))
    (hlen : ∀ ds k kn kx, dsp ds k kn kx → ds.length = ps.length)
    (hbody : ∀ (f : Addr) (cdv : Value) (A : Around) (outer : List Env) (s : Shared) (H : Hp) (E : XK), Room k (A.deeper (envOfC x (defScope st) s.heap.objs.size f cdv)) →
      ∃ t, PDBo (cxOf (L2.CX P w) P w K mg base N x (defScope st) f cdv A outer s H E) E (defBody st) t ∧ ∀ ds k kn kx, dsp ds k kn kx → t { nx := fun _ _ => k .non, rt := k, rn := kn, ex := kx } (dstart N ds) []) :
    DefN P w K mg base (k + 1) x ps dsp := by
  obtain ⟨f, fd, F, hm⟩ := T
  exact ⟨f, fd, fn_N F S hlen (hbody f), hm, F.kp, F.binds hb⟩
/-- a def that uses private lists but hands back data -/
theorem defO_mk {x : Str} {st : Stmt} {N ps : List Str} {k : Nat} {dsp : DSp} (T : DefT K mg x st) (S : FnScope N ps (defScope st))
    (hb : ∀ (kV doc pm : Value) (an : Option Addr) (cdv ct : Value) (us : List Value), us.length = ps.length → bindArgs (PySem.W.fnOf x x (defArgs st) (defBody st) (defScope st) .none kV doc pm an cdv ct) ⟨us, []⟩ = pure (ps.zip us))
    (hlen : ∀ ds k kx, dsp ds k kx → ds.length = ps.length)
    (hbody : ∀ (f : Addr) (cdv : Value) (A : Around) (outer : List Env) (s : Shared) (H : Hp) (E : XK), Room k (A.deeper (envOfC x (defScope st) s.heap.objs.size f cdv)) →
      ∃ t, PDBo (cxOf (L2.CX P w) P w K mg base N x (defScope st) f cdv A outer s H E) E (defBody st) t ∧ ∀ ds k kx, dsp ds k kx → t { nx := fun _ _ => k .non, rt := k, rn := fun es => k (.lst es), ex := kx } (dstart N ds) []) :
    Def P w K mg base (k + 1) x ps dsp := by
  have h := defN_mk (dsp := fun ds k kn kx => dsp ds k kx ∧ kn = fun es => k (.lst es)) T S hb (fun ds k kn kx h => hlen ds k kx h.1) (fun f cdv A outer s H E hr => by
    obtain ⟨t, p, q⟩ := hbody f cdv A outer s H E hr
    exact ⟨t, p, fun ds k kn kx h => by rw [h.2]; exact q ds k kx h.1⟩)
  exact h.toDef.imp fun ds k kx h => ⟨h, rfl⟩
end
section
variable {X : Cx} {E : XK} {e : Expr} {es : List Expr} {das : DA} {pos : Pos}
/-- x = [e, ..], a list that will be changed -/
def oNewL (i : Nat) (da : DA) : OS := fun N δ μ => da δ (fun ds => ∀ p, p ∉ μ.ad → N.nx (δ.set i (some (.adr p))) ((p, ds) :: μ)) N.ex
/-- x = f(e, ..), a new list that will be changed -/
def oSetN (i : Nat) (dsp : DSpN) (da : DA) : OS := fun N δ μ => da δ (fun ds => dsp ds (fun _ => False) (fun es => ∀ p, p ∉ μ.ad → N.nx (δ.set i (some (.adr p))) ((p, es) :: μ)) N.ex) N.ex
theorem RepG.newN {K : PySem.W.Frag} {B : Option Addr} {M : List Addr} {G H0 H H2 : Hp} {σ : L2.St} {δ : Dst} {μ : Mu} {i : Nat} {p : Addr} {es : List D} (r : RepG K B M G H0 H σ δ μ) (t : Stp K B (μ.ad ++ M) H H2) (np : p ∉ μ.ad ++ M) (hp : H p = none) (hw : ∃ ws, H2 p = some (.lst ws) ∧ RDs K B (hid (p :: (μ.ad ++ M)) H2) es ws) :
    RepG K B M G H0 H2 (σ.set i (some (.ref p))) (δ.set i (some (.adr p))) ((p, es) :: μ) := by
  have npM : p ∉ M := fun m => np (List.mem_append_right _ m)
  have npP : p ∉ μ.ad := fun m => np (List.mem_append_left _ m)
  have rs := r.stp t
  obtain ⟨ws, h1, h2⟩ := hw
  have ex : Ex (hid (μ.ad ++ M) H) (hid (p :: (μ.ad ++ M)) H2) := fun a u q => by
    have h3 := hid_of q
    have nd : a ≠ p := ne_of_none h3.2 hp
    exact hid_at (fun m => by
      rcases List.mem_cons.mp m with c | c
      · exact nd c
      · exact h3.1 c) (hid_of (t.ex a u q)).2
  have ok : Ok K B (p :: (μ.ad ++ M)) H2 := ⟨fun a m => by
    rcases List.mem_cons.mp m with c | c
    · rw [c]; exact ⟨_, h1⟩
    · exact rs.rep.ok.all a c, fun b e => by
    obtain ⟨dr, n, ns, w⟩ := r.rep.ok.bag b e
    obtain ⟨n', w'⟩ := t.bg b dr n ns e w
    exact ⟨dr, n', ns, List.mem_cons_of_mem _ w.mem, w'.at_, ex _ _ w.dr_, w.len, w.rng⟩⟩
  refine ⟨rs.pr, r.bm, fun b dr n ns e w => ?_, ?_, ?_, ?_, ?_, fun a o q => ex _ _ (r.ex a o q)⟩
  · obtain ⟨n1, w1⟩ := r.bg b dr n ns e w
    obtain ⟨n', w'⟩ := t.bg b dr n1 ns e w1
    exact ⟨n', List.mem_cons_of_mem _ w1.mem, w'.at_, ex _ _ w1.dr_, w1.len, w1.rng⟩
  · have base : Rep K B (p :: (μ.ad ++ M)) H2 σ δ := ⟨ok, r.rep.len, fun j d hj => by
      obtain ⟨v, h1, h2⟩ := r.rep.at_ j d hj
      exact ⟨v, h1, RD.ex ex _ _ h2⟩⟩
    exact base.set (d := .adr p) (v := .ref p) rfl
  · intro q hq
    rcases List.mem_cons.mp hq with c | c
    · rw [c]; exact npM
    · exact r.nb q c
  · exact List.nodup_cons.mpr ⟨npP, r.nd⟩
  · intro e he
    rcases List.mem_cons.mp he with c | c
    · rw [c]; exact ⟨ws, h1, h2⟩
    · obtain ⟨vs, h5, h6⟩ := r.own e c
      have he1 : e.1 ∈ μ.ad := List.mem_map_of_mem c
      exact ⟨vs, (t.pr e.1 (List.mem_append_left _ he1) (r.neb he1)).trans h5, RDs.ex ex _ _ h6⟩
theorem os_newL {i : Nat} {x : Str} {pos' p2 : Pos} (hN : X.N.Nodup) (hi : X.N[i]? = some x) (hx : Loc X.env.scope x) (ha : PDL X E es das) (hl : es.length ≤ 1000 := by decide) (hs : swapsWith (.List es p2) (some (.Name x pos')) pos.line X.env = pure false := by rfl) (hf : X.fn x = true ∨ X.env.scope.names.lookup x = some .local := by first | exact .inl rfl | exact .inr rfl | assumption) :
    PDSo X E (.Assign [.Name x pos'] (.List es p2) pos) (oNewL i das) := by
  obtain ⟨ta, p1, s1⟩ := ha
  refine ⟨_, ps_set hN hi hx (pe_lst p1) hs hf, fun B M G H0 σ δ μ H D0 D1 rp h l => s1 B _ σ δ H _ _ _ rp.rep h (fun vs ds H1 hn t1 r1 q1 => ⟨line1000 (by rw [RDs.len r1, hn]; exact hl), fun p hp => ?_⟩) (fun C H2 t h2 => l.ex C H2 (rp.fin2 t) h2)⟩
  have rp1 := rp.stp t1
  have np := rp1.rep.ok.fresh hp
  have t2 : Stp X.K B (μ.ad ++ M) H1 (upd H1 p (.lst vs)) := .new rp1.rep.ok hp
  exact l.nx _ _ _ _ (rp1.newN t2 np hp ⟨vs, upd_same, RDs.ex (hid_new hp) _ _ r1⟩) (q1 p fun m => np (List.mem_append_left _ m))
theorem os_setN {i k j : Nat} {ps : List Str} {dsp : DSpN} {x f : Str} {p pos' cpos : Pos} (hx0 : Passes (CXL X) X E) (hr : Room j X.A) (D : DefN X.prog X.w X.K X.mg X.base k f ps dsp) (hN : X.N.Nodup) (hi : X.N[i]? = some x) (hx : Loc X.env.scope x) (ha : PDL X E (e :: es) das) (hkj : k ≤ j := by decide)
    (hg : Gl X f := by rfl) (hdb : (f == ("__debug__" : Str)) = false := by decide) (he : starEach (e :: es) X.env = (false, eval e X.env) :: starEach es X.env := by rfl) (hpl : (backTo cpos (starEach es X.env)).any (·.1) = false := by rfl)
    (hs : swapsWith (.Call (.Name f p) (e :: es) [] cpos) (some (.Name x pos')) pos.line X.env = pure false := by rfl) (hf : X.fn x = true ∨ X.env.scope.names.lookup x = some .local := by first | exact .inl rfl | exact .inr rfl | assumption) :
    PDSo X E (.Assign [.Name x pos'] (.Call (.Name f p) (e :: es) [] cpos) pos) (oSetN i dsp das) := by
  obtain ⟨fa, fd, F, hm, hk, hb⟩ := D
  obtain ⟨ta, p1, s1⟩ := ha
  refine ⟨_, ps_set hN hi hx (pe_call (F.mono hkj) hr hg hm hk hb .nil hx0 p1 hdb he hpl) hs hf, fun B M G H0 σ δ μ H D0 D1 rp h l => s1 B _ σ δ H _ _ _ rp.rep h (fun vs ds H1 _ t1 r1 q1 => ?_) (fun C H2 t h2 => l.ex C H2 (rp.fin2 t) h2)⟩
  have rp1 := rp.stp t1
  refine ⟨B, μ.ad ++ M, ds, _, _, _, rp1.rep.ok, by rw [List.append_nil]; exact r1, q1, fun _ _ _ _ _ h => h.elim, fun p es H2 t2 np hp hw h2 => ?_, fun C H2 t2 h2 => l.ex C H2 (rp1.fin2 t2) h2⟩
  exact l.nx _ _ _ H2 (rp1.newN t2 np hp hw) (h2 p fun m => np (List.mem_append_left _ m))
end
end DL
namespace DL
open PySem PySem.Spec PyProof.Rows L2
/-! ### a written tuple of texts, at the top of the text -/
def CTup (K : PySem.W.Frag) (mg : Str → Option Value) (x : Str) (ss : List Str) : Prop := ∃ p, mg x = some (.ref p) ∧ ∃ (o : Obj) (its : Array Value) (n : Nat), K.lookup p = some o ∧ o.dict = none ∧ o.cls = .type "tuple" ∧ o.data = .seq its n ∧ its.size ≤ sizeLine ∧ Vals (ss.map V.str) its.toList
theorem RDs.strs {K : PySem.W.Frag} {B : Option Addr} {G : Hp} : ∀ (ss : List Str), RDs K B G (ss.map D.str) (ss.map V.str)
  | [] => rfl
  | n :: ns => ⟨_, _, rfl, rfl, RDs.strs ns⟩
section
variable {X : Cx} {E : XK} {pos : Pos}
theorem d_ctup {x : Str} {ss : List Str} (hg : Gl X x) (c : CTup X.K X.mg x ss) (hd : (x == ("__debug__" : Str)) = false := by decide) : PD X E (.Name x pos) (dC (.tup (ss.map D.str))) := by
  obtain ⟨p, hm, o, its, n, h1, h0, h2, h3, h4, h5⟩ := c
  exact d_gtup (xs := ss.map V.str) hg ⟨hm, fun H => ⟨.inr ⟨o, its, n, h1, h2, h3, h4, h5⟩, .inr ⟨o, h1, h0⟩⟩, fun B G => RDs.strs ss⟩ hd
end
end DL
/-! Rules of tuples that the layer lacks: t * 0, t * 1, t[::-1]; x in a list, deep. -/
namespace DL
open PySem PySem.Spec PyProof.Rows L2
/-! ### t * n -/
section
variable {X : Cx} {E : XK} {a b e : Expr} {da db de : DE} {pos : Pos}
theorem RDs.repl {K : PySem.W.Frag} {B : Option Addr} {G : Hp} {ds : List D} {xs : List V} (r : RDs K B G ds xs) : ∀ n, RDs K B G (List.replicate n ds).flatten (List.replicate n xs).flatten
  | 0 => rfl
  | n + 1 => by
    rw [List.replicate_succ, List.replicate_succ, List.flatten_cons, List.flatten_cons]
    exact RDs.app r (RDs.repl r n)
def dRep : DR := fun x y k => match x, y with
  | .tup ds, .int n => (ds ≠ [] ∧ 0 ≤ n ∧ n ≤ 1000 ∧ ds.length ≤ 1000) ∧ k (.tup (List.replicate n.toNat ds).flatten)
  | _, _ => False
theorem sr_rep {K : PySem.W.Frag} : SR K (rRep K) dRep := by
  intro B M H x y v w k Q ok hx hy hd hq
  cases x <;> try exact hd.elim
  cases y <;> try exact hd.elim
  rename_i ds n
  obtain ⟨p, xs, rfl, e2, e3⟩ := hx
  obtain ⟨⟨h1, h2, h3, h4⟩, h5⟩ := hd
  refine ⟨p, n, xs, rfl, hy, SqD.un e2, fun e => h1 ?_, h2, h3, by rw [RDs.len e3]; exact h4, fun c => ?_, fun c l ob hl hob => ?_⟩
  · have := RDs.len e3
    rw [e] at this
    exact List.eq_nil_of_length_eq_zero this.symm
  · subst c
    refine hq _ (.tup (List.replicate (1 : Int).toNat ds).flatten) H .refl ⟨p, xs, rfl, e2, ?_⟩ h5
    show RDs K B _ (List.replicate 1 ds).flatten xs
    rw [List.replicate_one, List.flatten_singleton]; exact e3
  · have t4 : Stp K B M H (upd H l (.frz ob (.tup (List.replicate n.toNat xs).flatten))) := .new ok hl
    exact hq _ (.tup (List.replicate n.toNat ds).flatten) _ t4 ⟨l, _, rfl, new_tup ok hl hob, RDs.ex t4.ex _ _ (RDs.repl e3 _)⟩ h5
theorem d_rep (ha : PD X E a da) (hb : PD X E b db) : PD X E (.BinOp a .Mult b pos) (dOp dRep da db) := d_op op_rep sr_rep ha hb
/-! ### x in l, deep -/
@[irreducible] def dInD (neg : Bool) : DR := fun x y k => match y with
  | .lst ds => x.shp = true ∧ (D.lst ds).shp = true ∧ k (.bl (if neg then !(ds.any fun z => eqD z x) else ds.any fun z => eqD z x))
  | _ => False
theorem pys_any (x : D) : ∀ ds : List D, (pys ds).any (fun z => PyData.eqv z x.py) = ds.any fun z => eqD z x
  | [] => rfl
  | d :: ds => by
    show (PyData.eqv d.py x.py || (pys ds).any (fun z => PyData.eqv z x.py)) = (eqD d x || ds.any fun z => eqD z x)
    rw [pys_any x ds]; unfold eqD; rfl
theorem sr_inD {K : PySem.W.Frag} : SR K (rInD K) (dInD false) := by
  intro B M H x y v w k Q ok hx hy hd hq
  unfold dInD at hd
  cases y <;> try exact hd.elim
  rename_i ds
  obtain ⟨h1, h2, h3⟩ := hd
  have s1 := Bool.and_eq_true_iff.mp h1
  have s2 := Bool.and_eq_true_iff.mp h2
  exact ⟨x.py, pys ds, RD.dp x v s1.1 hx, RD.dp (.lst ds) w s2.1 hy, s1.2, s2.2, hq _ _ H .refl (by rw [pys_any]; exact rfl) h3⟩
theorem sr_notInD {K : PySem.W.Frag} : SR K (rNotInD K) (dInD true) := by
  intro B M H x y v w k Q ok hx hy hd hq
  unfold dInD at hd
  cases y <;> try exact hd.elim
  rename_i ds
  obtain ⟨h1, h2, h3⟩ := hd
  have s1 := Bool.and_eq_true_iff.mp h1
  have s2 := Bool.and_eq_true_iff.mp h2
  exact ⟨x.py, pys ds, RD.dp x v s1.1 hx, RD.dp (.lst ds) w s2.1 hy, s1.2, s2.2, hq _ _ H .refl (by rw [pys_any]; exact rfl) h3⟩
theorem units5 {k : Nat} {A : Around} (r : Room k A) : A.units + 65 < cLine := by have := r.un; omega
theorem d_inD (hu : X.A.units + 65 < cLine) (ha : PD X E a da) (hb : PD X E b db) (hm : behindInMarks .In b = false := by with_unfolding_all rfl) : PD X E (.Compare a [.In] [b] pos) (dOp (dInD false) da db) := d_cmp (op_inD hu) sr_inD hm ha hb
theorem d_notInD (hu : X.A.units + 65 < cLine) (ha : PD X E a da) (hb : PD X E b db) (hm : behindInMarks .NotIn b = false := by with_unfolding_all rfl) : PD X E (.Compare a [.NotIn] [b] pos) (dOp (dInD true) da db) := d_cmp (op_notInD hu) sr_notInD hm ha hb
theorem t_inD (hu : X.A.units + 65 < cLine) (ha : PD X E a da) (hb : PD X E b db) (hm : behindInMarks .In b = false := by with_unfolding_all rfl) : PDT X E (.Compare a [.In] [b] pos) (dB (dOp (dInD false) da db)) := t_cmp (op_inD hu) sr_inD hm ha hb
theorem t_notInD (hu : X.A.units + 65 < cLine) (ha : PD X E a da) (hb : PD X E b db) (hm : behindInMarks .NotIn b = false := by with_unfolding_all rfl) : PDT X E (.Compare a [.NotIn] [b] pos) (dB (dOp (dInD true) da db)) := t_cmp (op_notInD hu) sr_notInD hm ha hb
end
end DL
/-! t.count(text), t[::-1], list < list, range with three arguments. -/
namespace DL
open PySem PySem.Spec PyProof.Rows L2
/-! ### t[::-1] -/
section
variable {prog : Program} {w : World} {A : Around} {E : Value → Shared → Prop} {s : Shared}
theorem sliceApplied_rev {sl : Addr} {vk : Value} {n : Nat} {Q : Int × Int × Nat → Shared → Prop} (hs : s.heap.IsSliceOf sl .none .none vk) (pk : IsPart vk (some (-1)))
    (h : Q (((n : Int) - 1), -1, n) s) : wpAny (model prog w) A (Builtin.Slice.sliceApplied (.ref sl) (pure (n : Int))) Q E s := by
  obtain ⟨os, hos, hcs, hds⟩ := id hs
  unfold Builtin.Slice.sliceApplied Builtin.Slice.sliceFields
  refine wpAny_bind (wpAny_bind (wpAny_field hos hds (x := .none) rfl (wpAny_bind (wpAny_field hos hds (x := .none) rfl (wpAny_bind (wpAny_field hos hds (x := vk) rfl (wpAny_pure ?_)))))))
  refine wpAny_bind (HT.slicePart_ pk ?_)
  show wpAny _ _ (if ((-1 : Int) == 0) = true then _ else _) _ _ s
  rw [if_neg (by decide)]
  refine wpAny_bind (HT.slicePart_ .none (wpAny_bind (HT.slicePart_ .none (wpAny_bind (wpAny_pure ?_)))))
  show wpAny _ _ (match Builtin.Slice.sliceAdjust none none (-1) (n : Int) with | (lo, hi) => pure (lo, (-1 : Int), Builtin.Slice.slicePlaces lo hi (-1))) _ _ s
  have e : Builtin.Slice.sliceAdjust none none (-1) (n : Int) = ((n : Int) - 1, -1) := rfl
  rw [e]
  show wpAny _ _ (pure ((n : Int) - 1, (-1 : Int), Builtin.Slice.slicePlaces ((n : Int) - 1) (-1) (-1))) _ _ s
  have e2 : Builtin.Slice.slicePlaces ((n : Int) - 1) (-1) (-1) = n := by
    unfold Builtin.Slice.slicePlaces
    rw [if_neg (by decide)]
    by_cases c : (n : Int) - 1 > -1
    · rw [if_pos c, show (- -1 : Int) = 1 by decide, Int.ediv_one]; omega
    · rw [if_neg c]; omega
  rw [e2]
  exact wpAny_pure h
theorem fm_congr {α β : Type} {f g : α → Option β} : ∀ {l : List α}, (∀ x ∈ l, f x = g x) → l.filterMap f = l.filterMap g
  | [], _ => rfl
  | a :: l, h => by
    rw [List.filterMap_cons, List.filterMap_cons, h a List.mem_cons_self, fm_congr fun x hx => h x (List.mem_cons_of_mem _ hx)]
theorem pick_rev (xs : Array Value) : ((List.range xs.size).filterMap fun (m : Nat) => xs[(((xs.size : Int) - 1) + (m : Int) * (-1)).toNat]?).toArray = xs.toList.reverse.toArray := by
  congr 1
  have e : (List.range xs.size).filterMap (fun (m : Nat) => xs[(((xs.size : Int) - 1) + (m : Int) * (-1)).toNat]?) = ((List.range xs.size).map (fun k => xs.size - 1 - k)).filterMap (xs[·]?) := by
    rw [List.filterMap_map]
    refine fm_congr fun m hm => ?_
    have := List.mem_range.mp hm
    show xs[(((xs.size : Int) - 1) + (m : Int) * (-1)).toNat]? = xs[xs.size - 1 - m]?
    congr 1
    omega
  rw [e, PySem.W.krv_range, List.filterMap_reverse, PySem.W.krv_all]
theorem getItem_tuple_rev {t sl : Addr} {items : Array Value} {vk : Value} {Q : Value → Shared → Prop} (ht : IsTup s.heap t items) (hs : s.heap.IsSliceOf sl .none .none vk) (pk : IsPart vk (some (-1)))
    (h : Q (.ref s.heap.objs.size) { s with heap := s.heap.push { cls := .type "tuple", data := .seq items.toList.reverse.toArray } })
    (hsz : items.size ≤ sizeLine) : wpAny (model prog w) A (getItem (.ref t) (.ref sl)) Q E s := by
  have htake : sizeOk (.seq items.toList.reverse.toArray) := by
    show items.toList.reverse.toArray.size ≤ sizeLine
    rw [List.size_toArray, List.length_reverse, Array.length_toList]
    exact hsz
  obtain ⟨os, hos, hcs, hds⟩ := id hs
  have hTs : s.TypeIs (.ref sl) "slice" := ⟨os, hos, hcs⟩
  unfold getItem
  try with_reducible refine wpAny_holding ?_
  first | refine wpAny_bind (wpAny_pure ?_) | skip
  refine wpAny_bind (wpAny_sequenceKey ht.typeIs (by decide) ?_)
  refine wpAny_bind (wpAny_callSpecial?_slot (name := Str.ofString "__getitem__") ht.typeIs PyProof.Rows.slot_tuple_getitem
    (wpAny_call_entry PyProof.Rows.slot_tuple_getitem ht.typeIs entry_tuple_getitem ?_ (args_tuple_getitem _ _)))
  show wpAny _ _ (Builtin.Tuple.tupleItemsOf (.ref t) >>= _) _ _ s
  refine wpAny_bind (tupleItemsOf_ ht ?_)
  refine wpAny_bind (wpAny_typeOf hTs ?_)
  rw [if_pos (by decide)]
  refine wpAny_bind (sliceApplied_rev hs pk ?_)
  have hno : ¬ ((((items.size : Int) - 1) == 0 && (-1 : Int) == 1 && items.size == items.size) = true) := by simp
  show wpAny _ _ (if (((items.size : Int) - 1) == 0 && (-1 : Int) == 1 && items.size == items.size) = true then _ else _) _ _ s
  rw [if_neg hno, pick_rev]
  first
    | exact wpAny_bind (m := Builtin.Tuple.tupleExact _) (wpAny_newObj_type (wpAny_pure ⟨_, rfl, wpAny_pure h⟩) htake)
    | exact wpAny_bind (m := Builtin.Tuple.tupleExact _) (wpAny_newObj_type (wpAny_bind (wpAny_pure (wpAny_pure ⟨_, rfl, wpAny_pure h⟩))) htake)
    | exact wpAny_bind (wpAny_bind (m := Builtin.Tuple.tupleExact _) (wpAny_newObj_type (wpAny_pure (wpAny_pure ⟨_, rfl, wpAny_pure h⟩)) htake))
    | exact wpAny_bind (wpAny_bind (m := Builtin.Tuple.tupleExact _) (wpAny_newObj_type (wpAny_pure ⟨_, rfl, wpAny_pure h⟩) htake))
end
section
variable {X : Cx} {E : XK} {a b e tg : Expr} {da db dc de : DE} {te : TE} {pos : Pos}
def rRev (K : PySem.W.Frag) : V → Hp → VK → Prop := fun x H Q => ∃ a xs, x = .ref a ∧ SqT K H a xs ∧ NewT H xs.reverse Q
def tRev (K : PySem.W.Frag) (te : TE) : TE := fun σ H Q => te σ H fun x H1 => rRev K x H1 Q
theorem Vals_rev : ∀ {xs : List V} {vs : List Value}, Vals xs vs → Vals xs.reverse vs.reverse
  | _, _, .nil => Paired.nil
  | _, _, .cons r h => by
    rw [List.reverse_cons, List.reverse_cons]
    exact (Vals_rev h).append (Paired.cons r Paired.nil)
theorem pe_rev {p1 p2 p3 : Pos} {j : Nat} (he : PE X e te) : PE X (.Subscript e (.Slice none none (some (.UnaryOp .USub (.Constant (.int 1) j p1) p3)) p2) pos) (tRev X.K te) := by
  refine ⟨fun pins s σ H Q I h => ?_⟩
  refine Subscript_ (thn (he.run pins s σ H _ I h) fun v s1 ⟨x, H1, I1, r1, q1⟩ => ?_)
  refine wpAny_Slice ?_
  rw [evalPart_none]
  refine wpAny_pure ?_
  refine wpAny_pure ?_
  refine thn ((po_some (pe_un un_neg (pe_int (X := X) (i := 1) (j := j) (pos := p1)) (pos := p3))).run pins s1 σ H1 (fun o H2 => o = some (-1) ∧ rRev X.K x H2 Q) I1 ?_) fun vk s3 ⟨o, H3, I3, pk, ek, q3⟩ => ?_
  · exact ⟨1, rfl, -1, rfl, rfl, q1⟩
  subst ek
  have I4 : Inv X pins σ H3 { s3 with heap := s3.heap.push { cls := .type "slice", data := .fields #[.none, .none, vk] } } := I3.kept (t' := s3.toks) fun b ob q => Heap.get?_push_of_some _ q
  obtain ⟨a, xs, rfl, hx, q2⟩ := q3
  cases r1
  obtain ⟨vs, r, ht, hz⟩ := I4.tuple hx
  have hl : vs.toArray.size = xs.length := by rw [List.size_toArray]; exact r.length.symm
  refine tail_any (ops := [.ref a, .ref s3.heap.objs.size]) ht.typeIs PyProof.Rows.slot_tuple_getitem.lookup ?_ (by with_unfolding_all rfl)
  refine getItem_tuple_rev ht (Heap.IsSliceOf.new ..) pk ?_ (by rw [hl]; exact hz)
  exact lay_tup I4 (by rw [List.length_reverse]; exact hz) (Vals_rev r) q2
def dRev (da : DE) : DE := fun δ k kx => da δ (fun d => match d with
  | .tup ds => k (.tup ds.reverse)
  | _ => False) kx
theorem se_rev {K : PySem.W.Frag} (s1 : SE K E te de) : SE K E (tRev K te) (dRev de) := fun B M σ δ H k kx Q rp h hq hx => s1 B M σ δ H _ kx _ rp h (fun v x H1 t1 r1 q1 => by
  cases x <;> try exact q1.elim
  rename_i ds
  obtain ⟨a, xs, rfl, e2, e3⟩ := r1
  refine ⟨a, xs, rfl, SqD.un e2, fun p ob hp hob => ?_⟩
  have ok := t1.ok rp.ok
  have t4 : Stp K B M H1 (upd H1 p (.frz ob (.tup xs.reverse))) := .new ok hp
  exact hq _ (.tup ds.reverse) _ (t1.trans t4) ⟨p, _, rfl, new_tup ok hp hob, RDs.ex t4.ex _ _ (RDs.rev e3)⟩ q1) hx
theorem d_rev {p1 p2 p3 : Pos} {j : Nat} : PD X E e de → PD X E (.Subscript e (.Slice none none (some (.UnaryOp .USub (.Constant (.int 1) j p1) p3)) p2) pos) (dRev de)
  | ⟨_, h, s⟩ => ⟨_, pe_rev h, se_rev s⟩
/-! ### t.count(x) -/
def cntS (t : Str) (ss : List Str) : Nat := ss.countP (fun s => s.cps.toList == t.cps.toList)
@[irreducible] def dCnt : DR := fun x y k => match x, y with
  | .tup ds, .str t => ∃ ss : List Str, ds = ss.map D.str ∧ k (.int (cntS t ss : Nat))
  | _, _ => False
theorem RDs.of_strs {K : PySem.W.Frag} {B : Option Addr} {G : Hp} : ∀ (ns : List Str) (xs : List V), RDs K B G (ns.map D.str) xs → xs = ns.map V.str
  | [], _, h => h
  | n :: ns, _, ⟨y, ys, e1, e2, e3⟩ => by
    rw [e1, show y = V.str n from e2, RDs.of_strs ns ys e3]; rfl
theorem SqD.unN {K : PySem.W.Frag} {M : List Addr} {H : Hp} {a : Addr} {xs : List V} (h : SqD K (hid M H) a xs) : SqD K H a xs := SqD.ex (hid_ex M H) h
theorem se_cnt {K : PySem.W.Frag} {ta tb : TE} (s1 : SE K E ta da) (s2 : SE K E tb db) (hn : ∀ δ k kx, db δ k kx → ∃ t, k (.str t)) : SE K E (tMG (tyTup K) (rCntS K) ta (tCons tb tNil)) (dOp dCnt da db) := fun B M σ δ H k kx Q rp h hq hx => s1 B M σ δ H _ kx _ rp h (fun v x H1 t1 r1 q1 => by
  unfold dCnt at q1
  cases x with
  | tup ds =>
    obtain ⟨a, xs, rfl, e2, e3⟩ := r1
    refine ⟨⟨a, xs, rfl, e2.unN.1, e2.unN.2⟩, ?_⟩
    refine s2 B M σ δ H1 _ kx _ (rp.stp t1) q1 (fun w y H2 t2 r2 q2 => ?_) (fun C H2 t2 q2 => hx C H2 (t1.trans t2) q2)
    cases y <;> try exact q2.elim
    rename_i t
    obtain ⟨ss, rfl, q2⟩ := q2
    have e := RDs.of_strs ss xs e3
    subst e
    exact ⟨a, ss, t, rfl, by rw [show w = .str t from r2], SqD.un (SqD.ex t2.ex e2), hq _ (.int (cntS t ss : Nat)) H2 (t1.trans t2) rfl q2⟩
  | _ => exact (hn _ _ _ q1).elim fun _ q => q.elim) hx
theorem d_cnt {t : Str} {j : Nat} {p apos : Pos} (ha : PD X E a da) (hbase : attributeBase a "count" X.env (eval a X.env) = eval a X.env := by rfl)
    (hfew : ((backTo pos (starEach [.Constant (.str t) j p] X.env)).all (fun x => !x.1) && (backToKw pos (keywordEach [] X.env)).all (fun x => x.1.isSome)
      && decide (([.Constant (.str t) j p] : List Expr).length + ([] : List Keyword).length + (if ([] : List Keyword).isEmpty then 0 else 1) < 30)) = true := by rfl)
    (hline : (apos.endLine == pos.line) = true := by rfl) (hs : starEach [.Constant (.str t) j p] X.env = (false, eval (.Constant (.str t) j p) X.env) :: starEach [] X.env := by rfl) (hplain : (backTo pos (starEach [] X.env)).any (·.1) = false := by rfl) :
    PD X E (.Call (.Attribute a "count" apos) [.Constant (.str t) j p] [] pos) (dOp dCnt da (dC (.str t))) := by
  obtain ⟨_, h1, s1⟩ := ha
  exact ⟨_, pe_mG ty_tup PySem.F.plainAttrs_tuple PySem.F.slot_tuple_count PySem.F.type_tuple_count mt_tcount h1 (pa_cons pe_str pa_nil hs) hbase hfew hline hs hplain, se_cnt s1 se_str (fun _ _ _ h => ⟨_, h⟩)⟩
/-! ### list < list -/
def rLtD (K : PySem.W.Frag) : R2 := fun x y H Q => ∃ d e, Dp K H x (.list d) ∧ Dp K H y (.list e) ∧ PySem.W.alikeAll d e = true ∧ PyData.depth (.list d) ≤ 64 ∧ Q (.bl (PySem.W.dataLt (.list d) (.list e))) H
theorem op_ltD (hu : X.A.units + 64 < cLine) : OpR X (compareOp .Lt) (rLtD X.K) := by
  intro pins s σ H x y v u Q I rx ry h
  obtain ⟨d, e, hd, he, al, dp, q⟩ := h
  obtain ⟨as, r1⟩ := Dp.reads I (.list d) x v hd rx
  obtain ⟨bs, r2⟩ := Dp.reads I (.list e) y u he ry
  refine PySem.W.rcLt_alike (.list d) (.list e) X.A s v u as bs r1 r2 (by rw [PySem.W.alike]; exact al) (fun z => nomatch z) ?_ _ _ _ _ ⟨.bl _, H, I, rfl, q⟩
  have : min (PyData.depth (.list d)) (PyData.depth (.list e)) ≤ 64 := Nat.le_trans (Nat.min_le_left _ _) dp
  omega
/-- lists of truths: the first that differ -/
def ltBs : List Bool → List Bool → Bool
  | [], [] => false
  | [], _ :: _ => true
  | _ :: _, [] => false
  | a :: as, b :: bs => if a = b then ltBs as bs else !a
@[irreducible] def dLtB : DR := fun x y k => ∃ as bs : List Bool, x = .lst (as.map D.bl) ∧ y = .lst (bs.map D.bl) ∧ k (.bl (ltBs as bs))
theorem alike_bls : ∀ (as bs : List Bool), PySem.W.alikeAll (pys (as.map D.bl)) (pys (bs.map D.bl)) = true
  | [], [] => by simp [pys, PySem.W.alikeAll]
  | [], _ :: _ => by simp [pys, PySem.W.alikeAll]
  | _ :: _, [] => by simp [pys, PySem.W.alikeAll]
  | a :: as, b :: bs => by
    have := alike_bls as bs
    simp [pys, PySem.W.alikeAll, D.py, PySem.W.alike, this]
theorem lt_bls : ∀ (as bs : List Bool), PyProof.Rows.lexLt itemOrd (PySem.W.keyToksAll (pys (as.map D.bl))) (PySem.W.keyToksAll (pys (bs.map D.bl))) = ltBs as bs
  | [], [] => by decide +kernel
  | [], b :: bs => by
    show PyProof.Rows.lexLt itemOrd (PySem.W.keyToksAll []) (PySem.W.keyToksAll ((D.bl b).py :: pys (bs.map D.bl))) = true
    rw [PySem.W.toks_all_cons, show PySem.W.keyToksAll [] = [Sum.inl 0] by simp [PySem.W.keyToksAll], PySem.W.lex_atom (by simp), PySem.W.lex_one]; decide
  | a :: as, [] => by
    show PyProof.Rows.lexLt itemOrd (PySem.W.keyToksAll ((D.bl a).py :: pys (as.map D.bl))) (PySem.W.keyToksAll []) = false
    rw [PySem.W.toks_all_cons, show PySem.W.keyToksAll [] = [Sum.inl 0] by simp [PySem.W.keyToksAll], PySem.W.lex_atom (by simp), PySem.W.lex_one]; decide
  | a :: as, b :: bs => by
    have ih := lt_bls as bs
    show PyProof.Rows.lexLt itemOrd (PySem.W.keyToksAll ((PyData.bool a) :: pys (as.map D.bl))) (PySem.W.keyToksAll ((PyData.bool b) :: pys (bs.map D.bl))) = if a = b then ltBs as bs else !a
    have al : PySem.W.alike (.bool a) (.bool b) = true := by simp [PySem.W.alike]
    by_cases c : a = b
    · rw [if_pos c, PySem.W.dataLt_all_yes al (by simp [PyData.eqv, c]), ih]
    · rw [if_neg c, PySem.W.dataLt_all_no al (by cases a <;> cases b <;> simp_all [PyData.eqv]), PySem.W.dataLt_bool]
      cases a <;> cases b <;> first | (exact absurd rfl c) | rfl
theorem bls_plain (bs : List Bool) : plains (bs.map D.bl) = true := by
  induction bs with
  | nil => rfl
  | cons b bs ih => simp [plains, D.plain, ih]
theorem bls_depth (bs : List Bool) : PyData.depthAll (pys (bs.map D.bl)) = 0 := by
  induction bs with
  | nil => simp [pys, PyData.depthAll]
  | cons b bs ih => simp [pys, PyData.depthAll, D.py, PyData.depth, ih]
theorem sr_ltB {K : PySem.W.Frag} : SR K (rLtD K) dLtB := fun B M H x y v w k Q ok hx hy hd hq => by
  unfold dLtB at hd
  obtain ⟨as, bs, rfl, rfl, q⟩ := hd
  refine ⟨pys (as.map D.bl), pys (bs.map D.bl), RD.dp (.lst (as.map D.bl)) v (bls_plain as) hx, RD.dp (.lst (bs.map D.bl)) w (bls_plain bs) hy, alike_bls as bs, ?_, hq _ (.bl (ltBs as bs)) H .refl ?_ q⟩
  · simp only [PyData.depth, bls_depth]; decide
  · rw [PySem.W.dataLt_list, lt_bls]; exact rfl
theorem ltB_of {as bs : List Bool} {k : D → Prop} (h : k (.bl (ltBs as bs))) : dLtB (.lst (as.map D.bl)) (.lst (bs.map D.bl)) k := by
  unfold dLtB
  exact ⟨as, bs, rfl, rfl, h⟩
theorem d_ltB (hu : X.A.units + 64 < cLine) (ha : PD X E a da) (hb : PD X E b db) : PD X E (.Compare a [.Lt] [b] pos) (dOp dLtB da db) := d_cmp (op_ltD hu) sr_ltB (nomark _) ha hb
theorem t_ltB (hu : X.A.units + 64 < cLine) (ha : PD X E a da) (hb : PD X E b db) : PDT X E (.Compare a [.Lt] [b] pos) (dB (dOp dLtB da db)) := t_cmp (op_ltD hu) sr_ltB (nomark _) ha hb
/-! ### range(a, b, -1) -/
def dnD (hi : Int) (n : Nat) : List D := (List.range n).map fun (i : Nat) => D.int (hi + (i : Int) * (-1))
def dItR3 (da db dc : DE) : DI := fun δ k kx => da δ (fun d => db δ (fun e => dc δ (fun f => match d, e, f with
  | .int i, .int j, .int c => (c = -1 ∧ -(2 ^ 62) ≤ i ∧ i < 2 ^ 62 ∧ -(2 ^ 62) ≤ j ∧ j < 2 ^ 62) ∧ k (dnD i (i - j).toNat)
  | _, _, _ => False) kx) kx) kx
theorem walks_dn {K : PySem.W.Frag} {B : Option Addr} {G : Hp} {hi : Int} {n : Nat} : Walks K B G (Itc hi (-1) n) (dnD hi n) := by
  intro M H ex ok
  refine ⟨fun i d hd => ?_, by show n ≤ _; unfold dnD; rw [List.length_map, List.length_range]; exact Nat.le_refl _⟩
  unfold dnD at hd
  rw [List.getElem?_map] at hd
  cases q : (List.range n)[i]? with
  | none => rw [q] at hd; cases hd
  | some j =>
    rw [q] at hd
    have hlt : i < n := by
      have := (List.getElem?_eq_some_iff.mp q).1
      rwa [List.length_range] at this
    have hj : j = i := by
      rw [List.getElem?_range hlt] at q
      exact (Option.some.inj q).symm
    subst hj
    cases hd
    exact ⟨hlt, fun y H' hy => by obtain ⟨rfl, rfl⟩ := hy; exact ⟨fun _ _ h => h, rfl⟩⟩
theorem i_rng3 {c : Expr} {p : Pos} (hm : X.mg "range" = none) (ha : PD X E a da) (hb : PD X E b db) (hc : PD X E c dc) (hg : Gl X "range" := by rfl)
    (hs : starEach [a, b, c] X.env = (false, eval a X.env) :: starEach [b, c] X.env := by rfl) (hpl : (backTo pos (starEach [b, c] X.env)).any (·.1) = false := by rfl)
    (he2 : starEach [b, c] X.env = (false, eval b X.env) :: starEach [c] X.env := by rfl) (he3 : starEach [c] X.env = (false, eval c X.env) :: starEach [] X.env := by rfl) :
    PDI X E tg (.Call (.Name "range" p) [a, b, c] [] pos) (dItR3 da db dc) := by
  obtain ⟨ta, p1, s1⟩ := ha
  obtain ⟨tb, p2, s2⟩ := hb
  obtain ⟨tc, p3, s3⟩ := hc
  refine ⟨_, pi_range3 hg hm (pa_cons p1 (pa_cons p2 (pa_cons p3 pa_nil he3) he2) hs) hs hpl, fun B M σ δ H k kx R rp h hq hx => s1 B M σ δ H _ kx _ rp h (fun v d H1 t1 r1 q1 => ?_) hx⟩
  refine s2 B M σ δ H1 _ kx _ (rp.stp t1) q1 (fun w e H2 t2 r2 q2 => ?_) (fun C H2 t2 q2 => hx C H2 (t1.trans t2) q2)
  refine s3 B M σ δ H2 _ kx _ ((rp.stp t1).stp t2) q2 (fun u f H3 t3 r3 q3 => ?_) (fun C H3 t3 q3 => hx C H3 ((t1.trans t2).trans t3) q3)
  cases d <;> try exact q3.elim
  cases e <;> try exact q3.elim
  cases f <;> try exact q3.elim
  rename_i i j c
  obtain ⟨⟨rfl, h1, h2, h3, h4⟩, q3⟩ := q3
  exact ⟨i, j, -1, (i - j).toNat, by rw [show v = .int i from r1, show w = .int j from r2, show u = .int (-1) from r3], RgC.neg h1 h2 h3 h4, hq _ _ H3 ((t1.trans t2).trans t3) walks_dn q3⟩
end
end DL
/-! Loops whose target takes apart what is walked (zip, enumerate); objects with fields, read. -/
namespace DL
open PySem PySem.Spec PyProof.Rows L2
/-- J gives these items to the target g -/
def WalksG (K : PySem.W.Frag) (B : Option Addr) (G : Hp) (J : It) (g : TG) (items : List D) (dg : DG) : Prop := ∀ M H, Ex G (hid M H) → Ok K B M H →
  (∀ i d, items[i]? = some d → J.go i H ∧ ∀ y H', J.yld i H y H' → Ex H H' ∧ ∀ σ δ (k : Dst → Prop) (Q : L2.St → Hp → Prop), Rep K B M H' σ δ → dg d δ k → (∀ σ' δ', Rep K B M H' σ' δ' → k δ' → Q σ' H') → g y σ H' Q) ∧ J.stop items.length H
def SIG (K : PySem.W.Frag) (E : XK) (wi : TI) (g : TG) (di : DI) (dg : DG) : Prop := ∀ B M σ δ H k kx (R : It → Hp → Prop), Rep K B M H σ δ → di δ k kx →
  (∀ J items H2, Stp K B M H H2 → WalksG K B (hid M H2) J g items dg → k items → R J H2) → (∀ C H2, Stp K B M H H2 → kx C → E (.ref C) none H2) → wi σ H R
def PDIG (X : Cx) (E : XK) (tg e : Expr) (di : DI) (dg : DG) : Prop := ∃ wi g, PI X tg e wi ∧ PG X tg g ∧ SIG X.K E wi g di dg
section
variable {X : Cx} {E : XK} {a b c e tg : Expr} {es : List Expr} {da db dc de : DE} {das : DA} {pos : Pos} {s1 : DS} {o1 : OS}
theorem s_forG {iter : Expr} {body : List Stmt} {di : DI} {g : DG} (hp : PassesOwn (model X.prog X.w) X.A X.env X.xe) (hc : X.calm = true) (hi : PDIG X E tg iter di g) (hb : PDB X E body s1)
    (hs : ∀ x, foldedSetIterable iter X.env x = pure x := by intro _; rfl) : PDS X E (.For tg iter body [] pos) (dFor di g s1) := by
  obtain ⟨wi, tg', p1, p2, q1⟩ := hi
  obtain ⟨tb, p3, q3⟩ := hb
  refine ⟨_, ps_for hp hc p1 p2 p3 hs, fun B M σ δ H D0 D1 rp h l => q1 B M σ δ H _ _ _ rp h (fun J items H1 t1 wk hk => ?_) l.ex⟩
  obtain ⟨Pv, h0, hst, hd⟩ := hk
  refine ⟨fun i m σ' H' => i + m = items.length ∧ Stp X.K B M H1 H' ∧ ∃ δ', Rep X.K B M H' σ' δ' ∧ Pv i δ', ⟨items.length, by omega, .refl, δ, rp.stp t1, h0⟩, fun i m σ' H' hW => ?_⟩
  obtain ⟨em, t2, δ', rp', hpv⟩ := hW
  obtain ⟨go, stop⟩ := wk M H' t2.ex rp'.ok
  by_cases c : i = items.length
  · subst c
    exact .inl ⟨stop, l.nx _ _ H' (t1.trans t2) rp' (hd _ hpv)⟩
  · have hi : i < items.length := by omega
    obtain ⟨hg, hy⟩ := go i _ (List.getElem?_eq_getElem hi)
    refine .inr ⟨hg, fun σ2 H2 => Stp X.K B M H1 H2 ∧ ∃ δ2, Rep X.K B M H2 σ2 δ2 ∧ Pv (i + 1) δ2, fun σ2 H2 hN => ⟨m - 1, by omega, by omega, hN⟩, fun x H2 hyl => ?_⟩
    obtain ⟨ex2, rx⟩ := hy x H2 hyl
    have t3 : Stp X.K B M H' H2 := .same ex2 rp'.ok
    refine rx σ' δ' _ _ (rp'.stp t3) (hst i _ δ' (List.getElem?_eq_getElem hi) hpv) (fun σ3 δ3 rp3 h3 => ?_)
    refine q3 B M σ3 δ3 H2 _ _ rp3 h3 ⟨fun σ4 δ4 H4 t4 rp4 h4 => ⟨(t2.trans t3).trans t4, δ4, rp4, h4⟩, fun v d H4 t4 r4 h4 => l.rt v d H4 (((t1.trans t2).trans t3).trans t4) r4 h4,
      fun C H4 t4 h4 => l.ex C H4 (((t1.trans t2).trans t3).trans t4) h4, fun σ4 δ4 H4 t4 rp4 h4 => l.nx σ4 δ4 H4 (((t1.trans t2).trans t3).trans t4) rp4 h4, fun σ4 δ4 H4 t4 rp4 h4 => ⟨(t2.trans t3).trans t4, δ4, rp4, h4⟩⟩
theorem RD.lstS {K : PySem.W.Frag} {B : Option Addr} {M : List Addr} {H : Hp} {ds : List D} {v : V} (h : RD K B (hid M H) (.lst ds) v) : ∃ p xs, v = .ref p ∧ hid M H p = some (.lst xs) ∧ RDs K B (hid M H) ds xs := h
/-- a new pair is taken apart -/
theorem two_apart {K : PySem.W.Frag} {B : Option Addr} {M : List Addr} {H H' : Hp} {T : Addr} {x y : V} {d e : D} {g1 g2 : TG} {dg1 dg2 : DG} (s1 : SG K g1 dg1) (s2 : SG K g2 dg2) (ok : Ok K B M H) (hT : H T = none) (eH : H' = upd H T (.tup [x, y])) (rx : RD K B (hid M H) d x) (ry : RD K B (hid M H) e y)
    (σ : L2.St) (δ : Dst) (k : Dst → Prop) (Q : L2.St → Hp → Prop) (rp : Rep K B M H' σ δ) (h : gTp 2 (gCn dg1 (gCn dg2 gNl)) (.tup [d, e]) δ k) (hq : ∀ σ' δ', Rep K B M H' σ' δ' → k δ' → Q σ' H') : gTup K 2 (gCons g1 (gCons g2 gNil)) (.ref T) σ H' Q := by
  subst eH
  have t : Stp K B M H (upd H T (.tup [x, y])) := .new ok hT
  have hS : SqT K (upd H T (.tup [x, y])) T [x, y] := .inl (.inl upd_same)
  obtain ⟨_, h⟩ := h
  refine ⟨T, [x, y], rfl, hS, rfl, x, [y], rfl, ?_⟩
  refine s1 B M σ δ _ x d _ _ rp (RD.ex t.ex _ _ rx) h (fun σ2 δ2 rp2 h2 => ⟨y, [], rfl, ?_⟩)
  exact s2 B M σ2 δ2 _ y e _ _ rp2 (RD.ex t.ex _ _ ry) h2 (fun σ3 δ3 rp3 h3 => ⟨rfl, hq _ _ rp3 h3⟩)
def zipD (ds es : List D) : List D := (ds.zip es).map fun p => .tup [p.1, p.2]
theorem zipD_get {ds es : List D} {i : Nat} {z : D} (h : (zipD ds es)[i]? = some z) : ∃ d e, ds[i]? = some d ∧ es[i]? = some e ∧ z = .tup [d, e] := by
  unfold zipD at h
  rw [List.getElem?_map] at h
  cases q : (ds.zip es)[i]? with
  | none => rw [q] at h; cases h
  | some p =>
    rw [q] at h
    obtain ⟨d, e⟩ := p
    obtain ⟨h1, h2⟩ := List.getElem?_zip_eq_some.mp q
    exact ⟨d, e, h1, h2, (Option.some.inj h).symm⟩
def dItZ (da db : DE) : DI := fun δ k kx => da δ (fun d => db δ (fun e => match d, e with
  | .lst ds, .lst es => k (zipD ds es)
  | _, _ => False) kx) kx
theorem i_zip {t1 t2 : Expr} {p tpos : Pos} {kk : Nat} {dg1 dg2 : DG} (hm : X.mg "zip" = none) (hc : X.calm = true) (ha : PD X E a da) (hb : PD X E b db) (g1 : PDG X t1 dg1) (g2 : PDG X t2 dg2) (hg : Gl X "zip" := by rfl)
    (hs : starEach [a, b] X.env = (false, eval a X.env) :: starEach [b] X.env := by rfl) (hpl : (backTo pos (starEach [b] X.env)).any (·.1) = false := by rfl) (he2 : starEach [b] X.env = (false, eval b X.env) :: starEach [] X.env := by rfl)
    (hn : (assignEach [t1, t2] X.env).length = 2 := by rfl) (hst : (assignEach [t1, t2] X.env).findIdx? (·.1) = none := by rfl) (hs1 : (assignEach [t1, t2] X.env).map (·.2) = assign t1 X.env :: (assignEach [t2] X.env).map (·.2) := by rfl) (hs2 : (assignEach [t2] X.env).map (·.2) = assign t2 X.env :: (assignEach [] X.env).map (·.2) := by rfl) :
    PDIG X E (.Tuple [t1, t2] kk tpos) (.Call (.Name "zip" p) [a, b] [] pos) (dItZ da db) (gTp 2 (gCn dg1 (gCn dg2 gNl))) := by
  obtain ⟨ta, p1, s1⟩ := ha
  obtain ⟨tb, p2, s2⟩ := hb
  obtain ⟨tg1, pg1, sg1⟩ := g1
  obtain ⟨tg2, pg2, sg2⟩ := g2
  refine ⟨_, _, pi_zip hg hm (pa_cons p1 (pa_cons p2 pa_nil he2) hs) hs hpl, pg_tup hc (pgs_cons pg1 (pgs_cons pg2 pgs_nil hs2) hs1) hn hst, fun B M σ δ H k kx R rp h hq hx => s1 B M σ δ H _ kx _ rp h (fun v d H1 t1 r1 q1 => ?_) hx⟩
  refine s2 B M σ δ H1 _ kx _ (rp.stp t1) q1 (fun w e H2 t2 r2 q2 => ?_) (fun C H2 t2 q2 => hx C H2 (t1.trans t2) q2)
  cases d <;> try exact q2.elim
  cases e <;> try exact q2.elim
  rename_i ds es
  obtain ⟨pa, xs, rfl, ea, ra⟩ := RD.ex t2.ex _ _ r1
  obtain ⟨pb, ys, rfl, eb, rb⟩ := r2
  refine ⟨pa, pb, xs, ys, rfl, SqL.of (hid_of ea).2, SqL.of (hid_of eb).2, hq _ _ H2 (t1.trans t2) (fun M' H' ex ok => ?_) q2⟩
  have ha' : SqL X.K H' pa xs := SqL.of (hid_of (ex _ _ ea)).2
  have hb' : SqL X.K H' pb ys := SqL.of (hid_of (ex _ _ eb)).2
  refine ⟨fun i z hz => ?_, ?_⟩
  · obtain ⟨d, e, hd, he, rfl⟩ := zipD_get hz
    obtain ⟨x, hx1, hx2⟩ := RDs.gt ra hd
    obtain ⟨y, hy1, hy2⟩ := RDs.gt rb he
    refine ⟨⟨xs, ys, x, y, ha', hb', hx1, hy1⟩, fun u H'' hy => ?_⟩
    obtain ⟨T, x', y', rfl, hT, eH, fx, fy⟩ := hy
    have e1 := fx xs ha'
    have e2 := fy ys hb'
    rw [hx1] at e1
    rw [hy1] at e2
    cases e1
    cases e2
    refine ⟨by rw [eH]; exact Evl.Ex.new hT, fun σ3 δ3 k3 Q3 rp3 h3 hq3 => ?_⟩
    exact two_apart sg1 sg2 ok hT eH (RD.ex ex _ _ hx2) (RD.ex ex _ _ hy2) σ3 δ3 k3 Q3 rp3 h3 hq3
  · refine ⟨xs, ys, ha', hb', ?_⟩
    unfold zipD
    rw [List.length_map, List.length_zip, ← RDs.len ra, ← RDs.len rb]
    omega
def enD (ds : List D) : List D := ds.mapIdx fun i d => .tup [.int (i : Nat), d]
def dItE (da : DE) : DI := fun δ k kx => da δ (fun d => match d with
  | .lst ds => k (enD ds)
  | _ => False) kx
theorem i_enum {t1 t2 : Expr} {p tpos : Pos} {kk : Nat} {dg1 dg2 : DG} (hm : X.mg "enumerate" = none) (hc : X.calm = true) (ha : PD X E a da) (g1 : PDG X t1 dg1) (g2 : PDG X t2 dg2) (hg : Gl X "enumerate" := by rfl)
    (hs : starEach [a] X.env = [(false, eval a X.env)] := by rfl) (he : starEach [a] X.env = (false, eval a X.env) :: starEach [] X.env := by rfl)
    (hn : (assignEach [t1, t2] X.env).length = 2 := by rfl) (hst : (assignEach [t1, t2] X.env).findIdx? (·.1) = none := by rfl) (hs1 : (assignEach [t1, t2] X.env).map (·.2) = assign t1 X.env :: (assignEach [t2] X.env).map (·.2) := by rfl) (hs2 : (assignEach [t2] X.env).map (·.2) = assign t2 X.env :: (assignEach [] X.env).map (·.2) := by rfl) :
    PDIG X E (.Tuple [t1, t2] kk tpos) (.Call (.Name "enumerate" p) [a] [] pos) (dItE da) (gTp 2 (gCn dg1 (gCn dg2 gNl))) := by
  obtain ⟨ta, p1, s1⟩ := ha
  obtain ⟨tg1, pg1, sg1⟩ := g1
  obtain ⟨tg2, pg2, sg2⟩ := g2
  refine ⟨_, _, pi_enum hg hm (pa_cons p1 pa_nil he) hs, pg_tup hc (pgs_cons pg1 (pgs_cons pg2 pgs_nil hs2) hs1) hn hst, fun B M σ δ H k kx R rp h hq hx => s1 B M σ δ H _ kx _ rp h (fun v d H1 t1 r1 q1 => ?_) hx⟩
  cases d <;> try exact q1.elim
  rename_i ds
  obtain ⟨pa, xs, rfl, ea, ra⟩ := r1
  refine ⟨pa, xs, rfl, SqL.of (hid_of ea).2, hq _ _ H1 t1 (fun M' H' ex ok => ?_) q1⟩
  have ha' : SqL X.K H' pa xs := SqL.of (hid_of (ex _ _ ea)).2
  refine ⟨fun i z hz => ?_, xs, ha', by unfold enD; rw [List.length_mapIdx, RDs.len ra]; exact Nat.le_refl _⟩
  unfold enD at hz
  rw [List.getElem?_mapIdx] at hz
  cases q : ds[i]? with
  | none => rw [q] at hz; cases hz
  | some d =>
    rw [q] at hz
    obtain rfl := (Option.some.inj hz).symm
    obtain ⟨x, hx1, hx2⟩ := RDs.gt ra q
    refine ⟨⟨xs, x, ha', hx1⟩, fun u H'' hy => ?_⟩
    obtain ⟨T, x', rfl, hT, eH, fx⟩ := hy
    have e1 := fx xs ha'
    rw [hx1] at e1
    cases e1
    refine ⟨by rw [eH]; exact Evl.Ex.new hT, fun σ3 δ3 k3 Q3 rp3 h3 hq3 => ?_⟩
    exact two_apart (d := .int (i : Nat)) sg1 sg2 ok hT eH rfl (RD.ex ex _ _ hx2) σ3 δ3 k3 Q3 rp3 h3 hq3
/-! ### fields -/
theorem zip_lookup {K : PySem.W.Frag} {B : Option Addr} {G : Hp} {f : Str} {d : D} : ∀ {fs : List Str} {ds : List D} {xs : List V}, RDs K B G ds xs → (fs.zip ds).lookup f = some d → ∃ v, (fs.zip xs).lookup f = some v ∧ RD K B G d v
  | [], _, _, _, h => by cases h
  | _ :: _, [], _, _, h => by cases h
  | g :: fs, e :: ds, _, ⟨y, ys, rfl, r1, r2⟩, h => by
    rw [List.zip_cons_cons, List.lookup_cons] at h ⊢
    cases q : (f == g) with
    | true =>
      rw [q] at h
      obtain rfl := Option.some.inj h
      exact ⟨y, rfl, r1⟩
    | false =>
      rw [q] at h
      exact zip_lookup r2 h
theorem zip_none {f : Str} : ∀ {fs : List Str} {xs : List V}, f ∉ fs → (fs.zip xs).lookup f = none
  | [], _, _ => rfl
  | _ :: _, [], _ => rfl
  | g :: fs, x :: xs, h => by
    rw [List.zip_cons_cons, List.lookup_cons, show (f == g) = false from beq_eq_false_iff_ne.mpr fun e => h (by rw [e]; exact List.mem_cons_self)]
    exact zip_none fun m => h (List.mem_cons_of_mem _ m)
def dFld (C : Addr) (f : Str) (da : DE) : DE := fun δ k kx => da δ (fun d => match d with
  | .ins C' fs ds => C' = C ∧ ∃ e, (fs.zip ds).lookup f = some e ∧ k e
  | _ => False) kx
theorem d_fld {C : Addr} {f : Str} (hc : Cls X.K C) (hn : NoAttr X.K C f) (ha : PD X E a da) (hb : attributeBase a f X.env (eval a X.env) = eval a X.env := by rfl) : PD X E (.Attribute a f pos) (dFld C f da) :=
  match ha with
  | ⟨_, h1, s1⟩ => ⟨_, pe_fld h1 hb, fun B M σ δ H k kx Q rp h hq hx => s1 B M σ δ H _ kx _ rp h (fun v d H1 t1 r1 q1 => by
      cases d <;> try exact q1.elim
      rename_i C' fs ds
      obtain ⟨rfl, e, hl, q1⟩ := q1
      obtain ⟨p, dx, xs, rfl, h2, h3⟩ := r1
      obtain ⟨u, h4, h5⟩ := zip_lookup h3 hl
      exact ⟨p, C', dx, _, u, rfl, (hid_of h2).2, hc, hn, h4, hq u e H1 t1 h5 q1⟩) hx⟩
/-- a method that only reads -/
def DefM (P : Program) (w : World) (K : PySem.W.Frag) (mg : Str → Option Value) (base : Heap) (k : Nat) (C : Addr) (m : Str) (ps : List Str) (dsp : DSp) : Prop :=
  ∃ f fd, FnOk P w K mg base (L2.CX P w) k f fd ps (spD K dsp) ∧ Meth K C m f ∧ Binds K fd ps []
theorem defM_mk {P : Program} {w : World} {K : PySem.W.Frag} {mg : Str → Option Value} {base : Heap} {C f : Addr} {fd : FuncData} {m qual : Str} {st : Stmt} {N ps : List Str} {k : Nat} {dsp : DSp} (F : Fun K m qual st f fd) (hM : Meth K C m f) (S : FnScope N ps (defScope st))
    (hb : ∀ (kV doc pm : Value) (an : Option Addr) (cdv ct : Value) (us : List Value), us.length = ps.length → bindArgs (PySem.W.fnOf m qual (defArgs st) (defBody st) (defScope st) .none kV doc pm an cdv ct) ⟨us, []⟩ = pure (ps.zip us))
    (hlen : ∀ ds k kx, dsp ds k kx → ds.length = ps.length)
    (hbody : ∀ (cdv : Value) (A : Around) (outer : List Env) (s : Shared) (H : Hp) (E : XK), Room k (A.deeper (envOfC qual (defScope st) s.heap.objs.size f cdv)) →
      ∃ t, PDB (cxOf (L2.CX P w) P w K mg base N qual (defScope st) f cdv A outer s H E) E (defBody st) t ∧ ∀ ds k kx, dsp ds k kx → t { nx := fun _ => k .non, rt := k, ex := kx } (dstart N ds)) :
    DefM P w K mg base (k + 1) C m ps dsp := ⟨f, fd, fn_D F S hlen hbody, hM, F.binds hb⟩
def dMeth0 (C : Addr) (m : Str) (dsp : DSp) (da : DE) : DE := fun δ k kx => da δ (fun d => match d with
  | .ins C' fs ds => C' = C ∧ m ∉ fs ∧ dsp [.ins C' fs ds] k kx
  | _ => False) kx
theorem d_meth0 {C : Addr} {m : Str} {k j : Nat} {ps : List Str} {dsp : DSp} {apos : Pos} {pl : Sem Bool} (hx0 : Passes (CXL X) X E) (hr : Room j X.A) (hc : Cls X.K C) (F : DefM X.prog X.w X.K X.mg X.base k C m ps dsp) (ha : PD X E a da) (hkj : k ≤ j := by decide)
    (ht : eval (.Call (.Attribute a m apos) [] [] pos) X.env = (do
      let ov ← eval a X.env
      standAt apos.atName
      let (f, first) ← holding [ov] (getMethod ov m pl)
      callWith pos f first (backTo pos (starEach [] X.env)) (backToKw pos (keywordEach [] X.env))) := by rfl) : PD X E (.Call (.Attribute a m apos) [] [] pos) (dMeth0 C m dsp da) := by
    obtain ⟨_, h1, s1⟩ := ha
    obtain ⟨f, fd, F, hM, hB⟩ := F
    refine ⟨_, pe_meth0 (pl := pl) h1 hc hM F (hr.mono hkj) hB .nil hx0 ht, fun B M σ δ H k kx Q rp h hq hx => s1 B M σ δ H _ kx _ rp h (fun v d H1 t1 r1 q1 => ?_) hx⟩
    cases d <;> try exact q1.elim
    rename_i C' fs ds
    obtain ⟨rfl, hm, q1⟩ := q1
    obtain ⟨p, dx, xs, rfl, h2, h3⟩ := id r1
    refine ⟨p, dx, _, rfl, (hid_of h2).2, zip_none hm, ?_⟩
    exact ⟨B, M, [.ins C' fs ds], k, kx, t1.ok rp.ok, ⟨_, _, rfl, r1, rfl⟩, q1, fun v d H2 t2 r2 q2 => hq v d H2 (t1.trans t2) r2 q2, fun C H2 t2 q2 => hx C H2 (t1.trans t2) q2⟩
end
/-! ### x is True -/
def dIsB (neg : Bool) : DR := fun x y k => match x, y with
  | .bl a, .bl b => k (.bl (if neg then !decide (a = b) else decide (a = b)))
  | _, _ => False
theorem sr_isB {K : PySem.W.Frag} : SR K rIsB (dIsB false) := by
  intro B M H x y v w k Q ok hx hy hd hq
  cases x <;> try exact hd.elim
  cases y <;> try exact hd.elim
  rename_i i j
  exact ⟨i, j, hx, hy, hq _ (.bl (decide (i = j))) H .refl rfl hd⟩
theorem sr_isnotB {K : PySem.W.Frag} : SR K rNotB (dIsB true) := by
  intro B M H x y v w k Q ok hx hy hd hq
  cases x <;> try exact hd.elim
  cases y <;> try exact hd.elim
  rename_i i j
  exact ⟨i, j, hx, hy, hq _ (.bl (!decide (i = j))) H .refl rfl hd⟩
section
variable {X : Cx} {E : XK} {a b : Expr} {da db : DE} {pos : Pos}
theorem d_isB (ha : PD X E a da) (hb : PD X E b db) : PD X E (.Compare a [.Is] [b] pos) (dOp (dIsB false) da db) := d_cmp op_isBl sr_isB (nomark _) ha hb
theorem d_isnotB (ha : PD X E a da) (hb : PD X E b db) : PD X E (.Compare a [.IsNot] [b] pos) (dOp (dIsB true) da db) := d_cmp op_notBl sr_isnotB (nomark _) ha hb
theorem t_isB (ha : PD X E a da) (hb : PD X E b db) : PDT X E (.Compare a [.Is] [b] pos) (dB (dOp (dIsB false) da db)) := t_cmp op_isBl sr_isB (nomark _) ha hb
theorem t_isnotB (ha : PD X E a da) (hb : PD X E b db) : PDT X E (.Compare a [.IsNot] [b] pos) (dB (dOp (dIsB true) da db)) := t_cmp op_notBl sr_isnotB (nomark _) ha hb
end
theorem Def.alias {P : Program} {w : World} {K : PySem.W.Frag} {mg : Str → Option Value} {base : Heap} {x y : Str} {ps : List Str} {k : Nat} {dsp : DSp} (d : Def P w K mg base k x ps dsp) (h : mg y = mg x) : Def P w K mg base k y ps dsp := by
  obtain ⟨f, fd, F, a, b, c⟩ := d
  exact ⟨f, fd, F, h.trans a, b, c⟩
end DL
/-! The defs of fractions: slots, readings, promises; each reading keeps its promise. -/
namespace DL
open PySem PySem.Spec PyProof.Rows L2 PB
theorem iteB {c : Bool} {A B : Prop} (h1 : c = true → A) (h2 : c = false → B) : if c = true then A else B := by
  cases c with
  | true => exact iteT (h1 rfl)
  | false => exact iteF (h2 rfl)
theorem eqD_int (i j : Int) : eqD (.int i) (.int j) = decide (i = j) := by
  unfold eqD
  show PyData.eqv (.int i) (.int j) = _
  simp [PyData.eqv]
  by_cases h : i = j <;> simp [h]
theorem int_shp (i : Int) : (D.int i).shp = true := rfl
section
variable {x y : D} {k : D → Prop} {i j : Int}
theorem ne_of {b : Bool} (hx : x.shp = true) (hy : y.shp = true) (he : eqD x y = b) (h : k (.bl (!b))) : dNe x y k := by
  unfold dNe
  exact ⟨hx, hy, by rw [he]; exact h⟩
theorem eq_of {b : Bool} (hx : x.shp = true) (hy : y.shp = true) (he : eqD x y = b) (h : k (.bl b)) : dEq x y k := by
  unfold dEq
  exact ⟨hx, hy, by rw [he]; exact h⟩
theorem ne_int (h : k (.bl (!decide (i = j)))) : dNe (.int i) (.int j) k := ne_of rfl rfl (eqD_int i j) h
theorem eq_int (h : k (.bl (decide (i = j)))) : dEq (.int i) (.int j) k := eq_of rfl rfl (eqD_int i j) h
theorem ne_intT (e : i = j) (h : k (.bl false)) : dNe (.int i) (.int j) k := ne_of rfl rfl ((eqD_int i j).trans (decide_eq_true e)) h
theorem ne_intF (e : i ≠ j) (h : k (.bl true)) : dNe (.int i) (.int j) k := ne_of rfl rfl ((eqD_int i j).trans (decide_eq_false e)) h
theorem eq_intT (e : i = j) (h : k (.bl true)) : dEq (.int i) (.int j) k := eq_of rfl rfl ((eqD_int i j).trans (decide_eq_true e)) h
theorem eq_intF (e : i ≠ j) (h : k (.bl false)) : dEq (.int i) (.int j) k := eq_of rfl rfl ((eqD_int i j).trans (decide_eq_false e)) h
end
/-! ### isinstance -/
theorem kit_facts : (kitB "NoneType" "int" = some false ∧ kitB "bool" "int" = some true ∧ kitB "int" "int" = some true ∧ kitB "str" "int" = some false ∧ kitB "list" "int" = some false ∧ kitB "tuple" "int" = some false) ∧
    (kitB "NoneType" "bool" = some false ∧ kitB "bool" "bool" = some true ∧ kitB "int" "bool" = some false ∧ kitB "str" "bool" = some false ∧ kitB "list" "bool" = some false ∧ kitB "tuple" "bool" = some false) ∧
    (kitB "NoneType" "tuple" = some false ∧ kitB "bool" "tuple" = some false ∧ kitB "int" "tuple" = some false ∧ kitB "str" "tuple" = some false ∧ kitB "list" "tuple" = some false ∧ kitB "tuple" "tuple" = some true) ∧
    (kitB "NoneType" "str" = some false ∧ kitB "bool" "str" = some false ∧ kitB "int" "str" = some false ∧ kitB "str" "str" = some true ∧ kitB "list" "str" = some false ∧ kitB "tuple" "str" = some false) ∧
    (kitB "NoneType" "list" = some false ∧ kitB "bool" "list" = some false ∧ kitB "int" "list" = some false ∧ kitB "str" "list" = some false ∧ kitB "list" "list" = some true ∧ kitB "tuple" "list" = some false) := by decide +kernel
/-- plain things: none, truths, whole numbers, texts, lists, tuples -/
def D.ok (d : D) : Bool := d.ty.isSome
def D.isInt : D → Bool | .int _ => true | .bl _ => true | _ => false
def D.isBl : D → Bool | .bl _ => true | _ => false
def D.isTup : D → Bool | .tup _ => true | _ => false
def D.isStr : D → Bool | .str _ => true | _ => false
def D.isLst : D → Bool | .lst _ => true | _ => false
theorem isi_int {d : D} (h : d.ok = true) : d.isi "int" = some d.isInt := by
  have ⟨⟨a1, a2, a3, a4, a5, a6⟩, _⟩ := kit_facts
  cases d <;> first | (simp [D.ok, D.ty] at h; done) | assumption
theorem isi_bool {d : D} (h : d.ok = true) : d.isi "bool" = some d.isBl := by
  have ⟨_, ⟨a1, a2, a3, a4, a5, a6⟩, _⟩ := kit_facts
  cases d <;> first | (simp [D.ok, D.ty] at h; done) | assumption
theorem isi_tuple {d : D} (h : d.ok = true) : d.isi "tuple" = some d.isTup := by
  have ⟨_, _, ⟨a1, a2, a3, a4, a5, a6⟩, _⟩ := kit_facts
  cases d <;> first | (simp [D.ok, D.ty] at h; done) | assumption
theorem isi_str {d : D} (h : d.ok = true) : d.isi "str" = some d.isStr := by
  have ⟨_, _, _, ⟨a1, a2, a3, a4, a5, a6⟩, _⟩ := kit_facts
  cases d <;> first | (simp [D.ok, D.ty] at h; done) | assumption
theorem isi_list {d : D} (h : d.ok = true) : d.isi "list" = some d.isLst := by
  have ⟨_, _, _, _, ⟨a1, a2, a3, a4, a5, a6⟩⟩ := kit_facts
  cases d <;> first | (simp [D.ok, D.ty] at h; done) | assumption
/-- the reading of isinstance, its answer known -/
theorem dIsi_of {T : String} {d : D} {b : Bool} {k : D → Prop} (h : d.isi T = some b) (q : k (.bl b)) : isiK (d.isi T) k := by
  rw [h]
  unfold isiK
  exact q
/-! ### is_within -/
abbrev N_is_within : List Str := ["thing", "low", "high"]
def t_is_within : DS :=
  (dRet (dAndV (dIsi "int" (dVar 0)) (dAndV (dNotV (dIsi "bool" (dVar 0))) (dChain rLe rLe (dVar 1) (dVar 0) (dVar 2)))))

def within (d : D) (lo hi : Int) : Bool := match d with
  | .int i => decide (lo ≤ i) && decide (i ≤ hi)
  | _ => false
def sp_is_within : DSp := fun ds k _ => ∃ (d : D) (lo hi : Int), ds = [d, .int lo, .int hi] ∧ d.ok = true ∧ k (.bl (within d lo hi))
theorem len_is_within : ∀ ds k kx, sp_is_within ds k kx → ds.length = 3 := by
  intro _ _ _ h
  unfold sp_is_within at h
  obtain ⟨_, _, _, rfl, _⟩ := h; rfl
theorem pure_is_within (ds : List D) (k : D → Prop) (kx : Addr → Prop) (h : sp_is_within ds k kx) : t_is_within { nx := fun _ => k .non, rt := k, ex := kx } (dstart N_is_within ds) := by
  obtain ⟨d, lo, hi, rfl, ok, h⟩ := h
  refine dIsi_of (isi_int ok) ?_
  show if d.isInt = true then _ else _
  refine iteB (fun c => ?_) (fun c => ?_)
  · refine dIsi_of (isi_bool ok) ?_
    show if (!d.isBl) = true then _ else _
    cases d <;> first | (simp [D.isInt] at c; done) | skip
    · exact iteF h
    · rename_i i
      refine iteT ?_
      show if decide (lo ≤ i) = true then k (.bl (decide (i ≤ hi))) else k (.bl false)
      have h' : k (.bl (decide (lo ≤ i) && decide (i ≤ hi))) := h
      refine iteB (fun c => ?_) (fun c => ?_)
      · rw [c] at h'; exact h'
      · rw [c] at h'; exact h'
  · cases d <;> first | (simp [D.isInt] at c; done) | exact h
/-! ### common, made -/
abbrev N_common : List Str := ["one", "other"]
def t_common : DS :=
  (dSeq (dWhile (dB (dOp dNe (dVar 1) (dC (.int 0))))
    (dPar 0 1 (dVar 1) (dMod (dVar 0) (dVar 1))))
    (dRet (dVar 0)))

def sp_common : DSp := fun ds k _ => ∃ (a b : Int), ds = [.int a, .int b] ∧ 0 ≤ a ∧ 0 ≤ b ∧ k (.int (Int.gcd a b))
theorem len_common : ∀ ds k kx, sp_common ds k kx → ds.length = 2 := by
  intro _ _ _ h
  unfold sp_common at h
  obtain ⟨_, _, rfl, _⟩ := h; rfl
theorem gcd_step (x y : Int) (hx : 0 ≤ x) (hy : 0 < y) : Int.gcd y (x % y) = Int.gcd x y := by
  rw [Int.gcd_comm x y]
  show y.natAbs.gcd (x % y).natAbs = y.natAbs.gcd x.natAbs
  have e : (x % y).natAbs = x.natAbs % y.natAbs := by
    have h1 : ((x.natAbs : Nat) : Int) = x := by omega
    have h2 : ((y.natAbs : Nat) : Int) = y := by omega
    have h3 : x % y = ((x.natAbs % y.natAbs : Nat) : Int) := by rw [Int.natCast_emod, h1, h2]
    rw [h3, Int.natAbs_natCast]
  rw [e, Nat.gcd_comm _ (x.natAbs % y.natAbs), ← Nat.gcd_rec]
theorem pure_common (ds : List D) (k : D → Prop) (kx : Addr → Prop) (h : sp_common ds k kx) : t_common { nx := fun _ => k .non, rt := k, ex := kx } (dstart N_common ds) := by
  obtain ⟨a, b, rfl, ha, hb, h⟩ := h
  refine ⟨fun m δ => ∃ x y : Int, δ = [some (.int x), some (.int y)] ∧ 0 ≤ x ∧ 0 ≤ y ∧ Int.gcd x y = Int.gcd a b ∧ m = y.toNat, ⟨_, a, b, rfl, ha, hb, rfl, rfl⟩, ?_⟩
  rintro m δ' ⟨x, y, rfl, hx, hy, hg, rfl⟩
  by_cases c : y = 0
  · refine ne_intT c (iteF ?_)
    show k (.int x)
    have e : ((Int.gcd a b : Nat) : Int) = x := by
      rw [← hg, c, Int.gcd_zero_right]
      omega
    rw [e] at h
    exact h
  · refine ne_intF c (iteT ?_)
    have hy' : 0 < y := by omega
    have h1 := Int.emod_lt_of_pos x hy'
    have h2 := Int.emod_nonneg x (by omega : y ≠ 0)
    exact ⟨hy', _, (show (x % y).toNat < y.toNat by omega), y, x % y, rfl, by omega, h2, by rw [gcd_step x y hx hy', hg], rfl⟩
abbrev N_made : List Str := ["top", "bottom", "by"]
def t_made : DS :=
  (dSeq (dSet 2 (dCall sp_common (dCons (dC1 cAbs (dVar 0)) (dCons (dVar 1) dNil))))
    (dRet (dTup (dCons (dDiv (dVar 0) (dVar 2)) (dCons (dDiv (dVar 1) (dVar 2)) dNil)))))

def sp_made : DSp := fun ds k _ => ∃ (t b : Int), ds = [.int t, .int b] ∧ 0 < b ∧ b.natAbs < 2 ^ 9000 ∧ k (fr (mkRat t b.toNat))
theorem len_made : ∀ ds k kx, sp_made ds k kx → ds.length = 2 := by
  intro _ _ _ h
  unfold sp_made at h
  obtain ⟨_, _, rfl, _⟩ := h; rfl
theorem abs_if (t : Int) : (if t < 0 then -t else t) = (t.natAbs : Int) := by split <;> omega
theorem pure_made (ds : List D) (k : D → Prop) (kx : Addr → Prop) (h : sp_made ds k kx) : t_made { nx := fun _ => k .non, rt := k, ex := kx } (dstart N_made ds) := by
  obtain ⟨t, b, rfl, hb, hs, h⟩ := h
  refine ⟨if t < 0 then -t else t, b, rfl, by rw [abs_if]; omega, by omega, ?_⟩
  rw [abs_if]
  have hg : Int.gcd (t.natAbs : Int) b = t.natAbs.gcd b.toNat := by
    have e : b.natAbs = b.toNat := by omega
    show (t.natAbs : Int).natAbs.gcd b.natAbs = _
    rw [e, Int.natAbs_natCast]
  rw [hg]
  have g0 : 0 < t.natAbs.gcd b.toNat := Nat.gcd_pos_of_pos_right _ (by omega)
  have g1 : t.natAbs.gcd b.toNat ≤ b.toNat := Nat.gcd_le_right _ (by omega)
  have hw : CDivW t ((t.natAbs.gcd b.toNat : Nat) : Int) := wide_div (b := 9000) (by omega) (by rw [Int.natAbs_natCast]; omega) (by decide) (by decide)
  have hw2 : CDivW b ((t.natAbs.gcd b.toNat : Nat) : Int) := wide_div (b := 9000) (by omega) (by rw [Int.natAbs_natCast]; omega) (by decide) (by decide)
  refine ⟨hw, hw2, ?_⟩
  have e : fr (mkRat t b.toNat) = .tup [.int (t / ((t.natAbs.gcd b.toNat : Nat) : Int)), .int (b / ((t.natAbs.gcd b.toNat : Nat) : Int))] := by
    unfold fr
    rw [Rat.num_mkRat, Rat.den_mkRat, if_neg (by omega), if_neg (by omega), Nat.gcd_comm b.toNat, Int.natCast_ediv]
    have : ((b.toNat : Nat) : Int) = b := by omega
    rw [this]
  rw [e] at h
  exact h
/-! ### sums, products -/
/-- sizes at which every step of a sum or product goes -/
def Fit (x : Rat) : Prop := sz x 4490
theorem Fit.of {x : Rat} {n : Nat} (h : sz x n) (l : n ≤ 4490 := by decide) : Fit x := h.mono l
theorem mulW {i j : Int} {n m : Nat} (hi : i.natAbs < 2 ^ n) (hj : j.natAbs < 2 ^ m) (l : n + m ≤ 1000000) (hn : 0 < n) (hm : 0 < m) : CMulW i j := wide_mul hi hj hn hm l
theorem Fit.nd {x y : Rat} (hx : Fit x) (hy : Fit y) : CMulW x.num y.den := mulW hx.2 (by rw [Int.natAbs_natCast]; exact hy.1) (by decide) (by decide) (by decide)
theorem Fit.nn {x y : Rat} (hx : Fit x) (hy : Fit y) : CMulW x.num y.num := mulW hx.2 hy.2 (by decide) (by decide) (by decide)
theorem Fit.dd {x y : Rat} (hx : Fit x) (hy : Fit y) : CMulW x.den y.den := mulW (by rw [Int.natAbs_natCast]; exact hx.1) (by rw [Int.natAbs_natCast]; exact hy.1) (by decide) (by decide) (by decide)
theorem Fit.dn {x y : Rat} (hx : Fit x) (hy : Fit y) : CMulW x.den y.num := mulW (by rw [Int.natAbs_natCast]; exact hx.1) hy.2 (by decide) (by decide) (by decide)
theorem pow_le9 : (2 : Nat) ^ (4490 + 4490) ≤ 2 ^ 9000 := Nat.pow_le_pow_right (n := 2) (by decide) (by decide)
theorem Fit.bot {x y : Rat} (hx : Fit x) (hy : Fit y) : 0 < (x.den : Int) * (y.den : Int) ∧ ((x.den : Int) * (y.den : Int)).natAbs < 2 ^ 9000 := by
  have h := mul_lt_pow hx.1 hy.1
  have e : ((x.den : Int) * (y.den : Int)) = ((x.den * y.den : Nat) : Int) := by rw [Int.natCast_mul]
  have p := Nat.mul_pos x.den_pos y.den_pos
  rw [e, Int.natAbs_natCast]
  exact ⟨by omega, Nat.lt_of_lt_of_le h pow_le9⟩
theorem toNat_dd (x y : Rat) : ((x.den : Int) * (y.den : Int)).toNat = x.den * y.den := by
  rw [← Int.natCast_mul, Int.toNat_natCast]
abbrev N_plus : List Str := ["one", "other"]
def t_plus : DS :=
  (dRet (dCall sp_made (dCons (dAdd (dMul (dOp dIx (dVar 0) (dC (.int 0))) (dOp dIx (dVar 1) (dC (.int 1)))) (dMul (dOp dIx (dVar 1) (dC (.int 0))) (dOp dIx (dVar 0) (dC (.int 1))))) (dCons (dMul (dOp dIx (dVar 0) (dC (.int 1))) (dOp dIx (dVar 1) (dC (.int 1)))) dNil))))

def sp_plus : DSp := fun ds k _ => ∃ (x y : Rat), ds = [fr x, fr y] ∧ Fit x ∧ Fit y ∧ k (fr (x + y))
theorem len_plus : ∀ ds k kx, sp_plus ds k kx → ds.length = 2 := by
  intro _ _ _ h
  unfold sp_plus at h
  obtain ⟨_, _, rfl, _⟩ := h; rfl
theorem pure_plus (ds : List D) (k : D → Prop) (kx : Addr → Prop) (h : sp_plus ds k kx) : t_plus { nx := fun _ => k .non, rt := k, ex := kx } (dstart N_plus ds) := by
  obtain ⟨x, y, rfl, hx, hy, h⟩ := h
  refine ⟨hx.nd hy, hy.nd hx, hx.dd hy, _, _, rfl, (hx.bot hy).1, (hx.bot hy).2, ?_⟩
  rw [toNat_dd, ← Rat.add_def']
  exact h
abbrev N_minus : List Str := ["one", "other"]
def t_minus : DS :=
  (dRet (dCall sp_made (dCons (dSub (dMul (dOp dIx (dVar 0) (dC (.int 0))) (dOp dIx (dVar 1) (dC (.int 1)))) (dMul (dOp dIx (dVar 1) (dC (.int 0))) (dOp dIx (dVar 0) (dC (.int 1))))) (dCons (dMul (dOp dIx (dVar 0) (dC (.int 1))) (dOp dIx (dVar 1) (dC (.int 1)))) dNil))))

def sp_minus : DSp := fun ds k _ => ∃ (x y : Rat), ds = [fr x, fr y] ∧ Fit x ∧ Fit y ∧ k (fr (x - y))
theorem len_minus : ∀ ds k kx, sp_minus ds k kx → ds.length = 2 := by
  intro _ _ _ h
  unfold sp_minus at h
  obtain ⟨_, _, rfl, _⟩ := h; rfl
theorem pure_minus (ds : List D) (k : D → Prop) (kx : Addr → Prop) (h : sp_minus ds k kx) : t_minus { nx := fun _ => k .non, rt := k, ex := kx } (dstart N_minus ds) := by
  obtain ⟨x, y, rfl, hx, hy, h⟩ := h
  refine ⟨hx.nd hy, hy.nd hx, hx.dd hy, _, _, rfl, (hx.bot hy).1, (hx.bot hy).2, ?_⟩
  rw [toNat_dd, ← Rat.sub_def']
  exact h
abbrev N_times : List Str := ["one", "other"]
def t_times : DS :=
  (dRet (dCall sp_made (dCons (dMul (dOp dIx (dVar 0) (dC (.int 0))) (dOp dIx (dVar 1) (dC (.int 0)))) (dCons (dMul (dOp dIx (dVar 0) (dC (.int 1))) (dOp dIx (dVar 1) (dC (.int 1)))) dNil))))

def sp_times : DSp := fun ds k _ => ∃ (x y : Rat), ds = [fr x, fr y] ∧ Fit x ∧ Fit y ∧ k (fr (x * y))
theorem len_times : ∀ ds k kx, sp_times ds k kx → ds.length = 2 := by
  intro _ _ _ h
  unfold sp_times at h
  obtain ⟨_, _, rfl, _⟩ := h; rfl
theorem pure_times (ds : List D) (k : D → Prop) (kx : Addr → Prop) (h : sp_times ds k kx) : t_times { nx := fun _ => k .non, rt := k, ex := kx } (dstart N_times ds) := by
  obtain ⟨x, y, rfl, hx, hy, h⟩ := h
  refine ⟨hx.nn hy, hx.dd hy, _, _, rfl, (hx.bot hy).1, (hx.bot hy).2, ?_⟩
  rw [toNat_dd, ← Rat.mul_def']
  exact h
abbrev N_by : List Str := ["one", "other"]
def t_by : DS :=
  (dRet (dCall sp_made (dCons (dMul (dOp dIx (dVar 0) (dC (.int 0))) (dOp dIx (dVar 1) (dC (.int 1)))) (dCons (dMul (dOp dIx (dVar 0) (dC (.int 1))) (dOp dIx (dVar 1) (dC (.int 0)))) dNil))))

def sp_by : DSp := fun ds k _ => ∃ (x y : Rat), ds = [fr x, fr y] ∧ Fit x ∧ Fit y ∧ 0 < y ∧ k (fr (x / y))
theorem len_by : ∀ ds k kx, sp_by ds k kx → ds.length = 2 := by
  intro _ _ _ h
  unfold sp_by at h
  obtain ⟨_, _, rfl, _⟩ := h; rfl
theorem pure_by (ds : List D) (k : D → Prop) (kx : Addr → Prop) (h : sp_by ds k kx) : t_by { nx := fun _ => k .non, rt := k, ex := kx } (dstart N_by ds) := by
  obtain ⟨x, y, rfl, hx, hy, hp, h⟩ := h
  have hn := num_pos hp
  have e : (y.num.toNat : Int) = y.num := by omega
  have p := Nat.mul_pos x.den_pos (show 0 < y.num.toNat by omega)
  have e2 : ((x.den : Int) * y.num) = ((x.den * y.num.toNat : Nat) : Int) := by rw [Int.natCast_mul, e]
  have h9 : x.den * y.num.toNat < 2 ^ 9000 := Nat.lt_of_lt_of_le (mul_lt_pow hx.1 (show y.num.toNat < 2 ^ 4490 by have := hy.2; omega)) pow_le9
  refine ⟨hx.nd hy, hx.dn hy, _, _, rfl, by omega, by rw [e2, Int.natAbs_natCast]; exact h9, ?_⟩
  rw [show ((x.den : Int) * y.num).toNat = x.den * y.num.toNat by rw [e2, Int.toNat_natCast], ← div_def' hp]
  exact h
abbrev N_is_less : List Str := ["one", "other"]
def t_is_less : DS :=
  (dRet (dLt (dMul (dOp dIx (dVar 0) (dC (.int 0))) (dOp dIx (dVar 1) (dC (.int 1)))) (dMul (dOp dIx (dVar 1) (dC (.int 0))) (dOp dIx (dVar 0) (dC (.int 1))))))

def sp_is_less : DSp := fun ds k _ => ∃ (x y : Rat), ds = [fr x, fr y] ∧ Fit x ∧ Fit y ∧ k (.bl (decide (x < y)))
theorem len_is_less : ∀ ds k kx, sp_is_less ds k kx → ds.length = 2 := by
  intro _ _ _ h
  unfold sp_is_less at h
  obtain ⟨_, _, rfl, _⟩ := h; rfl
theorem dec_lt (x y : Rat) : decide (x < y) = decide (x.num * (y.den : Int) < y.num * (x.den : Int)) := by
  by_cases c : x < y
  · rw [decide_eq_true c, decide_eq_true ((Rat.lt_iff x y).mp c)]
  · rw [decide_eq_false c, decide_eq_false (fun q => c ((Rat.lt_iff x y).mpr q))]
theorem pure_is_less (ds : List D) (k : D → Prop) (kx : Addr → Prop) (h : sp_is_less ds k kx) : t_is_less { nx := fun _ => k .non, rt := k, ex := kx } (dstart N_is_less ds) := by
  obtain ⟨x, y, rfl, hx, hy, h⟩ := h
  rw [dec_lt] at h
  exact ⟨hx.nd hy, hy.nd hx, h⟩
end DL
/-! Parts, shares, rows known; refusals; pours. -/
namespace DL
open PySem PySem.Spec PyProof.Rows L2 PB
abbrev GREAT : Nat := 100000000000000000000
def Share (x : Rat) : Prop := 0 ≤ x ∧ x ≤ 1 ∧ x.den < GREAT
def Part (p : Rat) : Prop := 0 < p ∧ p < 1 ∧ p.den ≤ 12
def Parts (p q : Rat) : Prop := Part p ∧ Part q ∧ 1 ≤ p + q
def IsShare (d : D) : Prop := ∃ x, d = fr x ∧ Share x
def pts (p q : Rat) : D := .tup [fr p, fr q]
def IsParts (d : D) : Prop := ∃ p q, d = pts p q ∧ Parts p q
def IsRow (d : D) : Prop := ∃ r : List Bool, d = rw_ r ∧ r.length ≤ 40
theorem plain_ok {d : D} (h : d.plain = true) : d.ok = true := by
  cases d <;> first | rfl | (simp [D.plain] at h; done)
theorem plain_tup {ds : List D} (h : (D.tup ds).plain = true) : ∀ d ∈ ds, d.plain = true := by
  have h' : plains ds = true := by simpa [D.plain] using h
  clear h
  induction ds with
  | nil => intro d hd; cases hd
  | cons a r ih =>
    have h2 : a.plain = true ∧ plains r = true := by simpa [plains] using h'
    intro d hd
    rcases List.mem_cons.mp hd with e | e
    · rw [e]; exact h2.1
    · exact ih h2.2 d e
theorem plain_lst {ds : List D} (h : (D.lst ds).plain = true) : ∀ d ∈ ds, d.plain = true := plain_tup (ds := ds) h
theorem plains_of {ds : List D} (h : ∀ d ∈ ds, d.plain = true) : plains ds = true := by
  induction ds with
  | nil => rfl
  | cons a r ih =>
    show (a.plain && plains r) = true
    rw [h a List.mem_cons_self, ih (fun d hd => h d (List.mem_cons_of_mem _ hd))]; rfl
theorem fr_plain (x : Rat) : (fr x).plain = true := rfl
theorem fr_shp (x : Rat) : (fr x).shp = true := rfl
/-- two whole numbers make a fraction -/
theorem fr_of {t b : Int} (hb : 0 < b) (hg : Int.gcd t b = 1) : ∃ x : Rat, D.tup [.int t, .int b] = fr x ∧ x.num = t ∧ (x.den : Int) = b := by
  have e : ((b.toNat : Nat) : Int) = b := by omega
  refine ⟨⟨t, b.toNat, by omega, ?_⟩, ?_, rfl, e⟩
  · show t.natAbs.gcd b.toNat = 1
    have : t.natAbs.gcd b.natAbs = 1 := hg
    rwa [show b.natAbs = b.toNat by omega] at this
  · unfold fr
    rw [e]
theorem fr_gcd (x : Rat) : Int.gcd x.num x.den = 1 := x.reduced
abbrev N_is_share : List Str := ["thing"]
def t_is_share : DS :=
  (dSeq (dIfS (dOr (dNot (dB (dIsi "tuple" (dVar 0)))) (dOr (dB (dOp dNe (dC1 cLen (dVar 0)) (dC (.int 2)))) (dNot (dB (dCall sp_is_within (dCons (dOp dIx (dVar 0) (dC (.int 1))) (dCons (dC (.int 1)) (dCons (dSub (dC (.int 100000000000000000000)) (dC (.int 1))) dNil)))))))) (dRet (dC (.bl false))) dNext)
    (dRet (dAndV (dCall sp_is_within (dCons (dOp dIx (dVar 0) (dC (.int 0))) (dCons (dC (.int 0)) (dCons (dOp dIx (dVar 0) (dC (.int 1))) dNil)))) (dOp dEq (dCall sp_common (dCons (dOp dIx (dVar 0) (dC (.int 0))) (dCons (dOp dIx (dVar 0) (dC (.int 1))) dNil))) (dC (.int 1))))))

def sp_is_share : DSp := fun ds k _ => ∃ (d : D), ds = [d] ∧ d.plain = true ∧ ∀ b : Bool, (b = true ↔ IsShare d) → k (.bl b)
theorem len_is_share : ∀ ds k kx, sp_is_share ds k kx → ds.length = 1 := by
  intro _ _ _ h
  unfold sp_is_share at h
  obtain ⟨_, rfl, _⟩ := h; rfl
theorem not_share {d : D} (h : ∀ x, d ≠ fr x) : false = true ↔ IsShare d := ⟨(fun q => nomatch q), fun ⟨x, e, _⟩ => absurd e (h x)⟩
theorem within_int {d : D} {lo hi : Int} (h : within d lo hi = true) : ∃ i, d = .int i ∧ lo ≤ i ∧ i ≤ hi := by
  cases d <;> first | (simp [within] at h; done) | skip
  rename_i i
  simp [within] at h
  exact ⟨i, rfl, h.1, h.2⟩
theorem within_of {i lo hi : Int} (h1 : lo ≤ i) (h2 : i ≤ hi) : within (.int i) lo hi = true := by simp [within, h1, h2]
theorem share_num {x : Rat} (h0 : 0 ≤ x) (h1 : x ≤ 1) : 0 ≤ x.num ∧ x.num ≤ x.den := by
  have h2 := (Rat.le_iff x 1).mp h1
  have h3 := Rat.num_nonneg.mpr h0
  simp at h2
  omega
theorem share_of_num {x : Rat} (h0 : 0 ≤ x.num) (h1 : x.num ≤ x.den) : 0 ≤ x ∧ x ≤ 1 := by
  refine ⟨Rat.num_nonneg.mp h0, (Rat.le_iff x 1).mpr ?_⟩
  simp; omega
theorem pure_is_share (ds : List D) (k : D → Prop) (kx : Addr → Prop) (h : sp_is_share ds k kx) : t_is_share { nx := fun _ => k .non, rt := k, ex := kx } (dstart N_is_share ds) := by
  obtain ⟨d, rfl, pl, h⟩ := h
  refine dIsi_of (isi_tuple (plain_ok pl)) ?_
  cases d with
  | tup ds =>
    have hne : ds.length ≠ 2 → k (.bl false) := fun hl => h false (not_share fun x e => by
      injection e with e
      rw [e] at hl
      exact hl rfl)
    refine iteF ?_
    by_cases hl : ds.length = 2
    · refine ne_intT (show (ds.length : Int) = 2 by omega) (iteF ?_)
      match ds, hl, pl, h with
      | [a, b], _, pl, h =>
        have pa := plain_tup pl a (by simp)
        have pb := plain_tup pl b (by simp)
        refine ⟨b, 1, 100000000000000000000 - 1, rfl, plain_ok pb, ?_⟩
        show if (!within b 1 (100000000000000000000 - 1)) = true then _ else _
        cases hw : within b 1 (100000000000000000000 - 1) with
        | false =>
          refine iteT (h false ⟨(fun q => nomatch q), fun ⟨x, e, s1, s2, s3⟩ => ?_⟩)
          unfold fr at e
          injection e with e
          injection e with e1 e2
          injection e2 with e2
          rw [e2] at hw
          have := x.den_pos
          rw [within_of (by omega) (by have : x.den < 100000000000000000000 := s3; omega)] at hw
          cases hw
        | true =>
          obtain ⟨n, rfl, h1, h2⟩ := within_int hw
          refine iteF ?_
          refine ⟨a, 0, n, rfl, plain_ok pa, ?_⟩
          show if within a 0 n = true then _ else _
          cases hv : within a 0 n with
          | false =>
            refine iteF (h false ⟨(fun q => nomatch q), fun ⟨x, e, s1, s2, s3⟩ => ?_⟩)
            unfold fr at e
            injection e with e
            injection e with e1 e2
            injection e2 with e2
            injection e2 with e2
            rw [e1] at hv
            have := share_num s1 s2
            rw [within_of (by omega) (by omega)] at hv
            cases hv
          | true =>
            obtain ⟨t, rfl, h3, h4⟩ := within_int hv
            refine iteT ⟨t, n, rfl, h3, by omega, eq_int ?_⟩
            refine h _ ⟨fun q => ?_, fun ⟨x, e, s1, s2, s3⟩ => ?_⟩
            · have hg : Int.gcd t n = 1 := by have := of_decide_eq_true q; omega
              obtain ⟨x, e, ex, ed⟩ := fr_of (by omega) hg
              have := share_of_num (x := x) (by omega) (by omega)
              exact ⟨x, e, this.1, this.2, by show x.den < 100000000000000000000; omega⟩
            · unfold fr at e
              injection e with e
              injection e with e1 e2
              injection e1 with e1
              injection e2 with e2
              injection e2 with e2
              rw [e1, e2, fr_gcd]; rfl
    · exact ne_intF (show ¬ (ds.length : Int) = 2 by omega) (iteT (hne hl))
  | _ => exact iteT (iteT (h false (not_share fun x e => by unfold fr at e; cases e)))
end DL
namespace DL
open PySem PySem.Spec PyProof.Rows L2 PB
/-! ### all([.. for .. in ..]) -/
theorem all_lc {items : List D} {P : D → Prop} {k : D → Prop} {j : Nat} {de : DE} {δw : Dst} (hl : items.length ≤ 100000)
    (hs : ∀ d ∈ items, ∀ k' : D → Prop, (∀ b : Bool, (b = true ↔ P d) → k' (.bl b)) → de (δw.set j (some d)) k' (fun _ => False)) (hk : ∀ b : Bool, (b = true ↔ ∀ d ∈ items, P d) → k (.bl b)) :
    items.length ≤ 100000 ∧ ∃ Iv : Nat → List D → Prop, Iv 0 [] ∧
      (∀ i acc d, items[i]? = some d → Iv i acc → gN j d δw (fun δ2 => dYes δ2 (fun b => if b = true then de δ2 (fun y => Iv (i + 1) (acc ++ [y])) (fun _ => False) else Iv (i + 1) acc) (fun _ => False))) ∧ ∀ acc, Iv items.length acc → cAll (.lst acc) k := by
  refine ⟨hl, fun i acc => ∃ bs : List Bool, acc = bs.map D.bl ∧ (bs.all id = true ↔ ∀ d ∈ items.take i, P d), ⟨[], rfl, by simp⟩, fun i acc d hd hI => ?_, fun acc hI => ?_⟩
  · obtain ⟨bs, rfl, hb⟩ := hI
    refine hs d (List.mem_of_getElem? hd) _ fun b hb2 => ⟨bs ++ [b], by simp, ?_⟩
    rw [List.take_add_one, hd]
    simp only [List.all_append, Bool.and_eq_true, hb, Option.toList_some, List.mem_append, List.mem_singleton, List.all_cons, List.all_nil, id, Bool.and_true, hb2]
    constructor
    · rintro ⟨h1, h2⟩ x (hx | rfl)
      · exact h1 x hx
      · exact h2
    · intro h
      exact ⟨fun x hx => h x (.inl hx), h d (.inr rfl)⟩
  · obtain ⟨bs, rfl, hb⟩ := hI
    rw [List.take_length] at hb
    exact ⟨bs, rfl, hk _ hb⟩
theorem shareD_fr {x : Rat} : IsShare (fr x) ↔ Share x := ⟨fun ⟨y, e, h⟩ => fr_inj e ▸ h, fun h => ⟨x, rfl, h⟩⟩
theorem part_share {p : Rat} (h : Part p) : Share p := ⟨Rat.le_of_lt h.1, Rat.le_of_lt h.2.1, Nat.lt_of_le_of_lt h.2.2 (by decide)⟩
theorem part_sz {p : Rat} (h : Part p) : sz p 4 := sz_unit (Rat.le_of_lt h.1) (Rat.le_of_lt h.2.1) (Nat.lt_of_le_of_lt h.2.2 (by decide))
theorem lt_num1 {x : Rat} : x < 1 ↔ x.num < x.den := by
  rw [Rat.lt_iff]; simp
theorem pos_num {x : Rat} : 0 < x ↔ 0 < x.num := by
  rw [Rat.lt_iff]; simp
theorem part_iff {x : Rat} : Part x ↔ (0 < x.num ∧ x.num < x.den ∧ (x.den : Int) ≤ 12) := by
  unfold Part
  rw [pos_num, lt_num1]
  constructor
  · rintro ⟨a, b, c⟩; exact ⟨a, b, by omega⟩
  · rintro ⟨a, b, c⟩; exact ⟨a, b, by omega⟩
abbrev N_are_parts : List Str := ["thing", "one"]
def t_are_parts : DS :=
  (dSeq (dIfS (dOr (dNot (dB (dIsi "tuple" (dVar 0)))) (dOr (dB (dOp dNe (dC1 cLen (dVar 0)) (dC (.int 2)))) (dNot (dB (dC1 cAll (dLc (dItT (dVar 0)) (gN 1) dYes (dCall sp_is_share (dCons (dVar 1) dNil)) [1])))))) (dRet (dC (.bl false))) dNext)
    (dSeq (dIfS (dNot (dB (dC1 cAll (dLc (dItT (dVar 0)) (gN 1) dYes (dChain3 rLt rLt rLe (dC (.int 0)) (dOp dIx (dVar 1) (dC (.int 0))) (dOp dIx (dVar 1) (dC (.int 1))) (dC (.int 12))) [1])))) (dRet (dC (.bl false))) dNext)
    (dRet (dNotV (dCall sp_is_less (dCons (dCall sp_plus (dCons (dOp dIx (dVar 0) (dC (.int 0))) (dCons (dOp dIx (dVar 0) (dC (.int 1))) dNil))) (dCons (dTup (dCons (dC (.int 1)) (dCons (dC (.int 1)) dNil))) dNil)))))))

def sp_are_parts : DSp := fun ds k _ => ∃ (d : D), ds = [d] ∧ d.plain = true ∧ ∀ b : Bool, (b = true ↔ IsParts d) → k (.bl b)
theorem len_are_parts : ∀ ds k kx, sp_are_parts ds k kx → ds.length = 1 := by
  intro _ _ _ h
  unfold sp_are_parts at h
  obtain ⟨_, rfl, _⟩ := h; rfl
theorem noParts {d : D} (h : ∀ p q, Parts p q → d ≠ pts p q) : false = true ↔ IsParts d := ⟨(fun q => nomatch q), fun ⟨p, q, e, z⟩ => absurd e (h p q z)⟩
theorem one_part (x : Rat) : IsShare (fr x) ∨ True := .inr trivial
theorem pure_are_parts (ds : List D) (k : D → Prop) (kx : Addr → Prop) (h : sp_are_parts ds k kx) : t_are_parts { nx := fun _ => k .non, rt := k, ex := kx } (dstart N_are_parts ds) := by
  obtain ⟨d, rfl, pl, h⟩ := h
  refine dIsi_of (isi_tuple (plain_ok pl)) ?_
  cases d with
  | tup ds =>
    refine iteF ?_
    by_cases hl : ds.length = 2
    · refine ne_intT (show (ds.length : Int) = 2 by omega) (iteF ?_)
      match ds, hl, pl, h with
      | [a, b], _, pl, h =>
        refine all_lc (P := IsShare) (by simp) (fun d hd k' hk => ⟨d, rfl, plain_tup pl d hd, hk⟩) (fun c hc => ?_)
        show if (!c) = true then _ else _
        cases c with
        | false =>
          refine iteT (h false (noParts fun p q hpq e => ?_))
          injection e with e
          injection e with e1 e2
          injection e2 with e2
          have := hc.mpr (fun d hd => by
            simp at hd
            rcases hd with rfl | rfl
            · rw [e1]; exact ⟨p, rfl, part_share hpq.1⟩
            · rw [e2]; exact ⟨q, rfl, part_share hpq.2.1⟩)
          cases this
        | true =>
          refine iteF ?_
          have hs := hc.mp rfl
          obtain ⟨x, rfl, hx⟩ := hs a (by simp)
          obtain ⟨y, rfl, hy⟩ := hs b (by simp)
          have hx1 := share_num hx.1 hx.2.1
          have hy1 := share_num hy.1 hy.2.1
          refine all_lc (P := fun d => ∀ z, d = fr z → Part z) (by simp) (fun d hd k' hk => ?_) (fun c hc => ?_)
          · have key : ∀ z : Rat, (∀ b : Bool, (b = true ↔ Part z) → k' (.bl b)) → dChain3 rLt rLt rLe (dC (.int 0)) (dOp dIx (dVar 1) (dC (.int 0))) (dOp dIx (dVar 1) (dC (.int 1))) (dC (.int 12)) [some (.tup [fr x, fr y]), some (fr z)] k' (fun _ => False) := fun z hz => by
              show if decide ((0 : Int) < z.num) = true then _ else _
              rw [show Part z ↔ _ from part_iff] at hz
              refine iteB (fun c1 => ?_) (fun c1 => ?_)
              · show if decide (z.num < (z.den : Int)) = true then _ else _
                have c1 := of_decide_eq_true c1
                refine iteB (fun c2 => ?_) (fun c2 => ?_)
                · have c2 := of_decide_eq_true c2
                  refine hz _ ⟨fun c3 => ⟨c1, c2, of_decide_eq_true c3⟩, fun c3 => decide_eq_true c3.2.2⟩
                · have c2 := of_decide_eq_false c2
                  exact hz false ⟨(fun q => nomatch q), fun q => absurd q.2.1 c2⟩
              · have c1 := of_decide_eq_false c1
                exact hz false ⟨(fun q => nomatch q), fun q => absurd q.1 c1⟩
            have hd' : d = fr x ∨ d = fr y := by simpa using hd
            rcases hd' with rfl | rfl
            · exact key x fun b hb => hk b (hb.trans ⟨fun q z e => fr_inj e ▸ q, fun q => q x rfl⟩)
            · exact key y fun b hb => hk b (hb.trans ⟨fun q z e => fr_inj e ▸ q, fun q => q y rfl⟩)
          · show if (!c) = true then _ else _
            cases c with
            | false =>
              refine iteT (h false (noParts fun p q hpq e => ?_))
              injection e with e
              injection e with e1 e2
              injection e2 with e2
              have e1 := fr_inj e1
              have e2 := fr_inj e2
              subst e1 e2
              have := hc.mpr (fun d hd => by
                simp at hd
                rcases hd with rfl | rfl
                · intro z e; exact fr_inj e ▸ hpq.1
                · intro z e; exact fr_inj e ▸ hpq.2.1)
              cases this
            | true =>
              refine iteF ?_
              have hp := hc.mp rfl
              have px := hp (fr x) (by simp) x rfl
              have py := hp (fr y) (by simp) y rfl
              have fx := Fit.of (part_sz px)
              have fy := Fit.of (part_sz py)
              refine ⟨x, y, rfl, fx, fy, x + y, 1, rfl, Fit.of (sz_add (part_sz px) (part_sz py)), Fit.of sz_one, ?_⟩
              show k (.bl (!decide (x + y < 1)))
              refine h _ ⟨fun c => ⟨x, y, rfl, px, py, ?_⟩, fun ⟨p, q, e, hpq⟩ => ?_⟩
              · have c' : decide (x + y < 1) = false := by simpa using c
                exact Rat.not_lt.mp (of_decide_eq_false c')
              · injection e with e
                injection e with e1 e2
                injection e2 with e2
                have e1 := fr_inj e1
                have e2 := fr_inj e2
                subst e1 e2
                rw [decide_eq_false (Rat.not_lt.mpr hpq.2.2)]; rfl
    · refine ne_intF (show ¬ (ds.length : Int) = 2 by omega) (iteT (h false (noParts fun p q _ e => hl ?_)))
      injection e with e
      rw [e]; rfl
  | _ => exact iteT (iteT (h false (noParts fun p q _ e => by unfold pts at e; cases e)))
/-! ### pours, rows -/
def IsPour (d : D) : Prop := ∃ b, d = wd b
abbrev N_is_pour : List Str := ["thing"]
def t_is_pour : DS :=
  (dRet (dAndV (dIsi "str" (dVar 0)) (dOp (dIn false) (dVar 0) (dTup (dCons (dC (.str "right")) (dCons (dC (.str "left")) dNil))))))

def sp_is_pour : DSp := fun ds k _ => ∃ (d : D), ds = [d] ∧ d.plain = true ∧ ∀ b : Bool, (b = true ↔ IsPour d) → k (.bl b)
theorem len_is_pour : ∀ ds k kx, sp_is_pour ds k kx → ds.length = 1 := by
  intro _ _ _ h
  unfold sp_is_pour at h
  obtain ⟨_, rfl, _⟩ := h; rfl
theorem in_pour (x : Str) : (inD (.str x) [.str "right", .str "left"] = true) ↔ IsPour (.str x) := by
  show ([V.str "right", V.str "left"].any fun y => eqV y (.str x)) = true ↔ _
  simp only [List.any_cons, List.any_nil, Bool.or_false, Bool.or_eq_true]
  constructor
  · rintro (h | h)
    · exact ⟨false, by rw [← show ("right" : Str) = x from eq_of_beq h]; rfl⟩
    · exact ⟨true, by rw [← show ("left" : Str) = x from eq_of_beq h]; rfl⟩
  · rintro ⟨b, e⟩
    cases b with
    | false => injection e with e; exact .inl (by rw [e]; exact beq_self_eq_true _)
    | true => injection e with e; exact .inr (by rw [e]; exact beq_self_eq_true _)
theorem pure_is_pour (ds : List D) (k : D → Prop) (kx : Addr → Prop) (h : sp_is_pour ds k kx) : t_is_pour { nx := fun _ => k .non, rt := k, ex := kx } (dstart N_is_pour ds) := by
  obtain ⟨d, rfl, pl, h⟩ := h
  refine dIsi_of (isi_str (plain_ok pl)) ?_
  cases d with
  | str x =>
    refine iteT ⟨rfl, rfl, ?_⟩
    exact h _ (in_pour x)
  | _ => exact iteF (h false ⟨(fun q => nomatch q), fun ⟨b, e⟩ => by cases b <;> cases e⟩)
abbrev N_is_row : List Str := ["thing", "pour"]
def t_is_row : DS :=
  (dRet (dAndV (dIsi "tuple" (dVar 0)) (dAndV (dLe (dC1 cLen (dVar 0)) (dC (.int 40))) (dC1 cAll (dLc (dItT (dVar 0)) (gN 1) dYes (dCall sp_is_pour (dCons (dVar 1) dNil)) [1])))))

def sp_is_row : DSp := fun ds k _ => ∃ (d : D), ds = [d] ∧ d.plain = true ∧ (∀ es, d = .tup es → es.length ≤ 100000) ∧ ∀ b : Bool, (b = true ↔ IsRow d) → k (.bl b)
theorem len_is_row : ∀ ds k kx, sp_is_row ds k kx → ds.length = 1 := by
  intro _ _ _ h
  unfold sp_is_row at h
  obtain ⟨_, rfl, _⟩ := h; rfl
theorem rows_of {es : List D} (h : ∀ d ∈ es, IsPour d) : ∃ r : List Bool, es = r.map wd := by
  induction es with
  | nil => exact ⟨[], rfl⟩
  | cons a r ih =>
    obtain ⟨b, e⟩ := h a List.mem_cons_self
    obtain ⟨s, e2⟩ := ih fun d hd => h d (List.mem_cons_of_mem _ hd)
    exact ⟨b :: s, by rw [e, e2]; rfl⟩
theorem pure_is_row (ds : List D) (k : D → Prop) (kx : Addr → Prop) (h : sp_is_row ds k kx) : t_is_row { nx := fun _ => k .non, rt := k, ex := kx } (dstart N_is_row ds) := by
  obtain ⟨d, rfl, pl, hl, h⟩ := h
  refine dIsi_of (isi_tuple (plain_ok pl)) ?_
  cases d with
  | tup es =>
    refine iteT ?_
    show if decide ((es.length : Int) ≤ 40) = true then _ else _
    refine iteB (fun c => ?_) (fun c => ?_)
    · have c := of_decide_eq_true c
      refine all_lc (P := IsPour) (hl es rfl) (fun d hd k' hk => ⟨d, rfl, plain_tup pl d hd, hk⟩) (fun b hb => h b (hb.trans ⟨fun q => ?_, fun ⟨r, e, hr⟩ d hd => ?_⟩))
      · obtain ⟨r, e⟩ := rows_of q
        refine ⟨r, by rw [e]; rfl, ?_⟩
        rw [e, List.length_map] at c
        omega
      · injection e with e
        rw [e] at hd
        obtain ⟨b, _, e2⟩ := List.mem_map.mp hd
        exact ⟨b, e2.symm⟩
    · have c := of_decide_eq_false c
      refine h false ⟨(fun q => nomatch q), fun ⟨r, e, hr⟩ => ?_⟩
      injection e with e
      rw [e, List.length_map] at c
      omega
  | _ => exact iteF (h false ⟨(fun q => nomatch q), fun ⟨r, e, _⟩ => by unfold rw_ at e; cases e⟩)
/-! ### refusals -/
abbrev N_need_parts : List Str := ["parts"]
def t_need_parts (er : Er) : DS :=
  (dIfS (dNot (dB (dCall sp_are_parts (dCons (dVar 0) dNil)))) (dRaise er.NoParts) dNext)

def sp_need_parts (er : Er) : DSp := fun ds k kx => ∃ (d : D), ds = [d] ∧ d.plain = true ∧ (IsParts d → k .non) ∧ (¬ IsParts d → kx er.NoParts)
theorem len_need_parts (er : Er) : ∀ ds k kx, sp_need_parts er ds k kx → ds.length = 1 := by
  intro _ _ _ h
  unfold sp_need_parts at h
  obtain ⟨_, rfl, _⟩ := h; rfl
theorem pure_need_parts (er : Er) (ds : List D) (k : D → Prop) (kx : Addr → Prop) (h : sp_need_parts er ds k kx) : t_need_parts er { nx := fun _ => k .non, rt := k, ex := kx } (dstart N_need_parts ds) := by
  obtain ⟨d, rfl, pl, h1, h2⟩ := h
  refine ⟨d, rfl, pl, fun b hb => ?_⟩
  cases b with
  | true => exact iteF (h1 (hb.mp rfl))
  | false => exact iteT (h2 fun q => by have := hb.mpr q; cases this)
abbrev N_need_share : List Str := ["share"]
def t_need_share (er : Er) : DS :=
  (dIfS (dNot (dB (dCall sp_is_share (dCons (dVar 0) dNil)))) (dRaise er.NoShare) dNext)

def sp_need_share (er : Er) : DSp := fun ds k kx => ∃ (d : D), ds = [d] ∧ d.plain = true ∧ (IsShare d → k .non) ∧ (¬ IsShare d → kx er.NoShare)
theorem len_need_share (er : Er) : ∀ ds k kx, sp_need_share er ds k kx → ds.length = 1 := by
  intro _ _ _ h
  unfold sp_need_share at h
  obtain ⟨_, rfl, _⟩ := h; rfl
theorem pure_need_share (er : Er) (ds : List D) (k : D → Prop) (kx : Addr → Prop) (h : sp_need_share er ds k kx) : t_need_share er { nx := fun _ => k .non, rt := k, ex := kx } (dstart N_need_share ds) := by
  obtain ⟨d, rfl, pl, h1, h2⟩ := h
  refine ⟨d, rfl, pl, fun b hb => ?_⟩
  cases b with
  | true => exact iteF (h1 (hb.mp rfl))
  | false => exact iteT (h2 fun q => by have := hb.mpr q; cases this)
abbrev N_need_row : List Str := ["row"]
def t_need_row (er : Er) : DS :=
  (dIfS (dNot (dB (dCall sp_is_row (dCons (dVar 0) dNil)))) (dRaise er.NoRow) dNext)

def sp_need_row (er : Er) : DSp := fun ds k kx => ∃ (d : D), ds = [d] ∧ d.plain = true ∧ (∀ es, d = .tup es → es.length ≤ 100000) ∧ (IsRow d → k .non) ∧ (¬ IsRow d → kx er.NoRow)
theorem len_need_row (er : Er) : ∀ ds k kx, sp_need_row er ds k kx → ds.length = 1 := by
  intro _ _ _ h
  unfold sp_need_row at h
  obtain ⟨_, rfl, _⟩ := h; rfl
theorem pure_need_row (er : Er) (ds : List D) (k : D → Prop) (kx : Addr → Prop) (h : sp_need_row er ds k kx) : t_need_row er { nx := fun _ => k .non, rt := k, ex := kx } (dstart N_need_row ds) := by
  obtain ⟨d, rfl, pl, hl, h1, h2⟩ := h
  refine ⟨d, rfl, pl, hl, fun b hb => ?_⟩
  cases b with
  | true => exact iteF (h1 (hb.mp rfl))
  | false => exact iteT (h2 fun q => by have := hb.mpr q; cases this)
end DL
namespace DL
open PySem PySem.Spec PyProof.Rows L2 PB
/-! ### the mathematics of pours -/
def pour (p q x : Rat) (w : Bool) : Rat := if w then x * (1 - q) + q else x * (1 - p)
def pours (p q x : Rat) (r : List Bool) : Rat := r.foldl (pour p q) x
theorem den_le {x : Rat} {N : Nat} {t : Int} (hN : 0 < N) (h : x * (N : Rat) = (t : Rat)) : x.den ≤ N := Nat.le_of_dvd hN (den_dvd h)
theorem part_sub {p : Rat} (h : Part p) : Part (1 - p) := by
  obtain ⟨h1, h2, h3⟩ := h
  refine ⟨by grind, by grind, Nat.le_trans (den_le (t := (p.den : Int) - p.num) p.den_pos ?_) h3⟩
  have e := mul_den p
  rw [Rat.intCast_sub, ← e]
  have : (((p.den : Nat) : Int) : Rat) = (p.den : Rat) := rfl
  rw [this]; grind
/-- a share with a bottom below 2 ^ n -/
def U (x : Rat) (n : Nat) : Prop := 0 ≤ x ∧ x ≤ 1 ∧ x.den < 2 ^ n
theorem U.sz {x : Rat} {n : Nat} (h : U x n) : sz x n := sz_unit h.1 h.2.1 h.2.2
theorem U.mono {x : Rat} {n m : Nat} (h : U x n) (l : n ≤ m) : U x m := ⟨h.1, h.2.1, Nat.lt_of_lt_of_le h.2.2 (Nat.pow_le_pow_right (by decide) l)⟩
theorem share_U {x : Rat} (h : Share x) : U x 67 := ⟨h.1, h.2.1, Nat.lt_trans h.2.2 (by decide)⟩
theorem U_pour {p q x : Rat} {n : Nat} (hp : Part p) (hq : Part q) (hx : U x n) (w : Bool) : U (pour p q x w) (n + 4) := by
  obtain ⟨h0, h1, h2⟩ := hx
  cases w with
  | false =>
    have hp' := part_sub hp
    have a1 : 0 ≤ x * (1 - p) := Rat.mul_nonneg h0 (Rat.le_of_lt hp'.1)
    have a2 : x * (1 - p) ≤ 1 * 1 := Rat.le_trans (Rat.mul_le_mul_of_nonneg_right h1 (Rat.le_of_lt hp'.1)) (by have := hp'.2.1; grind)
    refine ⟨a1, by show x * (1 - p) ≤ 1; grind, ?_⟩
    show (x * (1 - p)).den < _
    exact (sz_mul (sz_unit h0 h1 h2) (part_sz hp')).1
  | true =>
    have hq' := part_sub hq
    have a1 : 0 ≤ x * (1 - q) := Rat.mul_nonneg h0 (Rat.le_of_lt hq'.1)
    have a2 : x * (1 - q) ≤ 1 * (1 - q) := Rat.mul_le_mul_of_nonneg_right h1 (Rat.le_of_lt hq'.1)
    have b := hq.1
    refine ⟨by show 0 ≤ x * (1 - q) + q; grind, by show x * (1 - q) + q ≤ 1; grind, ?_⟩
    show (x * (1 - q) + q).den < _
    refine Nat.lt_of_le_of_lt (den_le (N := x.den * q.den) (t := x.num * ((q.den : Int) - q.num) + q.num * x.den) (Nat.mul_pos x.den_pos q.den_pos) ?_) (mul_lt_pow h2 (Nat.lt_of_le_of_lt hq.2.2 (by decide)))
    have e := mul_den x
    have e2 := mul_den q
    rw [Rat.intCast_add, Rat.intCast_mul, Rat.intCast_mul, Rat.intCast_sub, ← e, ← e2, Rat.natCast_mul]
    have t1 : (((q.den : Nat) : Int) : Rat) = (q.den : Rat) := rfl
    have t2 : (((x.den : Nat) : Int) : Rat) = (x.den : Rat) := rfl
    rw [t1, t2]
    grind
theorem U_pours {p q : Rat} (hp : Part p) (hq : Part q) : ∀ (r : List Bool) {x : Rat} {n : Nat}, U x n → U (pours p q x r) (n + 4 * r.length)
  | [], x, n, h => h
  | w :: r, x, n, h => by
    have := U_pours hp hq r (U_pour hp hq h w)
    rw [List.length_cons, show n + 4 * (r.length + 1) = n + 4 + 4 * r.length by omega]
    exact this
theorem pours_snoc (p q x : Rat) (r : List Bool) (w : Bool) : pours p q x (r ++ [w]) = pour p q (pours p q x r) w := by
  unfold pours; rw [List.foldl_append]; rfl
theorem take_snoc {α : Type} {l : List α} {i : Nat} {x : α} (h : l[i]? = some x) : l.take (i + 1) = l.take i ++ [x] := by
  rw [List.take_add_one, h]; rfl
theorem map_get {α β : Type} {f : α → β} {l : List α} {i : Nat} {y : β} (h : (l.map f)[i]? = some y) : ∃ x, l[i]? = some x ∧ y = f x := by
  rw [List.getElem?_map] at h
  cases e : l[i]? with
  | none => rw [e] at h; cases h
  | some x => rw [e] at h; exact ⟨x, rfl, (Option.some.inj h).symm⟩
/-! ### poured, unpoured -/
theorem wd_eq (w : Bool) : eqD (wd w) (.str "right") = !w := by
  unfold eqD
  cases w with
  | false => decide +kernel
  | true => decide +kernel
theorem wd_eqL (w : Bool) : eqD (wd w) (.str "left") = w := by
  unfold eqD
  cases w with
  | false => decide +kernel
  | true => decide +kernel
theorem wd_shp (w : Bool) : (wd w).shp = true := by cases w <;> decide +kernel
theorem str_shpR : (D.str "right").shp = true := by decide +kernel
theorem str_shpL : (D.str "left").shp = true := by decide +kernel
abbrev N_poured : List Str := ["parts", "share", "pour"]
def t_poured : DS :=
  (dSeq (dIfS (dB (dOp dEq (dVar 2) (dC (.str "right")))) (dRet (dCall sp_times (dCons (dVar 1) (dCons (dCall sp_minus (dCons (dTup (dCons (dC (.int 1)) (dCons (dC (.int 1)) dNil))) (dCons (dOp dIx (dVar 0) (dC (.int 0))) dNil))) dNil)))) dNext)
    (dRet (dCall sp_plus (dCons (dCall sp_times (dCons (dVar 1) (dCons (dCall sp_minus (dCons (dTup (dCons (dC (.int 1)) (dCons (dC (.int 1)) dNil))) (dCons (dOp dIx (dVar 0) (dC (.int 1))) dNil))) dNil))) (dCons (dOp dIx (dVar 0) (dC (.int 1))) dNil)))))

def sp_poured : DSp := fun ds k _ => ∃ (p q x : Rat) (w : Bool), ds = [pts p q, fr x, wd w] ∧ Part p ∧ Part q ∧ sz x 4480 ∧ k (fr (pour p q x w))
theorem len_poured : ∀ ds k kx, sp_poured ds k kx → ds.length = 3 := by
  intro _ _ _ h
  unfold sp_poured at h
  obtain ⟨_, _, _, _, rfl, _⟩ := h; rfl
theorem pure_poured (ds : List D) (k : D → Prop) (kx : Addr → Prop) (h : sp_poured ds k kx) : t_poured { nx := fun _ => k .non, rt := k, ex := kx } (dstart N_poured ds) := by
  obtain ⟨p, q, x, w, rfl, hp, hq, hx, h⟩ := h
  refine eq_of (wd_shp w) str_shpR (wd_eq w) ?_
  cases w with
  | false =>
    refine iteT ⟨1, p, rfl, Fit.of sz_one, Fit.of (part_sz hp), x, 1 - p, rfl, hx.mono (by decide), Fit.of (part_sz (part_sub hp)), h⟩
  | true =>
    refine iteF ⟨1, q, rfl, Fit.of sz_one, Fit.of (part_sz hq), x, 1 - q, rfl, hx.mono (by decide), Fit.of (part_sz (part_sub hq)), x * (1 - q), q, rfl, (sz_mul hx (part_sz (part_sub hq))).mono (by decide), Fit.of (part_sz hq), h⟩
def unpour (p q x : Rat) (w : Bool) : Rat := if w then (x - q) / (1 - q) else x / (1 - p)
abbrev N_unpoured : List Str := ["parts", "share", "pour"]
def t_unpoured : DS :=
  (dSeq (dIfS (dB (dOp dEq (dVar 2) (dC (.str "right")))) (dRet (dCall sp_by (dCons (dVar 1) (dCons (dCall sp_minus (dCons (dTup (dCons (dC (.int 1)) (dCons (dC (.int 1)) dNil))) (dCons (dOp dIx (dVar 0) (dC (.int 0))) dNil))) dNil)))) dNext)
    (dRet (dCall sp_by (dCons (dCall sp_minus (dCons (dVar 1) (dCons (dOp dIx (dVar 0) (dC (.int 1))) dNil))) (dCons (dCall sp_minus (dCons (dTup (dCons (dC (.int 1)) (dCons (dC (.int 1)) dNil))) (dCons (dOp dIx (dVar 0) (dC (.int 1))) dNil))) dNil)))))

def sp_unpoured : DSp := fun ds k _ => ∃ (p q x : Rat) (w : Bool), ds = [pts p q, fr x, wd w] ∧ Part p ∧ Part q ∧ sz x 4480 ∧ k (fr (unpour p q x w))
theorem len_unpoured : ∀ ds k kx, sp_unpoured ds k kx → ds.length = 3 := by
  intro _ _ _ h
  unfold sp_unpoured at h
  obtain ⟨_, _, _, _, rfl, _⟩ := h; rfl
theorem pure_unpoured (ds : List D) (k : D → Prop) (kx : Addr → Prop) (h : sp_unpoured ds k kx) : t_unpoured { nx := fun _ => k .non, rt := k, ex := kx } (dstart N_unpoured ds) := by
  obtain ⟨p, q, x, w, rfl, hp, hq, hx, h⟩ := h
  refine eq_of (wd_shp w) str_shpR (wd_eq w) ?_
  cases w with
  | false =>
    refine iteT ⟨1, p, rfl, Fit.of sz_one, Fit.of (part_sz hp), x, 1 - p, rfl, hx.mono (by decide), Fit.of (part_sz (part_sub hp)), (part_sub hp).1, h⟩
  | true =>
    refine iteF ⟨x, q, rfl, hx.mono (by decide), Fit.of (part_sz hq), 1, q, rfl, Fit.of sz_one, Fit.of (part_sz hq), x - q, 1 - q, rfl, (sz_sub hx (part_sz hq)).mono (by decide), Fit.of (part_sz (part_sub hq)), (part_sub hq).1, h⟩
abbrev N_end_of : List Str := ["parts", "share", "row", "pour"]
def t_end_of : DS :=
  (dSeq (dFor (dItT (dVar 2)) (gN 3)
    (dSet 1 (dCall sp_poured (dCons (dVar 0) (dCons (dVar 1) (dCons (dVar 3) dNil))))))
    (dRet (dVar 1)))

@[irreducible] def sp_end_of : DSp := fun ds k _ => ∃ (p q x : Rat) (r : List Bool) (n : Nat), ds = [pts p q, fr x, rw_ r] ∧ Part p ∧ Part q ∧ U x n ∧ n + 4 * r.length ≤ 4480 ∧ k (fr (pours p q x r))
theorem len_end_of : ∀ ds k kx, sp_end_of ds k kx → ds.length = 3 := by
  intro _ _ _ h
  unfold sp_end_of at h
  obtain ⟨_, _, _, _, _, rfl, _⟩ := h; rfl
theorem end_mk {p q x : Rat} {r : List Bool} {n : Nat} {k : D → Prop} {kx : Addr → Prop} (hp : Part p) (hq : Part q) (hx : U x n) (hn : n + 4 * r.length ≤ 4480) (h : k (fr (pours p q x r))) : sp_end_of [pts p q, fr x, rw_ r] k kx := by
  unfold sp_end_of
  exact ⟨p, q, x, r, n, rfl, hp, hq, hx, hn, h⟩
theorem pure_end_of (ds : List D) (k : D → Prop) (kx : Addr → Prop) (h : sp_end_of ds k kx) : t_end_of { nx := fun _ => k .non, rt := k, ex := kx } (dstart N_end_of ds) := by
  unfold sp_end_of at h
  obtain ⟨p, q, x, r, n, rfl, hp, hq, hx, hn, h⟩ := h
  refine ⟨fun i δ => ∃ z, δ = [some (pts p q), some (fr (pours p q x (r.take i))), some (rw_ r), z], ⟨none, rfl⟩, ?_, ?_⟩
  · rintro i d δ' hd ⟨z, rfl⟩
    obtain ⟨w, hw, rfl⟩ := map_get hd
    have hu := U_pours hp hq (r.take i) hx
    have hl : i < r.length := (List.getElem?_eq_some_iff.mp hw).1
    refine ⟨p, q, pours p q x (r.take i), w, rfl, hp, hq, hu.sz.mono (by rw [List.length_take]; omega), some (wd w), ?_⟩
    rw [take_snoc hw, pours_snoc]; rfl
  · rintro δ' ⟨z, rfl⟩
    rw [List.length_map, List.take_length]
    exact h
/-! ### behind -/
theorem pts_plain (p q : Rat) : (pts p q).plain = true := rfl
theorem rw_plain (r : List Bool) : (rw_ r).plain = true := by
  show plains (r.map wd) = true
  refine plains_of fun d hd => ?_
  obtain ⟨b, _, rfl⟩ := List.mem_map.mp hd
  cases b <;> rfl
def short (d : D) : Prop := ∀ es, d = .tup es → es.length ≤ 100000
abbrev N_behind : List Str := ["parts", "share", "row"]
def t_behind (er : Er) : DS :=
  (dSeq (dDrop (dCall (sp_need_parts er) (dCons (dVar 0) dNil)))
    (dSeq (dDrop (dCall (sp_need_share er) (dCons (dVar 1) dNil)))
    (dSeq (dDrop (dCall (sp_need_row er) (dCons (dVar 2) dNil)))
    (dRet (dCall sp_end_of (dCons (dVar 0) (dCons (dVar 1) (dCons (dVar 2) dNil))))))))

@[irreducible] def sp_behind (er : Er) : DSp := fun ds k kx => ∃ (d1 d2 d3 : D), ds = [d1, d2, d3] ∧ (d1.plain = true ∧ (IsParts d1 → d2.plain = true ∧ (IsShare d2 → d3.plain = true ∧ short d3))) ∧
  (¬ IsParts d1 → kx er.NoParts) ∧ (IsParts d1 → ¬ IsShare d2 → kx er.NoShare) ∧ (IsParts d1 → IsShare d2 → ¬ IsRow d3 → kx er.NoRow) ∧
  ∀ p q x r, d1 = pts p q → Parts p q → d2 = fr x → Share x → d3 = rw_ r → r.length ≤ 40 → k (fr (pours p q x r))
theorem len_behind (er : Er) : ∀ ds k kx, sp_behind er ds k kx → ds.length = 3 := by
  intro _ _ _ h
  unfold sp_behind at h
  obtain ⟨_, _, _, rfl, _⟩ := h; rfl
theorem pure_behind (er : Er) (ds : List D) (k : D → Prop) (kx : Addr → Prop) (h : sp_behind er ds k kx) : t_behind er { nx := fun _ => k .non, rt := k, ex := kx } (dstart N_behind ds) := by
  unfold sp_behind at h
  obtain ⟨d1, d2, d3, rfl, ⟨p1, p2⟩, e1, e2, e3, h⟩ := h
  refine ⟨d1, rfl, p1, fun i1 => ?_, fun n1 => e1 n1⟩
  obtain ⟨p2, p3⟩ := p2 i1
  refine ⟨d2, rfl, p2, fun i2 => ?_, fun n2 => e2 i1 n2⟩
  obtain ⟨p3, p4⟩ := p3 i2
  refine ⟨d3, rfl, p3, p4, fun i3 => ?_, fun n3 => e3 i1 i2 n3⟩
  obtain ⟨p, q, rfl, hpq⟩ := i1
  obtain ⟨x, rfl, hx⟩ := i2
  obtain ⟨r, rfl, hr⟩ := i3
  exact end_mk hpq.1 hpq.2.1 (share_U hx) (by omega) (h p q x r rfl hpq rfl hx rfl hr)
/-- all shares behind the pours of a row -/
def alls (p q x : Rat) (r : List Bool) : List Rat := (List.range r.length).map fun i => pours p q x (r.take (i + 1))
abbrev N_all_behind : List Str := ["parts", "share", "row", "found", "pour"]
def t_all_behind (er : Er) : OS :=
  (oSeq (oLift (dDrop (dCall (sp_need_parts er) (dCons (dVar 0) dNil))))
    (oSeq (oLift (dDrop (dCall (sp_need_share er) (dCons (dVar 1) dNil))))
    (oSeq (oLift (dDrop (dCall (sp_need_row er) (dCons (dVar 2) dNil))))
    (oSeq (oNewL 3 dNil)
    (oSeq (oFor (dItT (dVar 2)) (gN 4)
    (oSeq (oLift (dSet 1 (dCall sp_poured (dCons (dVar 0) (dCons (dVar 1) (dCons (dVar 4) dNil))))))
    (oApp 3 (dVar 1))))
    (oRetN 3))))))

@[irreducible] def sp_all_behind (er : Er) : DSpN := fun ds k kn kx => ∃ (d1 d2 d3 : D), ds = [d1, d2, d3] ∧ (d1.plain = true ∧ (IsParts d1 → d2.plain = true ∧ (IsShare d2 → d3.plain = true ∧ short d3))) ∧
  (¬ IsParts d1 → kx er.NoParts) ∧ (IsParts d1 → ¬ IsShare d2 → kx er.NoShare) ∧ (IsParts d1 → IsShare d2 → ¬ IsRow d3 → kx er.NoRow) ∧
  ∀ p q x r, d1 = pts p q → Parts p q → d2 = fr x → Share x → d3 = rw_ r → r.length ≤ 40 → kn ((alls p q x r).map fr)
theorem len_all_behind (er : Er) : ∀ ds k kn kx, sp_all_behind er ds k kn kx → ds.length = 3 := by
  intro _ _ _ _ h
  unfold sp_all_behind at h
  obtain ⟨_, _, _, rfl, _⟩ := h; rfl
theorem pure_all_behind (er : Er) (ds : List D) (k : D → Prop) (kn : List D → Prop) (kx : Addr → Prop) (h : sp_all_behind er ds k kn kx) : t_all_behind er { nx := fun _ _ => k .non, rt := k, rn := kn, ex := kx } (dstart N_all_behind ds) [] := by
  unfold sp_all_behind at h
  obtain ⟨d1, d2, d3, rfl, ⟨p1, p2⟩, e1, e2, e3, h⟩ := h
  refine ⟨d1, rfl, p1, fun i1 => ?_, fun n1 => e1 n1⟩
  obtain ⟨p2, p3⟩ := p2 i1
  refine ⟨d2, rfl, p2, fun i2 => ?_, fun n2 => e2 i1 n2⟩
  obtain ⟨p3, p4⟩ := p3 i2
  refine ⟨d3, rfl, p3, p4, fun i3 => ?_, fun n3 => e3 i1 i2 n3⟩
  obtain ⟨p, q, rfl, hpq⟩ := i1
  obtain ⟨x, rfl, hx⟩ := i2
  obtain ⟨r, rfl, hr⟩ := i3
  intro a _
  refine ⟨fun i δ μ => ∃ z, δ = [some (pts p q), some (fr (pours p q x (r.take i))), some (rw_ r), some (.adr a), z] ∧ i ≤ r.length ∧ μ = [(a, ((List.range i).map fun j => pours p q x (r.take (j + 1))).map fr)], ⟨none, rfl, Nat.zero_le _, rfl⟩, ?_, ?_⟩
  · rintro i d δ' μ' hd ⟨z, rfl, hi, rfl⟩
    obtain ⟨w, hw, rfl⟩ := map_get hd
    have hu := U_pours hpq.1 hpq.2.1 (r.take i) (share_U hx)
    have hl : i < r.length := (List.getElem?_eq_some_iff.mp hw).1
    refine ⟨p, q, pours p q x (r.take i), w, rfl, hpq.1, hpq.2.1, hu.sz.mono (by rw [List.length_take]; omega), a, [], _, [], rfl, rfl, ?_, some (wd w), ?_, hl, ?_⟩
    · rw [List.length_map, List.length_map, List.length_range]; omega
    · rw [take_snoc hw, pours_snoc]; rfl
    · show [(a, _ ++ [fr (pour p q (pours p q x (r.take i)) w)])] = _
      rw [List.range_succ, List.map_append, List.map_append, List.map_singleton, List.map_singleton, take_snoc hw, pours_snoc]
  · rintro δ' μ' ⟨z, rfl, hi, rfl⟩
    refine ⟨a, [], _, [], rfl, rfl, ?_⟩
    rw [show (rw_ r) = .tup (r.map wd) from rfl] at *
    have := h p q x r rfl hpq rfl hx rfl hr
    unfold alls at this
    rw [List.length_map]
    exact this
end DL
/-! Kept tubs: an object that is made and changed, then only read. -/
namespace DL
open PySem PySem.Spec PyProof.Rows L2 PB
abbrev kF : List Str := ["parts", "past", "made"]
/-- the object at x, its list at pa, both hidden -/
structure KOk (K : PySem.W.Frag) (B : Option Addr) (M : List Addr) (C x pa : Addr) (H : Hp) (dp dm : D) (past : List D) : Prop where
  ok : Ok K B (pa :: x :: M) H
  nx : x ∉ M
  np : pa ∉ M
  bx : B ≠ some x
  bp : B ≠ some pa
  bm : ∀ b, B = some b → b ∈ M
  at_ : ∃ dx v1 v3 vs, H x = some (.ins C dx [("parts", v1), ("past", .ref pa), ("made", v3)]) ∧ H pa = some (.lst vs) ∧ RD K B (hid (pa :: x :: M) H) dp v1 ∧ RD K B (hid (pa :: x :: M) H) dm v3 ∧ RDs K B (hid (pa :: x :: M) H) past vs
structure KTr (K : PySem.W.Frag) (B : Option Addr) (M : List Addr) (x pa : Addr) (H H2 : Hp) : Prop where
  ex : Ex (hid (pa :: x :: M) H) (hid (pa :: x :: M) H2)
  pr : ∀ a ∈ M, B ≠ some a → H2 a = H a
  bg : ∀ b dr n ns, B = some b → Bag K (pa :: x :: M) b H dr n ns → ∃ n', Bag K (pa :: x :: M) b H2 dr n' ns
section
variable {K : PySem.W.Frag} {B : Option Addr} {M : List Addr} {C x pa : Addr} {H H2 H3 : Hp} {dp dm : D} {past : List D} {σ : L2.St} {δ : Dst} {i : Nat}
theorem KTr.refl : KTr K B M x pa H H := ⟨fun _ _ h => h, fun _ _ _ => rfl, fun _ _ n _ _ w => ⟨n, w⟩⟩
theorem KTr.trans (a : KTr K B M x pa H H2) (b : KTr K B M x pa H2 H3) : KTr K B M x pa H H3 :=
  ⟨fun c o h => b.ex c o (a.ex c o h), fun c m n => (b.pr c m n).trans (a.pr c m n), fun c dr n ns e w => by
    obtain ⟨n1, w1⟩ := a.bg c dr n ns e w
    exact b.bg c dr n1 ns e w1⟩
theorem subM : ∀ a ∈ M, a ∈ pa :: x :: M := fun a m => List.mem_cons_of_mem _ (List.mem_cons_of_mem _ m)
theorem KOk.okM (k : KOk K B M C x pa H dp dm past) : Ok K B M H := ⟨fun a m => k.ok.all a (subM a m), fun b e => by
  obtain ⟨dr, n, ns, w⟩ := k.ok.bag b e
  exact ⟨dr, n, ns, k.bm b e, w.at_, hid_sub H subM _ _ w.dr_, w.len, w.rng⟩⟩
theorem KOk.rd (k : KOk K B M C x pa H dp dm past) : RD K B (hid M H) (.ins C kF [dp, .lst past, dm]) (.ref x) := by
  obtain ⟨dx, v1, v3, vs, h1, h2, h3, h4, h5⟩ := k.at_
  have e : Ex (hid (pa :: x :: M) H) (hid M H) := hid_sub H subM
  exact ⟨x, dx, [v1, .ref pa, v3], rfl, hid_at k.nx h1, ⟨_, _, rfl, RD.ex e _ _ h3, _, _, rfl, ⟨pa, vs, rfl, hid_at k.np h2, RDs.ex e _ _ h5⟩, _, _, rfl, RD.ex e _ _ h4, rfl⟩⟩
/-- read as data -/
theorem KOk.rep (k : KOk K B M C x pa H dp dm past) (r : Rep K B (pa :: x :: M) H σ δ) (hi : σ[i]? = some (some (.ref x))) : Rep K B M H σ (δ.set i (some (.ins C kF [dp, .lst past, dm]))) := by
  have base : Rep K B M H σ δ := ⟨k.okM, r.len, fun j d hj => by
    obtain ⟨v, h1, h2⟩ := r.at_ j d hj
    exact ⟨v, h1, RD.ex (hid_sub H subM) _ _ h2⟩⟩
  have q := base.set (i := i) k.rd
  have li : i < σ.length := (List.getElem?_eq_some_iff.mp hi).1
  have e : σ.set i (some (.ref x)) = σ := by
    apply List.ext_getElem?
    intro j
    by_cases c : i = j
    · subst c
      rw [List.getElem?_set_self li, hi]
    · rw [List.getElem?_set_ne c]
  rwa [e] at q
/-- behind a step that reads -/
theorem KOk.back (k : KOk K B M C x pa H dp dm past) (t : Stp K B M H H2) : KOk K B M C x pa H2 dp dm past ∧ KTr K B M x pa H H2 := by
  obtain ⟨dx, v1, v3, vs, h1, h2, h3, h4, h5⟩ := k.at_
  have kx : ∀ a o, a ∉ M → H a = some o → H2 a = some o := fun a o n e => (hid_of (t.ex a o (hid_at n e))).2
  have ex : Ex (hid (pa :: x :: M) H) (hid (pa :: x :: M) H2) := fun a o e => by
    have q := hid_of e
    exact hid_at q.1 (kx a o (fun m => q.1 (subM a m)) q.2)
  have bg : ∀ b dr n ns, B = some b → Bag K (pa :: x :: M) b H dr n ns → ∃ n', Bag K (pa :: x :: M) b H2 dr n' ns := fun b dr n ns e w => by
    obtain ⟨n', w'⟩ := t.bg b dr n ns e ⟨k.bm b e, w.at_, hid_sub H subM _ _ w.dr_, w.len, w.rng⟩
    exact ⟨n', w.mem, w'.at_, hid_at (hid_of w.dr_).1 (hid_of w'.dr_).2, w.len, w.rng⟩
  have ok2 : Ok K B (pa :: x :: M) H2 := ⟨fun a m => by
    rcases List.mem_cons.mp m with c | m
    · rw [c]; exact ⟨_, kx pa _ k.np h2⟩
    rcases List.mem_cons.mp m with c | m
    · rw [c]; exact ⟨_, kx x _ k.nx h1⟩
    · exact (t.ok k.okM).all a m, fun b e => by
    obtain ⟨dr, n, ns, w⟩ := k.ok.bag b e
    obtain ⟨n', w'⟩ := bg b dr n ns e w
    exact ⟨dr, n', ns, w'⟩⟩
  exact ⟨⟨ok2, k.nx, k.np, k.bx, k.bp, k.bm, dx, v1, v3, vs, kx x _ k.nx h1, kx pa _ k.np h2, RD.ex ex _ _ h3, RD.ex ex _ _ h4, RDs.ex ex _ _ h5⟩, ex, t.pr, bg⟩
/-- x or its list is written -/
theorem k_write {a : Addr} {o : HO} (ok : Ok K B (pa :: x :: M) H) (ha : a = x ∨ a = pa) (nx : x ∉ M) (np : pa ∉ M) (bx : B ≠ some x) (bp : B ≠ some pa) : Ok K B (pa :: x :: M) (upd H a o) ∧ KTr K B M x pa H (upd H a o) ∧ hid (pa :: x :: M) (upd H a o) = hid (pa :: x :: M) H := by
  have mem : a ∈ pa :: x :: M := by
    rcases ha with e | e
    · rw [e]; exact List.mem_cons_of_mem _ List.mem_cons_self
    · rw [e]; exact List.mem_cons_self
  have nb : B ≠ some a := by rcases ha with e | e <;> rw [e] <;> assumption
  have nM : a ∉ M := by rcases ha with e | e <;> rw [e] <;> assumption
  have eh : hid (pa :: x :: M) (upd H a o) = hid (pa :: x :: M) H := hid_upd_mem mem
  have bg : ∀ b dr n ns, B = some b → Bag K (pa :: x :: M) b H dr n ns → ∃ n', Bag K (pa :: x :: M) b (upd H a o) dr n' ns := fun b dr n ns e w =>
    ⟨n, w.mem, (upd_ne (fun (c : b = a) => nb (by rw [← c]; exact e))).trans w.at_, by rw [eh]; exact w.dr_, w.len, w.rng⟩
  refine ⟨⟨fun c m => ?_, fun b e => ?_⟩, ⟨by rw [eh]; exact fun _ _ h => h, fun c m _ => upd_ne (fun (q : c = a) => nM (by rw [← q]; exact m)), bg⟩, eh⟩
  · by_cases q : c = a
    · exact ⟨_, by rw [q]; exact upd_same⟩
    · obtain ⟨o', h⟩ := ok.all c m
      exact ⟨o', (upd_ne q).trans h⟩
  · obtain ⟨dr, n, ns, w⟩ := ok.bag b e
    obtain ⟨n', w'⟩ := bg b dr n ns e w
    exact ⟨dr, n', ns, w'⟩
theorem KOk.ne (k : KOk K B M C x pa H dp dm past) : pa ≠ x := fun e => by
  obtain ⟨dx, v1, v3, vs, h1, h2, _⟩ := k.at_
  rw [e, h1] at h2; cases h2
theorem KTr.rep (t : KTr K B M x pa H H2) (ok : Ok K B (pa :: x :: M) H2) (r : Rep K B (pa :: x :: M) H σ δ) : Rep K B (pa :: x :: M) H2 σ δ := ⟨ok, r.len, fun j d hj => by
  obtain ⟨v, h1, h2⟩ := r.at_ j d hj
  exact ⟨v, h1, RD.ex t.ex _ _ h2⟩⟩
end
/-- what the text says of the class -/
structure KCls (K : PySem.W.Frag) (mg : Str → Option Value) (C : Addr) : Prop where
  cl : Cls K C
  n1 : NoAttr K C "parts"
  n2 : NoAttr K C "past"
  n3 : NoAttr K C "made"
  g : mg "Kept" = some (.ref C)
def spKInit (K : PySem.W.Frag) (C : Addr) : Sp := fun vs H Q E => ∃ B M x dx v1 v2 d1 d2, vs = [.ref x, v1, v2] ∧ Ok K B (x :: M) H ∧ x ∉ M ∧ B ≠ some x ∧ (∀ b, B = some b → b ∈ M) ∧ H x = some (.ins C dx []) ∧ RD K B (hid (x :: M) H) d1 v1 ∧ RD K B (hid (x :: M) H) d2 v2 ∧ IsParts d1 ∧ IsShare d2 ∧
  ∀ pa H2, H pa = none → KOk K B M C x pa H2 d1 (.tup []) [d2] → Ex (hid (x :: M) H) (hid (pa :: x :: M) H2) → (∀ a ∈ M, B ≠ some a → H2 a = H a) → (∀ b dr n ns, B = some b → Bag K (x :: M) b H dr n ns → ∃ n', Bag K (pa :: x :: M) b H2 dr n' ns) → Q .non H2
def spKPour (K : PySem.W.Frag) (C : Addr) : Sp := fun vs H Q E => ∃ B M x pa v p q y r w past, vs = [.ref x, v] ∧ KOk K B M C x pa H (pts p q) (rw_ r) (past ++ [fr y]) ∧ RD K B (hid (pa :: x :: M) H) (wd w) v ∧ Parts p q ∧ sz y 4480 ∧ r.length < 100 ∧ past.length < 1000 ∧
  ∀ H2, KTr K B M x pa H H2 → KOk K B M C x pa H2 (pts p q) (rw_ (r ++ [w])) (past ++ [fr y] ++ [fr (pour p q y w)]) → Q .non H2
def DefS (P : Program) (w : World) (K : PySem.W.Frag) (mg : Str → Option Value) (base : Heap) (k : Nat) (C : Addr) (m : Str) (ps : List Str) (sp : Sp) : Prop :=
  ∃ f fd, FnOk P w K mg base (L2.CX P w) k f fd ps sp ∧ Meth K C m f ∧ Binds K fd ps []
def dKept (C : Addr) (i : Nat) (da : DA) (w1 w2 : Bool) (u : DS) : DS := fun D δ => da δ (fun ds => ∃ p q x, ds = [pts p q, fr x] ∧ Parts p q ∧ Share x ∧ i < δ.length ∧
  u D (δ.set i (some (.ins C kF [pts p q, .lst [fr x, fr (pour p q x w1), fr (pour p q (pour p q x w1) w2)], rw_ [w1, w2]])))) D.ex
theorem wd_str (w : Bool) : wd w = .str (if w then "left" else "right") := by cases w <;> rfl
section
variable {X : Cx} {E : XK} {e1 e2 : Expr} {da : DA} {s1 : DS} {rest : List Stmt}
theorem b_kept {C fI : Addr} {kI kP j i : Nat} {y : Str} {c1 c2 : Str} {w1 w2 : Bool} {j1 j2 : Nat} {p1 p2 p3 p4 p5 p6 p7 p8 p9 p10 p11 p12 p13 : Pos} {psI : List Str} {fdI : FuncData} {pl1 pl2 : Sem Bool}
    (T : KCls X.K X.mg C) (hx0 : Passes (CXL X) X E) (hr : Room j X.A) (Mk_ : Mk X.K C fI) (FI : FnOk X.prog X.w X.K X.mg X.base (CXL X) kI fI fdI psI (spKInit X.K C)) (bI : Binds X.K fdI psI []) (FP : DefS X.prog X.w X.K X.mg X.base kP C "pour" ["self", "pour"] (spKPour X.K C))
    (ha : PDL X E [e1, e2] da) (hw1 : wd w1 = .str c1) (hw2 : wd w2 = .str c2) (hN : X.N.Nodup) (hi : X.N[i]? = some y) (hl : Loc X.env.scope y) (hb : PDB X E rest s1) (hkI : kI + 1 ≤ j := by decide) (hkP : kP ≤ j := by decide) (hg : Gl X "Kept" := by rfl)
    (he : starEach [e1, e2] X.env = (false, eval e1 X.env) :: starEach [e2] X.env := by rfl) (hpl : (backTo p3 (starEach [e2] X.env)).any (·.1) = false := by rfl)
    (hs : swapsWith (.Call (.Name "Kept" p2) [e1, e2] [] p3) (some (.Name y p1)) p4.line X.env = pure false := by rfl) (hf : X.fn y = true ∨ X.env.scope.names.lookup y = some .local := by first | exact .inl rfl | exact .inr rfl | assumption)
    (hv : Vis X.env.scope y := by first | exact Or.inl rfl | exact Or.inr (Or.inl rfl) | exact Or.inr (Or.inr rfl)) (hd : (y == ("__debug__" : Str)) = false := by decide) (hcd : (y == ("__classdict__" : Str)) = false := by decide)
    (hst1 : starEach [.Constant (.str c1) j1 p7] X.env = (false, eval (.Constant (.str c1) j1 p7) X.env) :: starEach [] X.env := by rfl) (hpl1 : (backTo p8 (starEach [] X.env)).any (·.1) = false := by rfl)
    (ht1 : eval (.Call (.Attribute (.Name y p5) "pour" p6) [.Constant (.str c1) j1 p7] [] p8) X.env = (do
      let ov ← eval (.Name y p5) X.env
      standAt p6.atName
      let (f, first) ← holding [ov] (getMethod ov "pour" pl1)
      callWith p8 f first (backTo p8 (starEach [.Constant (.str c1) j1 p7] X.env)) (backToKw p8 (keywordEach [] X.env))) := by rfl)
    (hsw1 : swapsWith (.Call (.Attribute (.Name y p5) "pour" p6) [.Constant (.str c1) j1 p7] [] p8) none p9.line X.env = pure false := by rfl)
    (hst2 : starEach [.Constant (.str c2) j2 p12] X.env = (false, eval (.Constant (.str c2) j2 p12) X.env) :: starEach [] X.env := by rfl) (hpl2 : (backTo p13 (starEach [] X.env)).any (·.1) = false := by rfl)
    {p14 : Pos}
    (ht2 : eval (.Call (.Attribute (.Name y p10) "pour" p11) [.Constant (.str c2) j2 p12] [] p13) X.env = (do
      let ov ← eval (.Name y p10) X.env
      standAt p11.atName
      let (f, first) ← holding [ov] (getMethod ov "pour" pl2)
      callWith p13 f first (backTo p13 (starEach [.Constant (.str c2) j2 p12] X.env)) (backToKw p13 (keywordEach [] X.env))) := by rfl)
    (hsw2 : swapsWith (.Call (.Attribute (.Name y p10) "pour" p11) [.Constant (.str c2) j2 p12] [] p13) none p14.line X.env = pure false := by rfl) :
    PDB X E (.Assign [.Name y p1] (.Call (.Name "Kept" p2) [e1, e2] [] p3) p4 :: .Expr (.Call (.Attribute (.Name y p5) "pour" p6) [.Constant (.str c1) j1 p7] [] p8) p9 :: .Expr (.Call (.Attribute (.Name y p10) "pour" p11) [.Constant (.str c2) j2 p12] [] p13) p14 :: rest) (dKept C i da w1 w2 s1) := by
  obtain ⟨ta, pa_, sa⟩ := ha
  obtain ⟨tr, pr_, sr⟩ := hb
  obtain ⟨fP, fdP, FP, MP, bP⟩ := FP
  refine ⟨_, pss_cons (ps_set hN hi hl (pe_make Mk_ FI (hr.mono hkI) hg T.g bI .nil hx0 pa_ (by decide) he hpl) hs hf)
    (pss_cons (ps_expr (pe_meth (pl := pl1) (pe_var hi hv hd hcd) T.cl MP FP (hr.mono hkP) bP .nil hx0 (pa_cons pe_str pa_nil hst1) hst1 hpl1 ht1) hsw1)
    (pss_cons (ps_expr (pe_meth (pl := pl2) (pe_var hi hv hd hcd) T.cl MP FP (hr.mono hkP) bP .nil hx0 (pa_cons pe_str pa_nil hst2) hst2 hpl2 ht2) hsw2) pr_)), fun B M σ δ H D0 D1 rp h l => ?_⟩
  refine sa B M σ δ H _ _ _ rp h (fun vs ds H1 hn t1 r1 q1 => ?_) l.ex
  obtain ⟨p, q, x0, rfl, hpq, hx, hil, hu⟩ := q1
  obtain ⟨v1, v2, rfl, rd1, rd2⟩ := RDs.two r1
  intro x dx hxn hdn hne
  have ok1 := t1.ok rp.ok
  -- the heap with the new object
  have td : Stp X.K B M H1 (upd H1 dx (.own x)) := .new ok1 hdn
  have okd := td.ok ok1
  have hxd : upd H1 dx (.own x) x = none := by rw [upd_ne hne.symm]; exact hxn
  have nxM : x ∉ M := okd.fresh hxd
  have bM : ∀ b, B = some b → b ∈ M := fun b e => by
    obtain ⟨dr, n, ns, w⟩ := ok1.bag b e
    exact w.mem
  have bx : B ≠ some x := fun e => nxM (bM x e)
  have exN : Ex (hid M (upd H1 dx (.own x))) (hid (x :: M) (upd (upd H1 dx (.own x)) x (.ins C dx []))) := hid_new hxd
  have ok2 : Ok X.K B (x :: M) (upd (upd H1 dx (.own x)) x (.ins C dx [])) := ⟨fun a m => by
    rcases List.mem_cons.mp m with c | m
    · rw [c]; exact ⟨_, upd_same⟩
    · obtain ⟨o, e⟩ := okd.all a m
      exact ⟨o, (upd_ne (fun (c : a = x) => nxM (by rw [← c]; exact m))).trans e⟩, fun b e => by
    obtain ⟨dr, n, ns, w⟩ := okd.bag b e
    exact ⟨dr, n, ns, List.mem_cons_of_mem _ w.mem, (upd_ne (fun (c : b = x) => bx (by rw [← c]; exact e))).trans w.at_, exN _ _ w.dr_, w.len, w.rng⟩⟩
  have e2 : Ex (hid M H1) (hid (x :: M) (upd (upd H1 dx (.own x)) x (.ins C dx []))) := fun a o z => exN a o (td.ex a o z)
  refine ⟨B, M, x, dx, v1, v2, pts p q, fr x0, rfl, ok2, nxM, bx, bM, upd_same, RD.ex e2 _ _ rd1, RD.ex e2 _ _ rd2, ⟨p, q, rfl, hpq⟩, ⟨x0, rfl, hx⟩, fun pa H2 hpa k2 ex2 pr2 bg2 => ⟨rfl, ?_⟩⟩
  have ex02 : Ex (hid M H) (hid (pa :: x :: M) H2) := fun a o z => ex2 a o (e2 a o (t1.ex a o z))
  have li : i < σ.length := by rw [rp.len]; exact hil
  have hσ : (σ.set i (some (V.ref x)))[i]? = some (some (.ref x)) := List.getElem?_set_self li
  have rp2 : Rep X.K B (pa :: x :: M) H2 (σ.set i (some (.ref x))) (δ.set i (some (.adr x))) := by
    have base : Rep X.K B (pa :: x :: M) H2 σ δ := ⟨k2.ok, rp.len, fun jj d hj => by
      obtain ⟨v, z1, z2⟩ := rp.at_ jj d hj
      exact ⟨v, z1, RD.ex ex02 _ _ z2⟩⟩
    exact base.set (d := .adr x) (v := .ref x) rfl
  -- the first pour
  obtain ⟨dx2, u1, u3, us, a1, a2, _⟩ := k2.at_
  refine ⟨.ref x, hσ, x, dx2, _, rfl, a1, rfl, ?_⟩
  have fx : sz x0 4480 := (share_U hx).sz.mono (by decide)
  refine ⟨B, M, x, pa, _, p, q, x0, [], w1, [], rfl, k2, by rw [hw1]; exact rfl, hpq, fx, by decide, by decide, fun H3 t3 k3 => ?_⟩
  obtain ⟨dx3, u1', u3', us', b1, b2, _⟩ := k3.at_
  refine ⟨.ref x, hσ, x, dx3, _, rfl, b1, rfl, ?_⟩
  have fy : sz (pour p q x0 w1) 4480 := (U_pour hpq.1 hpq.2.1 (share_U hx) w1).sz.mono (by decide)
  refine ⟨B, M, x, pa, _, p, q, pour p q x0 w1, [w1], w2, [fr x0], rfl, k3, by rw [hw2]; exact rfl, hpq, fy, by simp, by simp, fun H4 t4 k4 => ?_⟩
  have t24 := t3.trans t4
  have rp4 := k4.rep (i := i) (t24.rep k4.ok rp2) hσ
  rw [List.set_set] at rp4
  have tf : Stp X.K B M H H4 := by
    refine ⟨fun a o z => hid_sub H4 subM _ _ (t24.ex a o (ex02 a o z)), fun a m n => ?_, fun b dr n ns e w => ?_⟩
    · have nax : a ≠ x := fun c => nxM (c ▸ m)
      obtain ⟨o, ho⟩ := okd.all a m
      have e3 : upd (upd H1 dx (.own x)) x (.ins C dx []) a = H1 a := by
        rw [upd_ne nax]
        exact td.pr a m n
      rw [t24.pr a m n, pr2 a m n, e3]
      exact t1.pr a m n
    · obtain ⟨n1, w1'⟩ := t1.bg b dr n ns e w
      have hbx : b ≠ x := fun (c : b = x) => bx (by rw [← c]; exact e)
      have hbd : b ≠ dx := fun (c : b = dx) => by
        have := w1'.at_
        rw [c, hdn] at this; cases this
      obtain ⟨n2, w2'⟩ := bg2 b dr n1 ns e ⟨List.mem_cons_of_mem _ w1'.mem, by rw [upd_ne hbx, upd_ne hbd]; exact w1'.at_, e2 _ _ w1'.dr_, w1'.len, w1'.rng⟩
      obtain ⟨n4, w4⟩ := t24.bg b dr n2 ns e w2'
      exact ⟨n4, w.mem, w4.at_, hid_sub H4 subM _ _ w4.dr_, w.len, w.rng⟩
  exact sr B M _ _ H4 D0 D1 rp4 hu (l.stp tf)
end
/-! ### atoms and tuples alone: no list, no object in them -/
mutual
def D.tt : D → Bool
  | .non => true
  | .bl _ => true
  | .int _ => true
  | .str _ => true
  | .tup ds => tts ds
  | _ => false
def tts : List D → Bool
  | [] => true
  | d :: ds => d.tt && tts ds
end
section
variable {K : PySem.W.Frag} {B : Option Addr} {M Y : List Addr} {H : Hp}
theorem hid_more (hY : ∀ a ∈ Y, ∃ o, H a = some o ∧ (∀ xs, o ≠ .tup xs) ∧ ∀ ob u, o ≠ .frz ob u) {a : Addr} {o : HO} (e : hid M H a = some o) (ho : (∃ xs, o = .tup xs) ∨ ∃ ob u, o = .frz ob u) : hid (Y ++ M) H a = some o := by
  have q := hid_of e
  refine hid_at (fun m => ?_) q.2
  rcases List.mem_append.mp m with m | m
  · obtain ⟨o', h1, h2, h3⟩ := hY a m
    rw [q.2] at h1
    obtain rfl := Option.some.inj h1
    rcases ho with ⟨xs, e⟩ | ⟨ob, u, e⟩
    · exact h2 xs e
    · exact h3 ob u e
  · exact q.1 m
mutual
theorem RD.hide (hY : ∀ a ∈ Y, ∃ o, H a = some o ∧ (∀ xs, o ≠ .tup xs) ∧ ∀ ob u, o ≠ .frz ob u) : ∀ (d : D) (v : V), d.tt = true → RD K B (hid M H) d v → RD K B (hid (Y ++ M) H) d v
  | .non, _, _, h => h
  | .bl _, _, _, h => h
  | .int _, _, _, h => h
  | .str _, _, _, h => h
  | .tup ds, _, t, ⟨a, xs, e1, ⟨e2, e3⟩, e4⟩ => by
    refine ⟨a, xs, e1, ⟨?_, ?_⟩, RDs.hide hY ds xs (by simpa [D.tt] using t) e4⟩
    · rcases e2 with (z | ⟨o, z⟩) | z
      · exact .inl (.inl (hid_more hY z (.inl ⟨_, rfl⟩)))
      · exact .inl (.inr ⟨o, hid_more hY z (.inr ⟨_, _, rfl⟩)⟩)
      · exact .inr z
    · rcases e3 with ⟨o, u, z, n⟩ | z
      · exact .inl ⟨o, u, hid_more hY z (.inr ⟨_, _, rfl⟩), n⟩
      · exact .inr z
  | .lst _, _, t, _ => by simp [D.tt] at t
  | .bag, _, t, _ => by simp [D.tt] at t
  | .adr _, _, t, _ => by simp [D.tt] at t
  | .scr _, _, t, _ => by simp [D.tt] at t
  | .ins _ _ _, _, t, _ => by simp [D.tt] at t
  | .obj _, _, t, _ => by simp [D.tt] at t
theorem RDs.hide (hY : ∀ a ∈ Y, ∃ o, H a = some o ∧ (∀ xs, o ≠ .tup xs) ∧ ∀ ob u, o ≠ .frz ob u) : ∀ (ds : List D) (xs : List V), tts ds = true → RDs K B (hid M H) ds xs → RDs K B (hid (Y ++ M) H) ds xs
  | [], _, _, h => h
  | d :: ds, _, t, ⟨y, ys, e1, e2, e3⟩ => by
    have t' : d.tt = true ∧ tts ds = true := by simpa [tts] using t
    exact ⟨y, ys, e1, RD.hide hY d y t'.1 e2, RDs.hide hY ds ys t'.2 e3⟩
end
end
theorem KOk.far {K : PySem.W.Frag} {B : Option Addr} {M : List Addr} {C x pa : Addr} {H : Hp} {dp dm : D} {past : List D} {d : D} {v : V} (k : KOk K B M C x pa H dp dm past) (t : d.tt = true) (h : RD K B (hid M H) d v) : RD K B (hid (pa :: x :: M) H) d v := by
  obtain ⟨dx, v1, v3, vs, h1, h2, _⟩ := k.at_
  refine RD.hide (Y := [pa, x]) (fun a m => ?_) d v t h
  rcases List.mem_cons.mp m with c | m
  · rw [c]; exact ⟨_, h2, (fun _ z => nomatch z), (fun _ _ z => nomatch z)⟩
  · rw [List.mem_singleton.mp m]; exact ⟨_, h1, (fun _ z => nomatch z), (fun _ _ z => nomatch z)⟩
theorem rw_tt (r : List Bool) : (rw_ r).tt = true := by
  show tts (r.map wd) = true
  induction r with
  | nil => rfl
  | cons b r ih => rw [List.map_cons]; show ((wd b).tt && tts (r.map wd)) = true; rw [ih]; cases b <;> rfl
/-! ### the bodies of __init__ and pour -/
theorem ipa_plain {d : D} (h : IsParts d) : d.plain = true := by obtain ⟨p, q, rfl, _⟩ := h; rfl
theorem ish_plain {d : D} (h : IsShare d) : d.plain = true := by obtain ⟨x, rfl, _⟩ := h; rfl
section
variable {K : PySem.W.Frag} {mg : Str → Option Value} {C : Addr} {er : Er} {vs : List V} {H : Hp} {Q : VK} {E : XK}
theorem kinit_read {t1 t2 : TS} (T : KCls K mg C) (h : spKInit K C vs H Q E) (q1 : SS K E t1 (dDrop (dCall (sp_need_parts er) (dCons (dVar 1) dNil)))) (q2 : SS K E t2 (dDrop (dCall (sp_need_share er) (dCons (dVar 2) dNil)))) :
    (tSeq t1 (tSeq t2 (tSeq (sFld K (tVar 0) (tVar 1) "parts") (tSeq (sFld K (tVar 0) (tLst (tCons (tVar 2) tNil)) "past") (sFld K (tVar 0) (tTupN tNil) "made"))))) { nx := fun _ H' => Q .non H', rt := Q } (L2.start ["self", "parts", "share"] vs) H := by
  obtain ⟨B, M, x, dx, v1, v2, d1, d2, rfl, ok, nx, bx, bm, hx, r1, r2, ip, is, hq⟩ := h
  have rp : Rep K B (x :: M) H (L2.start ["self", "parts", "share"] [.ref x, v1, v2]) (dstart ["self", "parts", "share"] [.adr x, d1, d2]) := rep_start ok ⟨_, _, rfl, rfl, _, _, rfl, r1, _, _, rfl, r2, rfl⟩
  refine q1 B (x :: M) _ _ H { nx := fun δ' => δ' = dstart ["self", "parts", "share"] [.adr x, d1, d2], rt := fun _ => False, ex := fun _ => False } _ rp ⟨d1, rfl, ipa_plain ip, fun _ => rfl, fun n => absurd ip n⟩ ⟨fun σ1 δ1 H1 t1 rp1 e1 => ?_, fun _ _ _ _ _ z => z.elim, fun _ _ _ z => z.elim, fun _ _ _ _ _ z => z.elim, fun _ _ _ _ _ z => z.elim⟩
  subst e1
  refine q2 B (x :: M) _ _ H1 { nx := fun δ' => δ' = dstart ["self", "parts", "share"] [.adr x, d1, d2], rt := fun _ => False, ex := fun _ => False } _ rp1 ⟨d2, rfl, ish_plain is, fun _ => rfl, fun n => absurd is n⟩ ⟨fun σ2 δ2 H2 t2 rp2 e2 => ?_, fun _ _ _ _ _ z => z.elim, fun _ _ _ z => z.elim, fun _ _ _ _ _ z => z.elim, fun _ _ _ _ _ z => z.elim⟩
  subst e2
  have t := t1.trans t2
  have hx2 : H2 x = some (.ins C dx []) := (t.pr x List.mem_cons_self bx).trans hx
  obtain ⟨w0, s0, e0⟩ := rp2.at_ 0 (.adr x) rfl
  obtain rfl : w0 = .ref x := e0
  obtain ⟨w1, s1, e1⟩ := rp2.at_ 1 d1 rfl
  obtain ⟨w2, s2, e2⟩ := rp2.at_ 2 d2 rfl
  refine ⟨w1, s1, .ref x, s0, x, C, dx, [], rfl, hx2, T.cl, T.n1, (by show 0 < 1000; decide), ?_⟩
  refine ⟨w2, s2, line1000 (by show 1 ≤ 1000; decide), fun l hl => ?_⟩
  have nlx : l ≠ x := fun c => by rw [c, upd_same] at hl; cases hl
  have hl2 : H2 l = none := by rw [upd_ne nlx] at hl; exact hl
  refine ⟨.ref x, s0, x, C, dx, [("parts", w1)], rfl, by rw [upd_ne nlx.symm, upd_same]; rfl, T.cl, T.n2, (by show 1 < 1000; decide), ?_⟩
  refine ⟨Nat.zero_le _, fun p ob hp hob => ?_⟩
  have npx : p ≠ x := fun c => by rw [c, upd_same] at hp; cases hp
  have npl : p ≠ l := fun c => by rw [c, upd_ne nlx, upd_same] at hp; cases hp
  have hp2 : H2 p = none := by rw [upd_ne npx, upd_ne npl, upd_ne npx] at hp; exact hp
  refine ⟨.ref x, s0, x, C, dx, [("parts", w1), ("past", .ref l)], rfl, by rw [upd_ne npx.symm, upd_same]; rfl, T.cl, T.n3, (by show 2 < 1000; decide), ?_⟩
  have ok2 := rp2.ok
  have nl := ok2.fresh hl2
  have np := ok2.fresh hp2
  have same : ∀ a o, a ≠ x → H2 a = some o → upd (upd (upd (upd (upd H2 x (.ins C dx (putF "parts" w1 []))) l (.lst [w2])) x (.ins C dx (putF "past" (.ref l) [("parts", w1)]))) p (.frz ob (.tup []))) x (.ins C dx (putF "made" (.ref p) [("parts", w1), ("past", .ref l)])) a = some o := fun a o n e => by
    have nal : a ≠ l := ne_of_none e hl2
    have nap : a ≠ p := ne_of_none e hp2
    rw [upd_ne n, upd_ne nap, upd_ne n, upd_ne nal, upd_ne n]; exact e
  generalize eF : upd (upd (upd (upd (upd H2 x (.ins C dx (putF "parts" w1 []))) l (.lst [w2])) x (.ins C dx (putF "past" (.ref l) [("parts", w1)]))) p (.frz ob (.tup []))) x (.ins C dx (putF "made" (.ref p) [("parts", w1), ("past", .ref l)])) = HF at same ⊢
  have fx : HF x = some (.ins C dx [("parts", w1), ("past", .ref l), ("made", .ref p)]) := by rw [← eF, upd_same]; rfl
  have fl : HF l = some (.lst [w2]) := by rw [← eF, upd_ne nlx, upd_ne npl.symm, upd_ne nlx, upd_same]
  have fp : HF p = some (.frz ob (.tup [])) := by rw [← eF, upd_ne npx, upd_same]
  have ex : Ex (hid (x :: M) H2) (hid (l :: x :: M) HF) := fun a o z => by
    have q := hid_of z
    have nax : a ≠ x := fun c => q.1 (by rw [c]; exact List.mem_cons_self)
    refine hid_at (fun m => ?_) (same a o nax q.2)
    rcases List.mem_cons.mp m with c | m
    · exact ne_of_none q.2 hl2 c
    · exact q.1 m
  have npM : p ∉ l :: x :: M := fun m => by
    rcases List.mem_cons.mp m with c | m
    · exact npl c
    · exact np m
  have hpF : hid (l :: x :: M) HF p = some (.frz ob (.tup [])) := hid_at npM fp
  have bl : B ≠ some l := fun e => nl (List.mem_cons_of_mem _ (bm l e))
  have bg : ∀ b dr n ns, B = some b → Bag K (x :: M) b H2 dr n ns → Bag K (l :: x :: M) b HF dr n ns := fun b dr n ns e w =>
    ⟨List.mem_cons_of_mem _ w.mem, same b _ (fun c => bx (by rw [← c]; exact e)) w.at_, ex _ _ w.dr_, w.len, w.rng⟩
  refine hq l HF ?_ ⟨⟨fun a m => ?_, fun b e => ?_⟩, nx, fun m => nl (List.mem_cons_of_mem _ m), bx, bl, bm, dx, w1, .ref p, [w2], fx, fl, RD.ex ex _ _ e1, ⟨p, [], rfl, ⟨.inl (.inr ⟨ob, hpF⟩), .inl ⟨ob, _, hpF, hob⟩⟩, rfl⟩, ⟨w2, [], rfl, RD.ex ex _ _ e2, rfl⟩⟩ (fun a o z => ex a o (t.ex a o z)) (fun a m n => ?_) (fun b dr n ns e w => ?_)
  · cases e : H l with
    | none => rfl
    | some o =>
      have nlM : l ∉ x :: M := nl
      have := (hid_of (t.ex l o (hid_at nlM e))).2
      rw [hl2] at this; cases this
  · rcases List.mem_cons.mp m with c | m
    · rw [c]; exact ⟨_, fl⟩
    rcases List.mem_cons.mp m with c | m
    · rw [c]; exact ⟨_, fx⟩
    · obtain ⟨o, e⟩ := ok2.all a (List.mem_cons_of_mem _ m)
      exact ⟨o, same a o (fun c => nx (c ▸ m)) e⟩
  · obtain ⟨dr, n, ns, w⟩ := ok2.bag b e
    exact ⟨dr, n, ns, bg b dr n ns e w⟩
  · obtain ⟨o, e⟩ := ok2.all a (List.mem_cons_of_mem _ m)
    rw [same a o (fun c => nx (c ▸ m)) e, ← e]
    exact t.pr a (List.mem_cons_of_mem _ m) n
  · obtain ⟨n', w'⟩ := t.bg b dr n ns e w
    exact ⟨n', bg b dr n' ns e w'⟩
theorem kpour_read {t1 t2 : TT} {u1 u2 : TS} {ta tv : TE} (T : KCls K mg C) (h : spKPour K C vs H Q E) (q1 : ST K E t1 (dNot (dB (dCall sp_is_pour (dCons (dVar 1) dNil))))) (q2 : ST K E t2 (dB (dOp dEq (dC1 cLen (dFld C "made" (dVar 0))) (dC (.int 100)))))
    (qa : SE K E ta (dCall sp_poured (dCons (dFld C "parts" (dVar 0)) (dCons (dOp dIx (dFld C "past" (dVar 0)) (dNeg (dC (.int 1)))) (dCons (dVar 1) dNil))))) (qv : SE K E tv (dOp dCat (dFld C "made" (dVar 0)) (dTup (dCons (dVar 1) dNil)))) :
    (tSeq (tIfS t1 u1 tNext) (tSeq (tIfS t2 u2 tNext) (tSeq (tDrop (tBM K "list" rAppend (tFld K (tVar 0) "past") (tCons ta tNil))) (sFld K (tVar 0) tv "made")))) { nx := fun _ H' => Q .non H', rt := Q } (L2.start ["self", "pour"] vs) H := by
  obtain ⟨B, M, x, pa, v, p, q, y, r, w, past, rfl, k0, rw0, hpq, hy, hr, hl, hq⟩ := h
  have rp0 : Rep K B (pa :: x :: M) H (L2.start ["self", "pour"] [.ref x, v]) (dstart ["self", "pour"] [.adr x, wd w]) := rep_start k0.ok ⟨_, _, rfl, rfl, _, _, rfl, rw0, rfl⟩
  have isp : IsPour (wd w) := ⟨w, rfl⟩
  have elen : ((r.map wd).length : Int) = r.length := by rw [List.length_map]
  have bo : ∀ {H' : Hp} {dm : D} {ps : List D}, KOk K B M C x pa H' (pts p q) dm ps → KTr K B M x pa H H' → Rep K B M H' [some (.ref x), some v] [some (.ins C kF [pts p q, .lst ps, dm]), some (wd w)] := fun {H' dm ps} k t => (k.rep (i := 0) (t.rep k.ok rp0) rfl)
  refine q1 B M _ _ H (fun b => b = false) (fun _ => False) _ (bo k0 .refl) ⟨wd w, rfl, by cases w <;> rfl, fun b hb => by rw [hb.mpr isp]; rfl⟩ (fun b H1 t1 e1 => ?_) (fun _ _ _ z => z.elim)
  subst e1
  refine iteF ?_
  obtain ⟨k1, tr1⟩ := k0.back t1
  refine q2 B M _ _ H1 (fun b => b = false) (fun _ => False) _ (bo k1 tr1) ⟨rfl, _, rfl, eq_intF (by rw [elen]; omega) rfl⟩ (fun b H2 t2 e2 => ?_) (fun _ _ _ z => z.elim)
  subst e2
  refine iteF ?_
  obtain ⟨k2, tr2⟩ := k1.back t2
  have tr02 := tr1.trans tr2
  obtain ⟨dx, v1, v3, us, a1, a2, a3, a4, a5⟩ := k2.at_
  have elast : atI (past ++ [fr y]) (-1) = some (fr y) := by
    unfold atI
    have : ixN (past ++ [fr y]).length (-1) = some past.length := by
      rw [List.length_append]
      show ixN (past.length + 1) (-1) = some past.length
      unfold ixN
      simp
      omega
    rw [this]
    show (past ++ [fr y])[past.length]? = some (fr y)
    rw [List.getElem?_append_right (Nat.le_refl _), Nat.sub_self]; rfl
  refine ⟨.ref x, rfl, x, C, dx, _, .ref pa, rfl, a1, T.cl, T.n2, rfl, .inl ⟨rfl, us, SqL.of a2⟩, ?_⟩
  refine qa B M _ _ H2 (fun d => d = fr (pour p q y w)) (fun _ => False) _ (bo k2 tr02) ⟨rfl, _, rfl, rfl, _, rfl, ?_⟩ (fun u d H3 t3 r3 e3 => ?_) (fun _ _ _ z => z.elim)
  · show (match atI (past ++ [fr y]) (-1) with | some d => _ | none => False)
    rw [elast]
    exact ⟨p, q, y, w, rfl, hpq.1, hpq.2.1, hy, rfl⟩
  subst e3
  obtain ⟨k3, tr3⟩ := k2.back t3
  obtain ⟨dx3, v13, v33, us3, b1, b2, b3, b4, b5⟩ := k3.at_
  have r3' : RD K B (hid (pa :: x :: M) H3) (fr (pour p q y w)) u := k3.far rfl r3
  have l3 : us3.length = past.length + 1 := by rw [RDs.len b5, List.length_append]; rfl
  refine ⟨pa, us3, u, rfl, rfl, b2, Nat.lt_of_le_of_lt (m := 2000) (by omega) (by rw [sizeLine_eq]; decide), ?_⟩
  obtain ⟨ok4, tr4, eh4⟩ := k_write (a := pa) (o := .lst (us3 ++ [u])) k3.ok (.inr rfl) k3.nx k3.np k3.bx k3.bp
  have k4 : KOk K B M C x pa (upd H3 pa (.lst (us3 ++ [u]))) (pts p q) (rw_ r) (past ++ [fr y] ++ [fr (pour p q y w)]) :=
    ⟨ok4, k3.nx, k3.np, k3.bx, k3.bp, k3.bm, dx3, v13, v33, us3 ++ [u], (upd_ne k3.ne.symm).trans b1, upd_same, by rw [eh4]; exact b3, by rw [eh4]; exact b4, by rw [eh4]; exact RDs.app b5 ⟨u, [], rfl, r3', rfl⟩⟩
  have tr04 := (tr02.trans tr3).trans tr4
  refine qv B M _ _ _ (fun d => d = rw_ (r ++ [w])) (fun _ => False) _ (bo k4 tr04) ⟨rfl, _, rfl, by show (r.map wd).length + 1 ≤ 100000; rw [List.length_map]; omega, ?_⟩ (fun z d H5 t5 r5 e5 => ?_) (fun _ _ _ z => z.elim)
  · show D.tup (r.map wd ++ [wd w]) = rw_ (r ++ [w])
    unfold rw_; rw [List.map_append]; rfl
  subst e5
  obtain ⟨k5, tr5⟩ := k4.back t5
  obtain ⟨dx5, v15, v35, us5, c1, c2, c3, c4, c5⟩ := k5.at_
  have r5' : RD K B (hid (pa :: x :: M) H5) (rw_ (r ++ [w])) z := k5.far (rw_tt _) r5
  refine ⟨.ref x, rfl, x, C, dx5, _, rfl, c1, T.cl, T.n3, (by show 3 < 1000; decide), ?_⟩
  obtain ⟨ok6, tr6, eh6⟩ := k_write (a := x) (o := .ins C dx5 (putF "made" z [("parts", v15), ("past", .ref pa), ("made", v35)])) k5.ok (.inl rfl) k5.nx k5.np k5.bx k5.bp
  refine hq _ ((tr04.trans tr5).trans tr6) ⟨ok6, k5.nx, k5.np, k5.bx, k5.bp, k5.bm, dx5, v15, z, us5, by rw [upd_same]; rfl, (upd_ne k5.ne).trans c2, by rw [eh6]; exact c3, by rw [eh6]; exact r5', by rw [eh6]; exact c5⟩
end
end DL
/-! The law's own helpers. -/
namespace DL
open PySem PySem.Spec PyProof.Rows L2 PB
/-! ### the same defs under the law's names -/
abbrev sp_law_common := sp_common
abbrev sp_law_made := sp_made
abbrev sp_law_plus := sp_plus
abbrev sp_law_minus := sp_minus
abbrev sp_law_times := sp_times
abbrev sp_law_below := sp_is_less
abbrev N_law_common : List Str := ["one", "other"]
def t_law_common : DS :=
  (dSeq (dWhile (dB (dOp dNe (dVar 1) (dC (.int 0))))
    (dPar 0 1 (dVar 1) (dMod (dVar 0) (dVar 1))))
    (dRet (dVar 0)))

abbrev N_law_made : List Str := ["top", "bottom", "measure"]
def t_law_made : DS :=
  (dSeq (dSet 2 (dCall sp_law_common (dCons (dC1 cAbs (dVar 0)) (dCons (dVar 1) dNil))))
    (dRet (dTup (dCons (dDiv (dVar 0) (dVar 2)) (dCons (dDiv (dVar 1) (dVar 2)) dNil)))))

abbrev N_law_plus : List Str := ["one", "other"]
def t_law_plus : DS :=
  (dRet (dCall sp_law_made (dCons (dAdd (dMul (dOp dIx (dVar 0) (dC (.int 0))) (dOp dIx (dVar 1) (dC (.int 1)))) (dMul (dOp dIx (dVar 1) (dC (.int 0))) (dOp dIx (dVar 0) (dC (.int 1))))) (dCons (dMul (dOp dIx (dVar 0) (dC (.int 1))) (dOp dIx (dVar 1) (dC (.int 1)))) dNil))))

abbrev N_law_minus : List Str := ["one", "other"]
def t_law_minus : DS :=
  (dRet (dCall sp_law_made (dCons (dSub (dMul (dOp dIx (dVar 0) (dC (.int 0))) (dOp dIx (dVar 1) (dC (.int 1)))) (dMul (dOp dIx (dVar 1) (dC (.int 0))) (dOp dIx (dVar 0) (dC (.int 1))))) (dCons (dMul (dOp dIx (dVar 0) (dC (.int 1))) (dOp dIx (dVar 1) (dC (.int 1)))) dNil))))

abbrev N_law_times : List Str := ["one", "other"]
def t_law_times : DS :=
  (dRet (dCall sp_law_made (dCons (dMul (dOp dIx (dVar 0) (dC (.int 0))) (dOp dIx (dVar 1) (dC (.int 0)))) (dCons (dMul (dOp dIx (dVar 0) (dC (.int 1))) (dOp dIx (dVar 1) (dC (.int 1)))) dNil))))

abbrev N_law_below : List Str := ["one", "other"]
def t_law_below : DS :=
  (dRet (dLt (dMul (dOp dIx (dVar 0) (dC (.int 0))) (dOp dIx (dVar 1) (dC (.int 1)))) (dMul (dOp dIx (dVar 1) (dC (.int 0))) (dOp dIx (dVar 0) (dC (.int 1))))))

abbrev len_law_common := len_common
abbrev len_law_made := len_made
abbrev len_law_plus := len_plus
abbrev len_law_minus := len_minus
abbrev len_law_times := len_times
abbrev len_law_below := len_is_less
theorem pure_law_common (ds : List D) (k : D → Prop) (kx : Addr → Prop) (h : sp_law_common ds k kx) : t_law_common { nx := fun _ => k .non, rt := k, ex := kx } (dstart N_law_common ds) := pure_common ds k kx h
theorem pure_law_made (ds : List D) (k : D → Prop) (kx : Addr → Prop) (h : sp_law_made ds k kx) : t_law_made { nx := fun _ => k .non, rt := k, ex := kx } (dstart N_law_made ds) := pure_made ds k kx h
theorem pure_law_plus (ds : List D) (k : D → Prop) (kx : Addr → Prop) (h : sp_law_plus ds k kx) : t_law_plus { nx := fun _ => k .non, rt := k, ex := kx } (dstart N_law_plus ds) := pure_plus ds k kx h
theorem pure_law_minus (ds : List D) (k : D → Prop) (kx : Addr → Prop) (h : sp_law_minus ds k kx) : t_law_minus { nx := fun _ => k .non, rt := k, ex := kx } (dstart N_law_minus ds) := pure_minus ds k kx h
theorem pure_law_times (ds : List D) (k : D → Prop) (kx : Addr → Prop) (h : sp_law_times ds k kx) : t_law_times { nx := fun _ => k .non, rt := k, ex := kx } (dstart N_law_times ds) := pure_times ds k kx h
theorem pure_law_below (ds : List D) (k : D → Prop) (kx : Addr → Prop) (h : sp_law_below ds k kx) : t_law_below { nx := fun _ => k .non, rt := k, ex := kx } (dstart N_law_below ds) := pure_is_less ds k kx h
/-! ### draws -/
abbrev N_law_cell_at : List Str := ["script", "k"]
def t_law_cell_at : DS :=
  (dSeq (dIfS (dB (dLt (dVar 1) (dC1 cLen (dVar 0)))) (dRet (dOp dIx (dVar 0) (dVar 1))) dNext)
    (dRet (dC (.int 0))))

def sp_law_cell_at : DSp := fun ds k _ => ∃ (ns : List Int) (i : Int), ds = [.scr ns, .int i] ∧ 0 ≤ i ∧ ∀ c : Int, k (.int c)
theorem len_law_cell_at : ∀ ds k kx, sp_law_cell_at ds k kx → ds.length = 2 := by
  intro _ _ _ h
  unfold sp_law_cell_at at h
  obtain ⟨_, _, rfl, _⟩ := h; rfl
theorem pure_law_cell_at (ds : List D) (k : D → Prop) (kx : Addr → Prop) (h : sp_law_cell_at ds k kx) : t_law_cell_at { nx := fun _ => k .non, rt := k, ex := kx } (dstart N_law_cell_at ds) := by
  obtain ⟨ns, i, rfl, hi, h⟩ := h
  show if decide (i < (ns.length : Int)) = true then _ else _
  refine iteB (fun c => ?_) (fun c => h 0)
  have c := of_decide_eq_true c
  have hl : i.toNat < ns.length := by omega
  have e : atI ns i = some ns[i.toNat] := by
    have := atI_nat (xs := ns) (j := i.toNat) (v := ns[i.toNat]) (List.getElem?_eq_getElem hl)
    rwa [show ((i.toNat : Nat) : Int) = i by omega] at this
  show (match atI ns i with | some d => k (.int d) | none => False)
  rw [e]
  exact h _
abbrev N_law_draws : List Str := ["cell", "many", "size", "found", "rest", "stirred", "k"]
def t_law_draws : OS :=
  (oSeq (oNewL 3 dNil)
    (oSeq (oLift (dSet 4 (dMulS (dVar 0) (dC1 cInt (dGe (dVar 0) (dPow (dC (.int 10)) (dC (.int 18))))))))
    (oSeq (oLift (dSet 5 (dMod (dVar 0) (dC (.int 2305843009213693951)))))
    (oSeq (oFor (dItR1 (dAdd (dVar 1) (dC (.int 3)))) (gN 6)
    (oSeq (oLift (dSet 5 (dMod (dAdd (dAdd (dAdd (dMul (dVar 5) (dVar 5)) (dMul (dC (.int 48271)) (dVar 5))) (dVar 6)) (dC (.int 1))) (dC (.int 2305843009213693951)))))
    (oIf (dAnd (dB (dGt (dVar 6) (dC (.int 2)))) (dB (dGt (dVar 4) (dC (.int 0))))) (oSeq (oApp 3 (dMod (dVar 4) (dVar 2)))
    (oLift (dSet 4 (dDiv (dVar 4) (dVar 2))))) (oIf (dB (dGt (dVar 6) (dC (.int 2)))) (oApp 3 (dMod (dDiv (dVar 5) (dC (.int 4096))) (dVar 2))) oNext))))
    (oRetN 3)))))

def sp_law_draws : DSpN := fun ds k kn kx => ∃ (c : Int), ds = [.int c, .int 400, .int 1000] ∧ ∀ ns : List Int, ns.length = 400 → (∀ x ∈ ns, 0 ≤ x ∧ x < 1000) → kn (ns.map D.int)
theorem len_law_draws : ∀ ds k kn kx, sp_law_draws ds k kn kx → ds.length = 3 := by
  intro _ _ _ _ h
  unfold sp_law_draws at h
  obtain ⟨_, rfl, _⟩ := h; rfl
theorem mod1000 (x : Int) : 0 ≤ x % 1000 ∧ x % 1000 < 1000 := ⟨Int.emod_nonneg _ (by decide), Int.emod_lt_of_pos _ (by decide)⟩
theorem cdiv {i j : Int} (h : 0 < j) (h2 : j < 1000000) : CDivW i j := wide_div (b := 20) h (by omega) (by decide) (by decide)
theorem rng_get {lo : Int} {n i : Nat} {d : D} (h : (rngD lo n)[i]? = some d) : i < n ∧ d = .int (lo + (i : Int)) := by
  obtain ⟨j, hj, rfl⟩ := map_get h
  have hlt : i < n := by
    have := (List.getElem?_eq_some_iff.mp hj).1
    rwa [List.length_range] at this
  rw [List.getElem?_range hlt] at hj
  cases hj
  exact ⟨hlt, rfl⟩
theorem rng_len {lo : Int} {n : Nat} : (rngD lo n).length = n := by
  unfold rngD; rw [List.length_map, List.length_range]
theorem pure_law_draws (ds : List D) (k : D → Prop) (kn : List D → Prop) (kx : Addr → Prop) (h : sp_law_draws ds k kn kx) : t_law_draws { nx := fun _ _ => k .non, rt := k, rn := kn, ex := kx } (dstart N_law_draws ds) [] := by
  obtain ⟨c, rfl, h⟩ := h
  intro a _
  refine ⟨⟨by decide, by decide, by decide⟩, .inr ?_, (show (0 : Int) < 2305843009213693951 by decide), ⟨by decide, by decide⟩, ?_⟩
  · show -(2 ^ 64) < (if decide ((10 : Int) ^ (18 : Int).toNat ≤ c) = true then (1 : Int) else 0) ∧ (if decide ((10 : Int) ^ (18 : Int).toNat ≤ c) = true then (1 : Int) else 0) < 2 ^ 64
    split <;> decide
  · refine ⟨fun i δ μ => ∃ (rest st : Int) (ns : List Int) (z : Option D), δ = [some (.int c), some (.int 400), some (.int 1000), some (.adr a), some (.int rest), some (.int st), z] ∧ 0 ≤ st ∧ st < 2305843009213693951 ∧ ns.length = i - 3 ∧ (∀ x ∈ ns, 0 ≤ x ∧ x < 1000) ∧ μ = [(a, ns.map D.int)],
      ⟨_, _, [], none, rfl, Int.emod_nonneg _ (by decide), Int.emod_lt_of_pos _ (by decide), rfl, (fun x hx => nomatch hx), rfl⟩, ?_, ?_⟩
    · rintro i d δ' μ' hd ⟨rest, st, ns, z, rfl, s0, s1, hl, hr, rfl⟩
      obtain ⟨hi, rfl⟩ := rng_get hd
      have hi' : i < 403 := hi
      have hst : st.natAbs < 2 ^ 61 := by omega
      refine ⟨mulW hst hst (by decide) (by decide) (by decide), mulW (n := 20) (by decide) hst (by decide) (by decide) (by decide), (show (0 : Int) < 2305843009213693951 by decide), ?_⟩
      have m0 : 0 ≤ (st * st + 48271 * st + (0 + (i : Int)) + 1) % 2305843009213693951 := Int.emod_nonneg _ (by decide)
      have m1 : (st * st + 48271 * st + (0 + (i : Int)) + 1) % 2305843009213693951 < 2305843009213693951 := Int.emod_lt_of_pos _ (by decide)
      show if decide ((2 : Int) < 0 + (i : Int)) = true then (if decide ((0 : Int) < rest) = true then _ else _) else _
      have fin : ∀ (x rest' : Int), 2 < i → 0 ≤ x ∧ x < 1000 → ∃ (rest st' : Int) (ns' : List Int) (z : Option D), [some (.int c), some (.int 400), some (.int 1000), some (.adr a), some (.int rest'), some (.int ((st * st + 48271 * st + (0 + (i : Int)) + 1) % 2305843009213693951)), some (D.int (0 + (i : Int)))] = [some (.int c), some (.int 400), some (.int 1000), some (.adr a), some (.int rest), some (.int st'), z] ∧ 0 ≤ st' ∧ st' < 2305843009213693951 ∧ ns'.length = i + 1 - 3 ∧ (∀ x ∈ ns', 0 ≤ x ∧ x < 1000) ∧ [(a, ns.map D.int ++ [D.int x])] = [(a, ns'.map D.int)] := fun x rest' hi2 hx =>
        ⟨rest', _, ns ++ [x], _, rfl, m0, m1, by rw [List.length_append, hl]; show i - 3 + 1 = i + 1 - 3; omega, fun y hy => by
          rcases List.mem_append.mp hy with q | q
          · exact hr y q
          · rw [List.mem_singleton.mp q]; exact hx, by rw [List.map_append]; rfl⟩
      have len5 : (ns.map D.int).length < 100000 := by rw [List.length_map, hl]; omega
      refine iteB (fun c1 => ?_) (fun c1 => ?_)
      · have c1 := of_decide_eq_true c1
        refine iteB (fun c2 => ?_) (fun c2 => ?_)
        · exact ⟨a, [], _, [], rfl, rfl, len5, (show (0 : Int) < 1000 by decide), cdiv (by decide) (by decide), fin _ _ (by omega) (mod1000 _)⟩
        · show if decide ((2 : Int) < 0 + (i : Int)) = true then _ else _
          refine iteB (fun _ => ?_) (fun c3 => absurd c1 (of_decide_eq_false c3))
          exact ⟨a, [], _, [], rfl, rfl, len5, cdiv (by decide) (by decide), (show (0 : Int) < 1000 by decide), fin _ _ (by omega) (mod1000 _)⟩
      · have c1' := of_decide_eq_false c1
        show if decide ((2 : Int) < 0 + (i : Int)) = true then _ else _
        rw [c1]
        exact iteF ⟨rest, _, ns, _, rfl, m0, m1, by rw [hl]; omega, hr, rfl⟩
    · rintro δ' μ' ⟨rest, st, ns, z, rfl, s0, s1, hl, hr, rfl⟩
      rw [rng_len] at hl
      exact ⟨a, [], _, [], rfl, rfl, h ns hl hr⟩
/-! ### taking -/
abbrev N_law_take : List Str := ["bag", "many"]
def sp_law_take : DSp := fun ds k _ => ∃ (m : Int), ds = [.bag, .int m] ∧ 0 < m ∧ ∀ r : Int, 0 ≤ r → r < m → k (.int r)
theorem len_law_take : ∀ ds k kx, sp_law_take ds k kx → ds.length = 2 := by
  intro _ _ _ h
  unfold sp_law_take at h
  obtain ⟨_, rfl, _⟩ := h; rfl
abbrev N_law_far_draw : List Str := ["bag", "many", "found", "much"]
def t_law_far_draw : DS :=
  (dSeq (dPar 2 3 (dC (.int 0)) (dVar 1))
    (dSeq (dWhile (dB (dGt (dVar 3) (dC (.int 0))))
    (dPar 2 3 (dAdd (dMulS (dC (.int 1000)) (dVar 2)) (dCall sp_law_take (dCons (dVar 0) (dCons (dC (.int 1000)) dNil)))) (dDiv (dVar 3) (dC (.int 1000)))))
    (dRet (dOp dIx (dLst (dCons (dMod (dVar 2) (dVar 1)) (dCons (dC (.int 0)) (dCons (dSub (dVar 1) (dC (.int 1))) (dCons (dMod (dVar 2) (dVar 1)) dNil))))) (dCall sp_law_take (dCons (dVar 0) (dCons (dC (.int 4)) dNil)))))))

def sp_law_far_draw : DSp := fun ds k _ => ∃ (m : Int), ds = [.bag, .int m] ∧ 0 < m ∧ m ≤ 10 ^ 30 ∧ ∀ r : Int, 0 ≤ r → r < m → k (.int r)
theorem len_law_far_draw : ∀ ds k kx, sp_law_far_draw ds k kx → ds.length = 2 := by
  intro _ _ _ h
  unfold sp_law_far_draw at h
  obtain ⟨_, rfl, _⟩ := h; rfl
theorem pure_law_far_draw (ds : List D) (k : D → Prop) (kx : Addr → Prop) (h : sp_law_far_draw ds k kx) : t_law_far_draw { nx := fun _ => k .non, rt := k, ex := kx } (dstart N_law_far_draw ds) := by
  obtain ⟨m, rfl, hm, hM, h⟩ := h
  refine ⟨fun n δ => ∃ (f u : Int), δ = [some .bag, some (.int m), some (.int f), some (.int u)] ∧ 0 ≤ u ∧ 0 ≤ f ∧ n = u.toNat, ⟨_, 0, m, rfl, by omega, by decide, rfl⟩, ?_⟩
  rintro n δ' ⟨f, u, rfl, hu, hf, rfl⟩
  show if decide ((0 : Int) < u) = true then _ else _
  refine iteB (fun c => ?_) (fun c => ?_)
  · have c := of_decide_eq_true c
    refine ⟨.inl ⟨by decide, by decide⟩, 1000, rfl, by decide, fun r r0 r1 => ⟨cdiv (by decide) (by decide), _, ?_, _, _, rfl, by omega, by omega, rfl⟩⟩
    have : u / 1000 < u := by omega
    omega
  · refine ⟨hm, hm, 4, rfl, by decide, fun r r0 r1 => ?_⟩
    have a0 : 0 ≤ f % m := Int.emod_nonneg _ (by omega)
    have a1 : f % m < m := Int.emod_lt_of_pos _ hm
    have hr : r = 0 ∨ r = 1 ∨ r = 2 ∨ r = 3 := by omega
    rcases hr with rfl | rfl | rfl | rfl
    · exact h _ a0 a1
    · exact h 0 (by decide) hm
    · exact h (m - 1) (by omega) (by omega)
    · exact h _ a0 a1
end DL
namespace DL
open PySem PySem.Spec PyProof.Rows L2 PB
theorem mk_pos {t : Int} {n : Nat} (ht : 0 < t) (hn : 0 < n) : 0 < mkRat t n := by
  rw [Rat.mkRat_eq_div]
  have h1 : (0 : Rat) < (t : Rat) := Rat.intCast_pos.mpr ht
  have h2 : (0 : Rat) < (n : Rat) := Rat.natCast_pos.mpr hn
  rw [Rat.lt_div_iff h2]; grind
theorem mk_nonneg {t : Int} {n : Nat} (ht : 0 ≤ t) (hn : 0 < n) : 0 ≤ mkRat t n := by
  rcases Int.lt_or_eq_of_le ht with h | h
  · exact Rat.le_of_lt (mk_pos h hn)
  · rw [← h]; simp
theorem mk_lt1 {t : Int} {n : Nat} (ht : t < n) (hn : 0 < n) : mkRat t n < 1 := by
  rw [Rat.mkRat_eq_div]
  have h2 : (0 : Rat) < (n : Rat) := Rat.natCast_pos.mpr hn
  rw [Rat.div_lt_iff h2]
  have h3 : (t : Rat) < ((n : Int) : Rat) := Rat.intCast_lt_intCast.mpr ht
  have : (((n : Nat) : Int) : Rat) = (n : Rat) := rfl
  rw [this] at h3; grind
theorem mk_le1 {t : Int} {n : Nat} (ht : t ≤ n) (hn : 0 < n) : mkRat t n ≤ 1 := by
  rcases Int.lt_or_eq_of_le ht with h | h
  · exact Rat.le_of_lt (mk_lt1 h hn)
  · rw [h]
    have e : mkRat (n : Int) n = 1 := by
      have := Rat.mkRat_mul_left (n := 1) (d := 1) (a := n) (by omega)
      rw [Int.mul_one, Nat.mul_one] at this
      rw [this]; rfl
    rw [e]; exact Rat.le_refl
theorem mk_part {t b : Int} (h1 : 1 ≤ t) (h2 : t < b) (h3 : b ≤ 12) : Part (mkRat t b.toNat) :=
  ⟨mk_pos (by omega) (by omega), mk_lt1 (by omega) (by omega), Nat.le_trans (mkRat_den_le _ _ (by omega)) (by omega)⟩
abbrev N_law_a_part : List Str := ["bag", "bottom"]
def t_law_a_part : DS :=
  (dSeq (dSet 1 (dAdd (dC (.int 2)) (dCall sp_law_take (dCons (dVar 0) (dCons (dC (.int 11)) dNil)))))
    (dRet (dCall sp_law_made (dCons (dAdd (dC (.int 1)) (dCall sp_law_take (dCons (dVar 0) (dCons (dSub (dVar 1) (dC (.int 1))) dNil)))) (dCons (dVar 1) dNil)))))

def sp_law_a_part : DSp := fun ds k _ => ds = [.bag] ∧ ∀ x : Rat, Part x → k (fr x)
theorem len_law_a_part : ∀ ds k kx, sp_law_a_part ds k kx → ds.length = 1 := by
  intro _ _ _ h
  unfold sp_law_a_part at h
  obtain ⟨rfl, _⟩ := h; rfl
theorem small_abs {b : Int} (h0 : 0 ≤ b) (h : b < 2 ^ 200) : b.natAbs < 2 ^ 9000 := Nat.lt_of_lt_of_le (show b.natAbs < 2 ^ 200 by omega) (Nat.pow_le_pow_right (n := 2) (by decide) (by decide))
theorem pure_law_a_part (ds : List D) (k : D → Prop) (kx : Addr → Prop) (h : sp_law_a_part ds k kx) : t_law_a_part { nx := fun _ => k .non, rt := k, ex := kx } (dstart N_law_a_part ds) := by
  obtain ⟨rfl, h⟩ := h
  refine ⟨11, rfl, by decide, fun r r0 r1 => ⟨2 + r - 1, rfl, by omega, fun s s0 s1 => ⟨1 + s, 2 + r, rfl, by omega, small_abs (by omega) (by omega), h _ (mk_part (by omega) (by omega) (by omega))⟩⟩⟩
abbrev N_law_two_parts : List Str := ["bag", "one", "other"]
def t_law_two_parts : DS :=
  (dSeq (dPar 1 2 (dCall sp_law_a_part (dCons (dVar 0) dNil)) (dCall sp_law_a_part (dCons (dVar 0) dNil)))
    (dSeq (dIfS (dB (dOp dEq (dCall sp_law_take (dCons (dVar 0) (dCons (dC (.int 4)) dNil))) (dC (.int 0)))) (dSet 2 (dCall sp_law_minus (dCons (dTup (dCons (dC (.int 1)) (dCons (dC (.int 1)) dNil))) (dCons (dVar 1) dNil)))) dNext)
    (dSeq (dIfS (dB (dCall sp_law_below (dCons (dCall sp_law_plus (dCons (dVar 1) (dCons (dVar 2) dNil))) (dCons (dTup (dCons (dC (.int 1)) (dCons (dC (.int 1)) dNil))) dNil)))) (dPar 1 2 (dCall sp_law_minus (dCons (dTup (dCons (dC (.int 1)) (dCons (dC (.int 1)) dNil))) (dCons (dVar 1) dNil))) (dCall sp_law_minus (dCons (dTup (dCons (dC (.int 1)) (dCons (dC (.int 1)) dNil))) (dCons (dVar 2) dNil)))) dNext)
    (dRet (dTup (dCons (dVar 1) (dCons (dVar 2) dNil)))))))

def sp_law_two_parts : DSp := fun ds k _ => ds = [.bag] ∧ ∀ p q : Rat, Parts p q → k (pts p q)
theorem len_law_two_parts : ∀ ds k kx, sp_law_two_parts ds k kx → ds.length = 1 := by
  intro _ _ _ h
  unfold sp_law_two_parts at h
  obtain ⟨rfl, _⟩ := h; rfl
theorem pure_law_two_parts (ds : List D) (k : D → Prop) (kx : Addr → Prop) (h : sp_law_two_parts ds k kx) : t_law_two_parts { nx := fun _ => k .non, rt := k, ex := kx } (dstart N_law_two_parts ds) := by
  obtain ⟨rfl, h⟩ := h
  have fit : ∀ {p : Rat}, Part p → Fit p := fun hp => Fit.of (part_sz hp)
  have f1 : Fit 1 := Fit.of sz_one
  have fin : ∀ p q : Rat, Part p → Part q → (dSeq (dIfS (dB (dCall sp_law_below (dCons (dCall sp_law_plus (dCons (dVar 1) (dCons (dVar 2) dNil))) (dCons (dTup (dCons (dC (.int 1)) (dCons (dC (.int 1)) dNil))) dNil)))) (dPar 1 2 (dCall sp_law_minus (dCons (dTup (dCons (dC (.int 1)) (dCons (dC (.int 1)) dNil))) (dCons (dVar 1) dNil))) (dCall sp_law_minus (dCons (dTup (dCons (dC (.int 1)) (dCons (dC (.int 1)) dNil))) (dCons (dVar 2) dNil)))) dNext)
      (dRet (dTup (dCons (dVar 1) (dCons (dVar 2) dNil))))) { nx := fun _ => k .non, rt := k, ex := kx } [some .bag, some (fr p), some (fr q)] := fun p q hp hq => by
    refine ⟨p, q, rfl, fit hp, fit hq, p + q, 1, rfl, Fit.of (sz_add (part_sz hp) (part_sz hq)), f1, ?_⟩
    show if decide (p + q < 1) = true then _ else _
    refine iteB (fun c => ?_) (fun c => ?_)
    · have c := of_decide_eq_true c
      exact ⟨1, p, rfl, f1, fit hp, 1, q, rfl, f1, fit hq, h _ _ ⟨part_sub hp, part_sub hq, by grind⟩⟩
    · exact h _ _ ⟨hp, hq, Rat.not_lt.mp (of_decide_eq_false c)⟩
  refine ⟨rfl, fun p hp => ⟨rfl, fun q hq => ⟨4, rfl, by decide, fun r r0 r1 => eq_int ?_⟩⟩⟩
  show if decide (r = 0) = true then _ else _
  refine iteB (fun c => ?_) (fun c => fin p q hp hq)
  exact ⟨1, p, rfl, f1, fit hp, fin p (1 - p) hp (part_sub hp)⟩
abbrev N_law_a_share : List Str := ["bag", "bottom"]
def t_law_a_share : DS :=
  (dSeq (dSet 1 (dAdd (dC (.int 1)) (dOp dIx (dLst (dCons (dC (.int 0)) (dCons (dCall sp_law_take (dCons (dVar 0) (dCons (dC (.int 12)) dNil))) (dCons (dCall sp_law_far_draw (dCons (dVar 0) (dCons (dPow (dC (.int 10)) (dC (.int 17))) dNil))) dNil)))) (dCall sp_law_take (dCons (dVar 0) (dCons (dC (.int 3)) dNil))))))
    (dRet (dCall sp_law_made (dCons (dCall sp_law_far_draw (dCons (dVar 0) (dCons (dAdd (dVar 1) (dC (.int 1))) dNil))) (dCons (dVar 1) dNil)))))

def sp_law_a_share : DSp := fun ds k _ => ds = [.bag] ∧ ∀ x : Rat, Share x → k (fr x)
theorem len_law_a_share : ∀ ds k kx, sp_law_a_share ds k kx → ds.length = 1 := by
  intro _ _ _ h
  unfold sp_law_a_share at h
  obtain ⟨rfl, _⟩ := h; rfl
theorem pure_law_a_share (ds : List D) (k : D → Prop) (kx : Addr → Prop) (h : sp_law_a_share ds k kx) : t_law_a_share { nx := fun _ => k .non, rt := k, ex := kx } (dstart N_law_a_share ds) := by
  obtain ⟨rfl, h⟩ := h
  refine ⟨12, rfl, by decide, fun a a0 a1 => ⟨⟨by decide, by decide, by decide⟩, 10 ^ 17, rfl, by decide, by decide, fun b b0 b1 => ⟨3, rfl, by decide, fun c c0 c1 => ?_⟩⟩⟩
  have fin : ∀ v : Int, 0 ≤ v → v < 10 ^ 17 → (dRet (dCall sp_law_made (dCons (dCall sp_law_far_draw (dCons (dVar 0) (dCons (dAdd (dVar 1) (dC (.int 1))) dNil))) (dCons (dVar 1) dNil)))) { nx := fun _ => k .non, rt := k, ex := kx } [some .bag, some (.int (1 + v))] := fun v v0 v1 => by
    refine ⟨1 + v + 1, rfl, by omega, by omega, fun t t0 t1 => ⟨t, 1 + v, rfl, by omega, small_abs (by omega) (by omega), h _ ⟨mk_nonneg t0 (by omega), mk_le1 (by omega) (by omega), Nat.lt_of_le_of_lt (mkRat_den_le _ _ (by omega)) (by show (1 + v).toNat < 100000000000000000000; omega)⟩⟩⟩
  have hr : c = 0 ∨ c = 1 ∨ c = 2 := by omega
  rcases hr with rfl | rfl | rfl
  · exact fin 0 (by decide) (by decide)
  · exact fin a a0 (by omega)
  · exact fin b b0 b1
abbrev N_law_a_row : List Str := ["bag", "most", "turn"]
def t_law_a_row : DS :=
  (dRet (dC1 cTup (dLc (dItR1 (dCall sp_law_take (dCons (dVar 0) (dCons (dAdd (dVar 1) (dC (.int 1))) dNil)))) (gN 2) dYes (dOp dIx (dLst (dCons (dC (.str "right")) (dCons (dC (.str "left")) dNil))) (dCall sp_law_take (dCons (dVar 0) (dCons (dC (.int 2)) dNil)))) [2])))

def sp_law_a_row : DSp := fun ds k _ => ∃ (m : Int), ds = [.bag, .int m] ∧ 0 ≤ m ∧ m ≤ 1000 ∧ ∀ r : List Bool, (r.length : Int) ≤ m → k (rw_ r)
theorem len_law_a_row : ∀ ds k kx, sp_law_a_row ds k kx → ds.length = 2 := by
  intro _ _ _ h
  unfold sp_law_a_row at h
  obtain ⟨_, rfl, _⟩ := h; rfl
theorem pick2 {r : Int} (h0 : 0 ≤ r) (h1 : r < 2) : atI [D.str "right", D.str "left"] r = some (wd (decide (r = 1))) := by
  have hr : r = 0 ∨ r = 1 := by omega
  rcases hr with rfl | rfl <;> rfl
theorem pure_law_a_row (ds : List D) (k : D → Prop) (kx : Addr → Prop) (h : sp_law_a_row ds k kx) : t_law_a_row { nx := fun _ => k .non, rt := k, ex := kx } (dstart N_law_a_row ds) := by
  obtain ⟨m, rfl, hm, hM, h⟩ := h
  refine ⟨m + 1, rfl, by omega, fun n n0 n1 => ⟨⟨by omega, by omega⟩, by rw [rng_len]; omega, fun i acc => ∃ r : List Bool, r.length = i ∧ acc = r.map wd, ⟨[], rfl, rfl⟩, ?_, ?_⟩⟩
  · rintro i acc d hd ⟨r, hr, rfl⟩
    refine ⟨2, rfl, by decide, fun c c0 c1 => ?_⟩
    show (match atI [D.str "right", D.str "left"] c with | some d => _ | none => False)
    rw [pick2 c0 c1]
    exact ⟨r ++ [decide (c = 1)], by rw [List.length_append, hr]; rfl, by rw [List.map_append]; rfl⟩
  · rintro acc ⟨r, hr, rfl⟩
    rw [rng_len] at hr
    exact h r (by omega)
abbrev N_law_end : List Str := ["parts", "share", "row", "pour", "left_tub", "right_tub", "some"]
def t_law_end : DS :=
  (dSeq (dPar 4 5 (dVar 1) (dCall sp_law_minus (dCons (dTup (dCons (dC (.int 1)) (dCons (dC (.int 1)) dNil))) (dCons (dVar 1) dNil))))
    (dSeq (dFor (dItT (dVar 2)) (gN 3)
    (dIfS (dB (dOp dEq (dVar 3) (dC (.str "right")))) (dSeq (dSet 6 (dCall sp_law_times (dCons (dVar 4) (dCons (dOp dIx (dVar 0) (dC (.int 0))) dNil))))
    (dPar 4 5 (dCall sp_law_minus (dCons (dVar 4) (dCons (dVar 6) dNil))) (dCall sp_law_plus (dCons (dVar 5) (dCons (dVar 6) dNil))))) (dSeq (dSet 6 (dCall sp_law_times (dCons (dVar 5) (dCons (dOp dIx (dVar 0) (dC (.int 1))) dNil))))
    (dPar 4 5 (dCall sp_law_plus (dCons (dVar 4) (dCons (dVar 6) dNil))) (dCall sp_law_minus (dCons (dVar 5) (dCons (dVar 6) dNil)))))))
    (dRet (dVar 4))))

abbrev sp_law_end := sp_end_of
abbrev len_law_end := len_end_of
theorem U_sub {x : Rat} {n : Nat} (h : U x n) : U (1 - x) n := by
  obtain ⟨h0, h1, h2⟩ := h
  refine ⟨by grind, by grind, Nat.lt_of_le_of_lt (den_le (t := (x.den : Int) - x.num) x.den_pos ?_) h2⟩
  have e := mul_den x
  rw [Rat.intCast_sub, ← e]
  have : (((x.den : Nat) : Int) : Rat) = (x.den : Rat) := rfl
  rw [this]; grind
theorem pure_law_end (ds : List D) (k : D → Prop) (kx : Addr → Prop) (h : sp_law_end ds k kx) : t_law_end { nx := fun _ => k .non, rt := k, ex := kx } (dstart N_law_end ds) := by
  unfold sp_law_end sp_end_of at h
  obtain ⟨p, q, x, r, n, rfl, hp, hq, hx, hn, h⟩ := h
  refine ⟨1, x, rfl, Fit.of sz_one, hx.sz.mono (by omega), ?_⟩
  refine ⟨fun i δ => ∃ z1 z2, δ = [some (pts p q), some (fr x), some (rw_ r), z1, some (fr (pours p q x (r.take i))), some (fr (1 - pours p q x (r.take i))), z2], ⟨none, none, rfl⟩, ?_, ?_⟩
  · rintro i d δ' hd ⟨z1, z2, rfl⟩
    obtain ⟨w, hw, rfl⟩ := map_get hd
    have hl : i < r.length := (List.getElem?_eq_some_iff.mp hw).1
    have hu : U (pours p q x (r.take i)) 4476 := (U_pours hp hq (r.take i) hx).mono (by rw [List.length_take]; omega)
    have hs : ∀ y : Rat, y = pour p q (pours p q x (r.take i)) w → y = pours p q x (r.take (i + 1)) := fun y e => by rw [take_snoc hw, pours_snoc]; exact e
    generalize pours p q x (r.take i) = y at *
    have hv := U_sub hu
    refine eq_of (wd_shp w) str_shpR (wd_eq w) ?_
    have fy : Fit y := hu.sz.mono (by decide)
    have fv : Fit (1 - y) := hv.sz.mono (by decide)
    cases w with
    | false =>
      have fs : Fit (y * p) := (sz_mul hu.sz (part_sz hp)).mono (by decide)
      refine iteT ⟨y, p, rfl, fy, Fit.of (part_sz hp), y, y * p, rfl, fy, fs, 1 - y, y * p, rfl, fv, fs, some (wd false), some (fr (y * p)), ?_⟩
      have e1 : y - y * p = pours p q x (r.take (i + 1)) := hs _ (by show _ = y * (1 - p); grind)
      have e2 : 1 - y + y * p = 1 - pours p q x (r.take (i + 1)) := by rw [← e1]; grind
      rw [e1, e2]; rfl
    | true =>
      have fs : Fit ((1 - y) * q) := (sz_mul hv.sz (part_sz hq)).mono (by decide)
      refine iteF ⟨1 - y, q, rfl, fv, Fit.of (part_sz hq), y, (1 - y) * q, rfl, fy, fs, 1 - y, (1 - y) * q, rfl, fv, fs, some (wd true), some (fr ((1 - y) * q)), ?_⟩
      have e1 : y + (1 - y) * q = pours p q x (r.take (i + 1)) := hs _ (by show _ = y * (1 - q) + q; grind)
      have e2 : 1 - y - (1 - y) * q = 1 - pours p q x (r.take (i + 1)) := by rw [← e1]; grind
      rw [e1, e2]; rfl
  · rintro δ' ⟨z1, z2, rfl⟩
    rw [List.length_map, List.take_length]
    exact h
abbrev N_law_drawn : List Str := ["bag", "most", "parts", "share"]
def t_law_drawn : DS :=
  (dSeq (dSet 2 (dCall sp_law_two_parts (dCons (dVar 0) dNil)))
    (dSeq (dSet 3 (dCall sp_law_a_share (dCons (dVar 0) dNil)))
    (dRet (dTup (dCons (dVar 2) (dCons (dVar 3) (dCons (dCall sp_law_a_row (dCons (dVar 0) (dCons (dVar 1) dNil))) dNil)))))))

def sp_law_drawn : DSp := fun ds k _ => ∃ (m : Int), ds = [.bag, .int m] ∧ 0 ≤ m ∧ m ≤ 1000 ∧ ∀ p q x r, Parts p q → Share x → ((List.length r : Nat) : Int) ≤ m → k (.tup [pts p q, fr x, rw_ r])
theorem len_law_drawn : ∀ ds k kx, sp_law_drawn ds k kx → ds.length = 2 := by
  intro _ _ _ h
  unfold sp_law_drawn at h
  obtain ⟨_, rfl, _⟩ := h; rfl
theorem pure_law_drawn (ds : List D) (k : D → Prop) (kx : Addr → Prop) (h : sp_law_drawn ds k kx) : t_law_drawn { nx := fun _ => k .non, rt := k, ex := kx } (dstart N_law_drawn ds) := by
  obtain ⟨m, rfl, hm, hM, h⟩ := h
  exact ⟨rfl, fun p q hpq => ⟨rfl, fun x hx => ⟨m, rfl, hm, hM, fun r hr => h p q x r hpq hx hr⟩⟩⟩
end DL
/-! The bag: taking, making; the law's loop over bags. -/
namespace DL
open PySem PySem.Spec PyProof.Rows L2 PB
/-! ### _law_take -/
def t_take (K : PySem.W.Frag) : TS :=
  tSeq (tAsg (tOp (rI0 fun i j => .int (i + j)) (tOp (rIxL K) (tVar 0) (tC (.int 1))) (tC (.int 1))) (gSub (tVar 0) (tC (.int 1)) rSetL))
    (tRet (tOp (rI (fun _ j => 0 < j) fun i j => .int (i % j)) (tOp (rIxL K) (tOp (rIxL K) (tVar 0) (tC (.int 0)))
      (tOp (rI (fun _ j => 0 < j) fun i j => .int (i % j)) (tOp (rIxL K) (tVar 0) (tC (.int 1))) (tCB (fun xs H Q => ∃ p ys, xs = [.ref p] ∧ (SqL K H p ys ∨ SqT K H p ys) ∧ Q (.int ys.length) H) (tCons (tOp (rIxL K) (tVar 0) (tC (.int 0))) tNil)))) (tVar 1)))
theorem read_take {K : PySem.W.Frag} {vs : List V} {H : Hp} {Q : VK} {E : XK} (h : spD K sp_law_take vs H Q E) : t_take K { nx := fun _ H' => Q .non H', rt := Q } (L2.start N_law_take vs) H := by
  obtain ⟨B, M, ds, k, kx, ok, r, ⟨m, rfl, hm, hk⟩, hq, hx⟩ := h
  obtain ⟨v, w, rfl, ⟨b, eb, rfl⟩, rfl⟩ := RDs.two r
  obtain ⟨dr, n, ns, W⟩ := ok.bag b eb
  have hb := W.at_
  have hdr := hid_of W.dr_
  have ndb : dr ≠ b := fun e => hdr.1 (e ▸ W.mem)
  refine ⟨.ref b, rfl, b, _, 1, .int n, rfl, rfl, SqL.of hb, rfl, n, 1, rfl, rfl, .ref b, rfl, b, _, 1, 1, rfl, rfl, hb, rfl, ?_⟩
  have hb2 : (upd H b (.lst [.ref dr, .int (n + 1)])) b = some (.lst [.ref dr, .int (n + 1)]) := upd_same
  have hd2 : (upd H b (.lst [.ref dr, .int (n + 1)])) dr = some (.lst (ns.map V.int)) := (upd_ne ndb).trans hdr.2
  have j0 : 0 ≤ (n + 1) % 400 := Int.emod_nonneg _ (by decide)
  have j1 : (n + 1) % 400 < 400 := Int.emod_lt_of_pos _ (by decide)
  have hlt : ((n + 1) % 400).toNat < ns.length := by rw [W.len]; omega
  have e400 : ((ns.map V.int).length : Int) = 400 := by rw [List.length_map, W.len]; rfl
  have at1 : atI (ns.map V.int) ((n + 1) % 400) = some (.int ns[((n + 1) % 400).toNat]) := by
    have := atI_nat (xs := ns.map V.int) (j := ((n + 1) % 400).toNat) (v := .int ns[((n + 1) % 400).toNat]) (by rw [List.getElem?_map, List.getElem?_eq_getElem hlt]; rfl)
    rwa [show ((((n + 1) % 400).toNat : Nat) : Int) = (n + 1) % 400 by omega] at this
  refine ⟨.ref b, rfl, b, _, 0, .ref dr, rfl, rfl, SqL.of hb2, rfl, .ref b, rfl, b, _, 1, .int (n + 1), rfl, rfl, SqL.of hb2, rfl, .ref b, rfl, b, _, 0, .ref dr, rfl, rfl, SqL.of hb2, rfl, dr, _, rfl, .inl (SqL.of hd2), n + 1, 400, rfl, by rw [e400], (show (0 : Int) < 400 by decide), dr, _, (n + 1) % 400, _, rfl, rfl, SqL.of hd2, at1, .int m, rfl, _, m, rfl, rfl, hm, ?_⟩
  refine hq _ (.int (ns[((n + 1) % 400).toNat] % m)) _ ⟨?_, fun a ma na => ?_, fun b' dr' n' ns' e' w' => ?_⟩ rfl (hk _ (Int.emod_nonneg _ (by omega)) (Int.emod_lt_of_pos _ hm))
  · rw [hid_upd_mem W.mem]; exact fun _ _ q => q
  · exact upd_ne fun e => na (e ▸ eb)
  · have eb' : b' = b := by rw [eb] at e'; exact (Option.some.inj e').symm
    subst eb'
    have e1 := w'.at_
    rw [hb] at e1
    have e2 : dr = dr' := by simpa using (Option.some.inj e1 |> HO.lst.inj |> List.cons.inj).1
    subst e2
    exact ⟨n + 1, w'.mem, hb2, by rw [hid_upd_mem w'.mem]; exact w'.dr_, w'.len, w'.rng⟩
/-! ### bags -/
/-- a new bag at b -/
structure NewBag (H' : Hp) (b dr : Addr) (ns : List Int) : Prop where
  at_ : H' b = some (.lst [.ref dr, .int 0])
  dr_ : H' dr = some (.lst (ns.map V.int))
  ne : b ≠ dr
  len : ns.length = 400
  rng : ∀ x ∈ ns, 0 ≤ x ∧ x < 1000
def spBag (K : PySem.W.Frag) : Sp := fun vs H Q _ => ∃ (a : Addr) (xs : List Int) (i : Int), vs = [.ref a, .int i] ∧ SqL K H a (xs.map V.int) ∧ 0 ≤ i ∧ ∀ H' b dr ns, Ex H H' → H b = none → H dr = none → NewBag H' b dr ns → Q (.ref b) H'
def t_bag (K : PySem.W.Frag) (E : XK) : TS := tRet (tLst (tCons (tCall (spN K sp_law_draws) [] E (tCons (tCall (spD K sp_law_cell_at) [] E (tCons (tVar 0) (tCons (tVar 1) tNil))) (tCons (tC (.int 400)) (tCons (tC (.int 1000)) tNil)))) (tCons (tC (.int 0)) tNil)))
theorem ok0 {K : PySem.W.Frag} {H : Hp} : Ok K none [] H := ⟨fun a m => absurd m (List.not_mem_nil), fun b e => by cases e⟩
theorem stp0 {K : PySem.W.Frag} {H H2 : Hp} (t : Stp K none [] H H2) : Ex H H2 := fun a o e => (hid_of (t.ex a o (hid_at (List.not_mem_nil) e))).2
theorem hid0 (H : Hp) : hid [] H = H := by funext a; unfold hid; rw [if_neg (List.not_mem_nil)]
theorem read_bag {K : PySem.W.Frag} {vs : List V} {H : Hp} {Q : VK} {E : XK} (h : spBag K vs H Q E) : t_bag K E { nx := fun _ H' => Q .non H', rt := Q } (L2.start ["script", "k"] vs) H := by
  obtain ⟨a, xs, i, rfl, hS, hi, h⟩ := h
  refine ⟨.ref a, rfl, .int i, rfl, none, [], [.scr xs, .int i], fun d => ∃ c : Int, d = .int c, fun _ => False, ok0, ⟨_, _, rfl, ⟨a, rfl, by rw [hid0]; exact hS⟩, _, _, rfl, rfl, rfl⟩, ⟨xs, i, rfl, hi, fun c => ⟨c, rfl⟩⟩, ?_, fun _ _ _ q => q.elim⟩
  rintro v d H1 t1 r1 ⟨c, rfl⟩
  have ev : v = .int c := r1
  subst ev
  have e1 := stp0 t1
  refine ⟨none, [], [.int c, .int 400, .int 1000], fun _ => False, fun es => ∃ ns : List Int, es = ns.map D.int ∧ ns.length = 400 ∧ ∀ x ∈ ns, 0 ≤ x ∧ x < 1000, fun _ => False, ok0, ⟨_, _, rfl, rfl, _, _, rfl, rfl, _, _, rfl, rfl, rfl⟩, ⟨c, rfl, fun ns h1 h2 => ⟨ns, rfl, h1, h2⟩⟩, fun _ _ _ _ _ q => q.elim, ?_, fun _ _ _ q => q.elim⟩
  rintro dr es H2 t2 _ hdr ⟨ws, h1, h2⟩ ⟨ns, rfl, hl, hr⟩
  have e2 := stp0 t2
  have ew := RDs.of_ints ns ws h2
  subst ew
  refine ⟨line1000 (show 2 ≤ 1000 by decide), fun b hb => h _ b dr ns (fun q o e => ?_) (Evl.fresh_back e1 (Evl.fresh_back e2 hb)) (Evl.fresh_back e1 hdr) ⟨upd_same, (upd_ne (ne_of_none h1 hb)).trans h1, (ne_of_none h1 hb).symm, hl, hr⟩⟩
  exact Evl.Ex.new hb _ _ (e2 _ _ (e1 _ _ e))
/-- new bags, one apart from another, listed at p -/
structure NewBags (H' : Hp) (p : Addr) (bs : List Addr) : Prop where
  at_ : H' p = some (.lst (bs.map V.ref))
  nd : bs.Nodup
  each : ∀ b ∈ bs, b ≠ p ∧ ∃ dr ns, NewBag H' b dr ns ∧ dr ∉ bs
def spBags (K : PySem.W.Frag) : Sp := fun vs H Q _ => ∃ (a : Addr) (xs : List Int) (l : Int), vs = [.ref a, .int l] ∧ SqL K H a (xs.map V.int) ∧ 0 ≤ l ∧ l ≤ 63 ∧ ∀ H' p bs, Ex H H' → (∀ b ∈ bs, H b = none) → NewBags H' p bs → Q (.ref p) H'
abbrev N_law_bags : List Str := ["script", "limit", "k"]
def di_bags : DI := dItR1 (dOp cMax (dC (.int 1)) (dOp cMin (dVar 1) (dC1 cLen (dVar 0))))
def te_bags (K : PySem.W.Frag) : TE := tCall (spBag K) [] E0 (tCons (tVar 0) (tCons (tVar 2) tNil))
theorem read_bags {K : PySem.W.Frag} {vs : List V} {H : Hp} {Q : VK} {E : XK} {wi : TI} (hi : SI K E wi di_bags) (h : spBags K vs H Q E) : tRet (tLc wi (gName 2) tYes (te_bags K) [2]) { nx := fun _ H' => Q .non H', rt := Q } (L2.start N_law_bags vs) H := by
  obtain ⟨a, xs, l, rfl, hS, hl0, hl1, h⟩ := h
  have rp : Rep K none [] H (L2.start N_law_bags [.ref a, .int l]) (dstart N_law_bags [.scr xs, .int l]) := rep_start ok0 ⟨_, _, rfl, ⟨a, rfl, by rw [hid0]; exact hS⟩, _, _, rfl, rfl, rfl⟩
  refine hi none [] _ _ H (fun items => ∃ n : Nat, items = rngD 0 n ∧ n ≤ 63) (fun _ => False) _ rp ?_ ?_ (fun _ _ _ q => q.elim)
  · show (-(2 ^ 62) ≤ (if (if (xs.length : Int) < l then (xs.length : Int) else l) > 1 then (if (xs.length : Int) < l then (xs.length : Int) else l) else 1) ∧ (if (if (xs.length : Int) < l then (xs.length : Int) else l) > 1 then (if (xs.length : Int) < l then (xs.length : Int) else l) else 1) < 2 ^ 62) ∧ _
    refine ⟨⟨?_, ?_⟩, _, rfl, ?_⟩
    · split <;> split <;> omega
    · split <;> split <;> omega
    · split <;> split <;> omega
  · rintro J items H1 t1 wk ⟨n, rfl, hn⟩
    have e1 := stp0 t1
    intro L hL
    have hS1 : SqL K H1 a (xs.map V.int) := Evl.ex_l e1 hS
    refine ⟨fun i m H' => i + m = n ∧ Ex H1 H' ∧ ∃ bs : List Addr, bs.length = i ∧ H' L = some (.lst (bs.map V.ref)) ∧ bs.Nodup ∧ ∀ b ∈ bs, b ≠ L ∧ H1 b = none ∧ ∃ dr ns, NewBag H' b dr ns ∧ dr ∉ bs ∧ dr ≠ L, ⟨n, by omega, Evl.Ex.new hL, [], rfl, upd_same, List.nodup_nil, fun b hb => absurd hb (List.not_mem_nil)⟩, fun i m H' hW => ?_⟩
    obtain ⟨em, ex', bs, hb, hL', nd, each⟩ := hW
    obtain ⟨go, stop⟩ := wk [] H' (by rw [hid0, hid0]; exact ex') ok0
    rw [rng_len] at stop
    by_cases c : i = n
    · subst c
      exact .inl ⟨stop, h H' L bs (fun q o e => ex' _ _ (e1 _ _ e)) (fun b q => Evl.fresh_back e1 (each b q).2.1) ⟨hL', nd, fun b q => ⟨(each b q).1, by
        obtain ⟨_, _, dr, ns, w, h1, _⟩ := each b q
        exact ⟨dr, ns, w, h1⟩⟩⟩⟩
    · have hi' : i < n := by omega
      have hget : (rngD 0 n)[i]? = some (.int (0 + (i : Int))) := by unfold rngD; rw [List.getElem?_map, List.getElem?_range hi']; rfl
      obtain ⟨hg, hy⟩ := go i _ hget
      refine .inr ⟨hg, fun H2 => Ex H1 H2 ∧ ∃ bs : List Addr, bs.length = i + 1 ∧ H2 L = some (.lst (bs.map V.ref)) ∧ bs.Nodup ∧ ∀ b ∈ bs, b ≠ L ∧ H1 b = none ∧ ∃ dr ns, NewBag H2 b dr ns ∧ dr ∉ bs ∧ dr ≠ L, fun H2 hN => ⟨m - 1, by omega, by omega, hN⟩, fun x H2 hyl => ?_⟩
      obtain ⟨ex2, rx⟩ := hy x H2 hyl
      have ex12 : x = .int (0 + (i : Int)) := rx
      subst ex12
      refine ⟨rfl, .ref a, rfl, .int (0 + (i : Int)), rfl, a, xs, 0 + (i : Int), rfl, Evl.ex_l ex2 (Evl.ex_l ex' hS1), by omega, fun H3 b dr ns ex3 hb3 hdr3 w => ?_⟩
      have hL3 : H3 L = some (.lst (bs.map V.ref)) := ex3 _ _ (ex2 _ _ hL')
      have nbL : b ≠ L := fun e => by rw [e, ex2 _ _ hL'] at hb3; cases hb3
      have ndL : dr ≠ L := fun e => by rw [e, ex2 _ _ hL'] at hdr3; cases hdr3
      have keep : ∀ q o, q ≠ L → H3 q = some o → upd H3 L (.lst (bs.map V.ref ++ [.ref b])) q = some o := fun q o e z => (upd_ne e).trans z
      have exf : Ex H1 (upd H3 L (.lst (bs.map V.ref ++ [.ref b]))) := fun q o e => keep q o (ne_of_none e hL) (ex3 _ _ (ex2 _ _ (ex' _ _ e)))
      have old : ∀ b' ∈ bs, H' b' ≠ none := fun b' q => by
        obtain ⟨_, _, dr', ns', w', _⟩ := each b' q
        rw [w'.at_]; simp
      have hb3' : H' b = none := Evl.fresh_back ex2 hb3
      have hdr3' : H' dr = none := Evl.fresh_back ex2 hdr3
      have nbs : b ∉ bs := fun q => old b q hb3'
      have ndrs : dr ∉ bs := fun q => old dr q hdr3'
      refine ⟨bs.map V.ref, hL3, Nat.lt_of_le_of_lt (m := 63) (by rw [List.length_map]; omega) (by rw [sizeLine_eq]; decide), exf, bs ++ [b], by rw [List.length_append, hb]; rfl, by rw [upd_same, List.map_append]; rfl, ?_, fun b' hb' => ?_⟩
      · exact List.nodup_append.mpr ⟨nd, List.nodup_cons.mpr ⟨List.not_mem_nil, List.nodup_nil⟩, fun u hu v hv e => nbs (by rw [List.mem_singleton.mp hv] at e; exact e ▸ hu)⟩
      · rcases List.mem_append.mp hb' with q | q
        · obtain ⟨z1, z2, dr', ns', w', z3, z4⟩ := each b' q
          have ndb' : dr' ≠ b := fun e => by
            have := w'.dr_
            rw [e, hb3'] at this; cases this
          exact ⟨z1, z2, dr', ns', ⟨keep _ _ z1 (ex3 _ _ (ex2 _ _ w'.at_)), keep _ _ z4 (ex3 _ _ (ex2 _ _ w'.dr_)), w'.ne, w'.len, w'.rng⟩, fun z => by
            rcases List.mem_append.mp z with z | z
            · exact z3 z
            · exact ndb' (List.mem_singleton.mp z), z4⟩
        · rw [List.mem_singleton.mp q]
          exact ⟨nbL, Evl.fresh_back ex' hb3', dr, ns, ⟨keep _ _ nbL w.at_, keep _ _ ndL w.dr_, w.ne, w.len, w.rng⟩, fun z => by
            rcases List.mem_append.mp z with z | z
            · exact ndrs z
            · exact w.ne (List.mem_singleton.mp z).symm, ndL⟩
/-! ### the law's own body: nothing is hidden -/
def SS0 (K : PySem.W.Frag) (E : XK) (ts : TS) (ds : DS) : Prop := ∀ σ δ H D0 D1, Rep K none [] H σ δ → ds D0 δ → Lk K E none [] H D0 D1 → ts D1 σ H
def PDS0 (X : Cx) (E : XK) (s : Stmt) (ds : DS) : Prop := ∃ te, PS X s te ∧ SS0 X.K E te ds
def PDB0 (X : Cx) (E : XK) (s : List Stmt) (ds : DS) : Prop := ∃ te, PSs X s te ∧ SS0 X.K E te ds
section
variable {X : Cx} {E : XK} {st : Stmt} {rest : List Stmt} {s1 s2 : DS}
theorem b0_cons : PDS0 X E st s1 → PDB0 X E rest s2 → PDB0 X E (st :: rest) (dSeq s1 s2)
  | ⟨_, p1, q1⟩, ⟨_, p2, q2⟩ => ⟨_, pss_cons p1 p2, fun σ δ H D0 D1 rp h l => q1 σ δ H _ _ rp h
      ⟨fun σ' δ' H2 t r h2 => q2 σ' δ' H2 D0 D1 r h2 (l.stp t), l.rt, l.ex, l.bk, l.ct⟩⟩
theorem b0_lift : PDB X E rest s1 → PDB0 X E rest s1
  | ⟨_, p, q⟩ => ⟨_, p, fun σ δ H D0 D1 rp h l => q none [] σ δ H D0 D1 rp h l⟩
/-- for bag in _law_bags(script, l): body. Behind each turn only the script is known -/
def blank (n is : Nat) (ns : List Int) : Dst := (List.replicate n none).set is (some (.scr ns))
def dBags (n is ib : Nat) (l : Int) (os : OS) : DS := fun D δ => ∃ ns, δ = blank n is ns ∧ 0 ≤ l ∧ l ≤ 63 ∧ ib < n ∧ is < n ∧ is ≠ ib ∧ os { nx := fun δ' _ => δ'.length = n ∧ δ'[is]? = some (some (.scr ns)), rt := fun _ => False, rn := fun _ => False, ex := fun _ => False } ((blank n is ns).set ib (some .bag)) [] ∧ D.nx (blank n is ns)
theorem rep_blank {K : PySem.W.Frag} {H : Hp} {n is : Nat} {ns : List Int} {σ : L2.St} {v : V} (hl : σ.length = n) (hi : is < n) (hs : σ[is]? = some (some v)) (hr : RD K none H (.scr ns) v) : Rep K none [] H σ (blank n is ns) := by
  refine ⟨ok0, by unfold blank; rw [List.length_set, List.length_replicate]; exact hl, fun j d hj => ?_⟩
  unfold blank at hj
  by_cases c : is = j
  · subst c
    rw [List.getElem?_set_self (by rw [List.length_replicate]; exact hi)] at hj
    cases hj
    exact ⟨v, hs, by rw [hid0]; exact hr⟩
  · rw [List.getElem?_set_ne c, List.getElem?_replicate] at hj
    split at hj <;> cases hj
theorem blank_at {n is : Nat} {ns : List Int} (hi : is < n) : (blank n is ns)[is]? = some (some (.scr ns)) := by
  unfold blank
  rw [List.getElem?_set_self (by rw [List.length_replicate]; exact hi)]
/-- the state within a turn, its bag at b -/
theorem rep_turn {K : PySem.W.Frag} {H : Hp} {n is ib : Nat} {ns : List Int} {σ : L2.St} {v : V} {b dr : Addr} {ms : List Int} (hl : σ.length = n) (hi : is < n) (hb : ib < n) (hne : is ≠ ib) (hs : σ[is]? = some (some v)) (hr : RD K none H (.scr ns) v) (w : NewBag H b dr ms) :
    Rep K (some b) [b] H (σ.set ib (some (.ref b))) ((blank n is ns).set ib (some .bag)) := by
  have ok : Ok K (some b) [b] H := ⟨fun a m => by rw [List.mem_singleton.mp m]; exact ⟨_, w.at_⟩, fun b' e => by
    cases e
    exact ⟨dr, 0, ms, List.mem_singleton.mpr rfl, w.at_, hid_at (fun m => w.ne (List.mem_singleton.mp m).symm) w.dr_, w.len, w.rng⟩⟩
  have hr' : RD K (some b) (hid [b] H) (.scr ns) v := by
    obtain ⟨a, e, q⟩ := hr
    refine ⟨a, e, ?_⟩
    rcases q with (q | ⟨o, q⟩) | q
    · by_cases c : a = b
      · exfalso
        rw [c, w.at_] at q
        have := HO.lst.inj (Option.some.inj q)
        cases ns with
        | nil => cases this
        | cons x xs => simp at this
      · exact .inl (.inl (hid_at (fun m => c (List.mem_singleton.mp m)) q))
    · refine .inl (.inr ⟨o, hid_at (fun m => ?_) q⟩)
      rw [List.mem_singleton.mp m, w.at_] at q
      cases q
    · exact .inr q
  have base : Rep K (some b) [b] H σ (blank n is ns) := ⟨ok, by unfold blank; rw [List.length_set, List.length_replicate]; exact hl, fun j d hj => by
    unfold blank at hj
    by_cases c : is = j
    · subst c
      rw [List.getElem?_set_self (by rw [List.length_replicate]; exact hi)] at hj
      cases hj
      exact ⟨v, hs, hr'⟩
    · rw [List.getElem?_set_ne c, List.getElem?_replicate] at hj
      split at hj <;> cases hj⟩
  exact base.set (d := .bag) (v := .ref b) ⟨b, rfl, rfl⟩
theorem ss_bags {K : PySem.W.Frag} {n is ib : Nat} {l : Int} {tb : TS} {os : OS} (hb : SSo K E tb os) : SS0 K E (tFor (iList K (tCall (spBags K) [] E (tCons (tVar is) (tCons (tC (.int l)) tNil)))) (gName ib) tb) (dBags n is ib l os) := by
  intro σ δ H D0 D1 rp h lk
  obtain ⟨ns, rfl, hl0, hl1, hib, his, hne, hos, hnx⟩ := h
  obtain ⟨v, hs, hv⟩ := rp.at_ is _ (blank_at his)
  rw [hid0] at hv
  obtain ⟨a, rfl, hS⟩ := hv
  have hlen : σ.length = n := by rw [rp.len]; unfold blank; rw [List.length_set, List.length_replicate]
  refine ⟨.ref a, hs, a, ns, l, rfl, hS, hl0, hl1, fun H' p bs ex fr nb => ⟨p, rfl, ⟨_, SqL.of nb.at_⟩, ?_⟩⟩
  refine ⟨fun i m σ' H2 => i + m = bs.length ∧ Ex H H2 ∧ H2 p = some (.lst (bs.map V.ref)) ∧ (∀ j b, i ≤ j → bs[j]? = some b → ∃ dr ms, NewBag H2 b dr ms ∧ dr ∉ bs) ∧ σ'.length = n ∧ ∃ v, σ'[is]? = some (some v) ∧ RD K none H2 (.scr ns) v,
    ⟨bs.length, by omega, ex, nb.at_, fun j b _ hj => (nb.each b (List.mem_of_getElem? hj)).2, hlen, .ref a, hs, a, rfl, Evl.ex_l ex hS⟩, fun i m σ' H2 hW => ?_⟩
  obtain ⟨em, exH, hp, later, hl', v, hs', hv'⟩ := hW
  by_cases c : i = bs.length
  · subst c
    refine .inl ⟨⟨_, SqL.of hp, by rw [List.length_map]; exact Nat.le_refl _⟩, ?_⟩
    exact lk.nx _ _ H2 (Stp.same exH ok0) (rep_blank hl' his hs' hv') hnx
  · have hi : i < bs.length := by omega
    have hg : bs[i]? = some bs[i] := List.getElem?_eq_getElem hi
    have hg2 : (bs.map V.ref)[i]? = some (.ref bs[i]) := by rw [List.getElem?_map, hg]; rfl
    obtain ⟨dr, ms, w, hdr⟩ := later i _ (Nat.le_refl _) hg
    have hmem : bs[i] ∈ bs := List.mem_of_getElem? hg
    refine .inr ⟨⟨_, _, SqL.of hp, hg2⟩, fun σ3 H3 => Ex H H3 ∧ H3 p = some (.lst (bs.map V.ref)) ∧ (∀ j b, i + 1 ≤ j → bs[j]? = some b → ∃ dr ms, NewBag H3 b dr ms ∧ dr ∉ bs) ∧ σ3.length = n ∧ ∃ v, σ3[is]? = some (some v) ∧ RD K none H3 (.scr ns) v, fun σ3 H3 hN => ⟨m - 1, by omega, by omega, hN⟩, fun x H3 hy => ?_⟩
    obtain ⟨rfl, hx⟩ := hy
    have ex1 := hx _ (SqL.of hp)
    rw [hg2] at ex1
    cases ex1
    have rt := rep_turn (b := bs[i]) hl' his hib hne hs' hv' w
    have rg : RepG K (some bs[i]) [bs[i]] (hid [bs[i]] H3) H3 H3 (σ'.set ib (some (.ref bs[i]))) ((blank n is ns).set ib (some .bag)) [] :=
      ⟨fun _ _ _ => rfl, fun b e => by cases e; exact List.mem_singleton.mpr rfl, fun b dr n ns e w => ⟨n, w⟩, rt, fun p hp => absurd hp List.not_mem_nil, List.nodup_nil, fun e he => absurd he List.not_mem_nil, fun _ _ q => q⟩
    refine hb _ _ _ _ _ _ _ _ _ _ rg hos ⟨fun σ4 δ4 μ4 H4 r4 h4 => ?_, fun _ _ _ _ _ q => q.elim, fun _ _ _ _ q => q.elim, fun _ _ _ q => q.elim, fun _ _ _ _ _ q => q.elim, fun _ _ _ _ _ q => q.elim⟩
    have keep : ∀ q o, q ≠ bs[i] → H3 q = some o → H4 q = some o := fun q o ne e => (hid_of (r4.ex q o (hid_at (fun m => ne (List.mem_singleton.mp m)) e))).2
    obtain ⟨h41, h42⟩ := h4
    obtain ⟨v4, q1, a4, e4, q2⟩ := r4.rep.at_ is _ h42
    refine ⟨fun q o e => keep q o (fun z => by rw [z, fr _ hmem] at e; cases e) (exH q o e), keep p _ (nb.each _ hmem).1.symm hp, fun j b hj hjb => ?_, by rw [r4.rep.len]; exact h41, v4, q1, a4, e4, Evl.ex_l (hid_ex _ _) q2⟩
    obtain ⟨dr', ms', w', hdr'⟩ := later j b (by omega) hjb
    have nbj : b ≠ bs[i] := fun z => by
      have h1 : bs[j]? = bs[i]? := by rw [hjb, hg, z]
      have hjl : j < bs.length := (List.getElem?_eq_some_iff.mp hjb).1
      have := (List.getElem?_inj hi nb.nd).mp h1.symm
      omega
    exact ⟨dr', ms', ⟨keep _ _ nbj w'.at_, keep _ _ (fun z => hdr' (z ▸ hmem)) w'.dr_, w'.ne, w'.len, w'.rng⟩, hdr'⟩
/-- the def _law_bags -/
def DefBags (P : Program) (w : World) (K : PySem.W.Frag) (mg : Str → Option Value) (base : Heap) (k : Nat) : Prop :=
  ∃ f fd, FnOk P w K mg base (L2.CX P w) k f fd ["script", "limit"] (spBags K) ∧ mg "_law_bags" = some (.ref f) ∧ PySem.W.keepIn K (.ref f) = true ∧ Binds K fd ["script", "limit"] []
def DefBag (P : Program) (w : World) (K : PySem.W.Frag) (mg : Str → Option Value) (base : Heap) (k : Nat) : Prop :=
  ∃ f fd, FnOk P w K mg base (L2.CX P w) k f fd ["script", "k"] (spBag K) ∧ mg "_law_bag" = some (.ref f) ∧ PySem.W.keepIn K (.ref f) = true ∧ Binds K fd ["script", "k"] []
theorem s0_bags {n is ib j k : Nat} {l : Int} {os : OS} {body : List Stmt} {p1 p2 p3 p4 p5 pos : Pos} {jj : Nat} (hx : Passes (CXL X) X E) (hpo : PassesOwn (model X.prog X.w) X.A X.env X.xe) (hr : Room j X.A) (D : DefBags X.prog X.w X.K X.mg X.base k) (hb : PDBo X E body os) (hN : X.N.Nodup) (hi : X.N[ib]? = some "bag") (hi2 : X.N[is]? = some "script")
    (hkj : k ≤ j := by decide) (hc : X.calm = true := by rfl) (hg : Gl X "_law_bags" := by rfl) (hlo : Loc X.env.scope "bag" := by first | exact Or.inl rfl | exact Or.inr rfl) (hv : Vis X.env.scope "script" := by first | exact Or.inl rfl | exact Or.inr (Or.inl rfl) | exact Or.inr (Or.inr rfl)) (hf : X.fn "bag" = true ∨ X.env.scope.names.lookup ("bag" : Str) = some .local := by first | exact .inl rfl | exact .inr rfl)
    (he : starEach [.Name "script" p3, .Constant (.int l) jj p4] X.env = (false, eval (.Name "script" p3) X.env) :: starEach [.Constant (.int l) jj p4] X.env := by rfl) (he2 : starEach [.Constant (.int l) jj p4] X.env = (false, eval (.Constant (.int l) jj p4) X.env) :: starEach [] X.env := by rfl)
    (hpl : (backTo p5 (starEach [.Constant (.int l) jj p4] X.env)).any (·.1) = false := by rfl)
    (hs : ∀ x, foldedSetIterable (.Call (.Name "_law_bags" p2) [.Name "script" p3, .Constant (.int l) jj p4] [] p5) X.env x = pure x := by intro _; rfl) :
    PDS0 X E (.For (.Name "bag" p1) (.Call (.Name "_law_bags" p2) [.Name "script" p3, .Constant (.int l) jj p4] [] p5) body [] pos) (dBags n is ib l os) := by
  obtain ⟨f, fd, F, hm, hk, hbd⟩ := D
  obtain ⟨tb, q1, q2⟩ := hb
  exact ⟨_, ps_for hpo hc (pi_list (pe_call (F.mono hkj) hr hg hm hk hbd .nil hx (pa_cons (pe_var hi2 hv) (pa_cons pe_int pa_nil he2) he) (by decide) he hpl)) (pg_name hN hi hlo hf) q1 hs, ss_bags q2⟩
end
/-! ### the law's promise -/
def spLaw (K : PySem.W.Frag) : Sp := fun vs H Q _ => ∃ (a : Addr) (ns : List Int), vs = [.ref a] ∧ SqL K H a (ns.map V.int) ∧ ∀ H', Q (.bl true) H'
theorem read_law {K : PySem.W.Frag} {N : List Str} {vs : List V} {H : Hp} {Q : VK} {E : XK} {ts : TS} {ds : DS} (hs : SS0 K E ts ds) (hN : 0 < N.length) (h : spLaw K vs H Q E) (hd : ∀ ns, ds { nx := fun _ => False, rt := fun d => d = .bl true, ex := fun _ => False } (blank N.length 0 ns)) : ts { nx := fun _ H' => Q .non H', rt := Q } (L2.start N vs) H := by
  obtain ⟨a, ns, rfl, hS, h⟩ := h
  have e : blank N.length 0 ns = dstart N [.scr ns] := by
    unfold blank dstart
    cases N with
    | nil => cases hN
    | cons x xs => simp [List.replicate_succ]
  have rp : Rep K none [] H (L2.start N [.ref a]) (blank N.length 0 ns) := by
    rw [e]
    exact rep_start ok0 ⟨_, _, rfl, ⟨a, rfl, by rw [hid0]; exact hS⟩, rfl⟩
  refine hs _ _ H _ _ rp (hd ns) ⟨fun _ _ _ _ _ q => q.elim, fun v d H2 _ r q => ?_, fun _ _ _ q => q.elim, fun _ _ _ _ _ q => q.elim, fun _ _ _ _ _ q => q.elim⟩
  rw [q] at r
  rw [show v = .bl true from r]
  exact h _
end DL
/-! == of data; doors opened with right things. -/
namespace DL
open PySem PySem.Spec PyProof.Rows L2 PB
/-- may be compared, at most n deep -/
def D.sh (n : Nat) (d : D) : Prop := d.plain = true ∧ d.py.canLay0 = true ∧ d.py.depth ≤ n
theorem D.sh.shp {n : Nat} {d : D} (h : d.sh n) (hn : n ≤ 64 := by decide) : d.shp = true := by
  unfold D.shp SeqAt.shaped
  rw [h.1, h.2.1, decide_eq_true (Nat.le_trans h.2.2 hn)]; rfl
theorem sh_all {n : Nat} : ∀ {ds : List D}, (∀ d ∈ ds, D.sh n d) → plains ds = true ∧ PyData.canLayAll0 (pys ds) = true ∧ PyData.depthAll (pys ds) ≤ n
  | [], _ => ⟨rfl, by simp [pys, PyData.canLayAll0], by simp [pys, PyData.depthAll]⟩
  | d :: ds, h => by
    have h1 := h d List.mem_cons_self
    have h2 := sh_all (ds := ds) fun e he => h e (List.mem_cons_of_mem _ he)
    refine ⟨by show (d.plain && plains ds) = true; rw [h1.1, h2.1]; rfl, ?_, ?_⟩
    · simp only [pys, PyData.canLayAll0, h1.2.1, h2.2.1, Bool.and_self]
    · simp only [pys, PyData.depthAll]
      exact Nat.max_le.mpr ⟨h1.2.2, h2.2.2⟩
theorem sh_lst {n : Nat} {ds : List D} (h : ∀ d ∈ ds, D.sh n d) : D.sh (n + 1) (.lst ds) := by
  have h2 := sh_all h
  refine ⟨h2.1, ?_, ?_⟩
  · simp only [D.py, PyData.canLay0]; exact h2.2.1
  · simp only [D.py, PyData.depth]; exact Nat.succ_le_succ h2.2.2
theorem sh_tup {n : Nat} {ds : List D} (h : ∀ d ∈ ds, D.sh n d) : D.sh (n + 1) (.tup ds) := by
  have h2 := sh_all h
  refine ⟨h2.1, ?_, ?_⟩
  · simp only [D.py, PyData.canLay0]; exact h2.2.1
  · simp only [D.py, PyData.depth]; exact Nat.succ_le_succ h2.2.2
theorem sh_int (i : Int) (n : Nat) : D.sh n (.int i) := ⟨rfl, rfl, by simp [D.py, PyData.depth]⟩
theorem sh_bl (i : Bool) (n : Nat) : D.sh n (.bl i) := ⟨rfl, rfl, by simp [D.py, PyData.depth]⟩
theorem sh_non (n : Nat) : D.sh n .non := ⟨rfl, rfl, by simp [D.py, PyData.depth]⟩
theorem sh_wd (w : Bool) (n : Nat) : D.sh n (wd w) := by
  refine ⟨by cases w <;> rfl, by cases w <;> decide +kernel, ?_⟩
  cases w <;> simp [wd, D.py, PyData.depth]
theorem sh_fr (x : Rat) (n : Nat) : D.sh (n + 1) (fr x) := sh_tup fun d hd => by
  simp at hd
  rcases hd with rfl | rfl <;> exact sh_int _ _
theorem sh_rw (r : List Bool) (n : Nat) : D.sh (n + 1) (rw_ r) := sh_tup fun d hd => by
  obtain ⟨b, _, rfl⟩ := List.mem_map.mp hd
  exact sh_wd _ _
theorem rw_shp (r : List Bool) : (rw_ r).shp = true := (sh_rw r 0).shp
theorem frs_shp (xs : List Rat) : (D.lst (xs.map fr)).shp = true := (sh_lst (n := 1) fun d hd => by
  obtain ⟨x, _, rfl⟩ := List.mem_map.mp hd
  exact sh_fr x 0).shp
/-! equal -/
theorem eqD_tup (a b : List D) : eqD (.tup a) (.tup b) = PyData.eqvAll (pys a) (pys b) := by
  unfold eqD; simp only [D.py, PyData.eqv]
theorem eqD_lst (a b : List D) : eqD (.lst a) (.lst b) = PyData.eqvAll (pys a) (pys b) := by
  unfold eqD; simp only [D.py, PyData.eqv]
theorem eqA_cons (a b : D) (as bs : List D) : PyData.eqvAll (pys (a :: as)) (pys (b :: bs)) = (eqD a b && PyData.eqvAll (pys as) (pys bs)) := by
  unfold eqD; simp only [pys, PyData.eqvAll]
theorem eqA_nil : PyData.eqvAll (pys []) (pys []) = true := by simp only [pys, PyData.eqvAll]
theorem eqA_nc (b : D) (bs : List D) : PyData.eqvAll (pys []) (pys (b :: bs)) = false := by simp only [pys, PyData.eqvAll]
theorem eqA_cn (b : D) (bs : List D) : PyData.eqvAll (pys (b :: bs)) (pys []) = false := by simp only [pys, PyData.eqvAll]
theorem eqD_fr (x y : Rat) : eqD (fr x) (fr y) = decide (x = y) := by
  unfold fr
  rw [eqD_tup, eqA_cons, eqA_cons, eqA_nil, eqD_int, eqD_int]
  by_cases c : x = y
  · subst c; simp
  · rw [decide_eq_false c]
    by_cases c1 : x.num = y.num
    · have : ¬ ((x.den : Int) = y.den) := fun e => c (Rat.ext c1 (by omega))
      simp [this]
    · simp [c1]
theorem eqD_wd (a b : Bool) : eqD (wd a) (wd b) = decide (a = b) := by
  unfold eqD
  cases a <;> cases b <;> decide +kernel
/-- lists of like things: equal if all are -/
theorem eqA_map {α : Type} [DecidableEq α] {f : α → D} (h : ∀ x y, eqD (f x) (f y) = decide (x = y)) : ∀ (xs ys : List α), PyData.eqvAll (pys (xs.map f)) (pys (ys.map f)) = decide (xs = ys)
  | [], [] => by rw [List.map_nil, eqA_nil]; rfl
  | [], y :: ys => by rw [List.map_nil, List.map_cons, eqA_nc]; rfl
  | x :: xs, [] => by rw [List.map_nil, List.map_cons, eqA_cn]; rfl
  | x :: xs, y :: ys => by
    rw [List.map_cons, List.map_cons, eqA_cons, h, eqA_map h xs ys]
    by_cases c1 : x = y <;> by_cases c2 : xs = ys <;> simp [c1, c2]
theorem eqD_rw (r s : List Bool) : eqD (rw_ r) (rw_ s) = decide (r = s) := by
  unfold rw_
  rw [eqD_tup, eqA_map eqD_wd]
theorem eqD_frs (xs ys : List Rat) : eqD (.lst (xs.map fr)) (.lst (ys.map fr)) = decide (xs = ys) := by
  rw [eqD_lst, eqA_map eqD_fr]
section
variable {k : D → Prop}
theorem fr_ne {x y : Rat} (e : x = y) (h : k (.bl false)) : dNe (fr x) (fr y) k := ne_of (fr_shp x) (fr_shp y) ((eqD_fr x y).trans (decide_eq_true e)) h
theorem fr_neF {x y : Rat} (e : x ≠ y) (h : k (.bl true)) : dNe (fr x) (fr y) k := ne_of (fr_shp x) (fr_shp y) ((eqD_fr x y).trans (decide_eq_false e)) h
theorem fr_neB {x y : Rat} (h : k (.bl (!decide (x = y)))) : dNe (fr x) (fr y) k := ne_of (fr_shp x) (fr_shp y) (eqD_fr x y) h
theorem fr_eq {x y : Rat} (e : x = y) (h : k (.bl true)) : dEq (fr x) (fr y) k := eq_of (fr_shp x) (fr_shp y) ((eqD_fr x y).trans (decide_eq_true e)) h
theorem fr_eqB {x y : Rat} (h : k (.bl (decide (x = y)))) : dEq (fr x) (fr y) k := eq_of (fr_shp x) (fr_shp y) (eqD_fr x y) h
theorem rw_ne {r s : List Bool} (e : r = s) (h : k (.bl false)) : dNe (rw_ r) (rw_ s) k := ne_of (rw_shp r) (rw_shp s) ((eqD_rw r s).trans (decide_eq_true e)) h
theorem rw_neF {r s : List Bool} (e : r ≠ s) (h : k (.bl true)) : dNe (rw_ r) (rw_ s) k := ne_of (rw_shp r) (rw_shp s) ((eqD_rw r s).trans (decide_eq_false e)) h
theorem rw_neB {r s : List Bool} (h : k (.bl (!decide (r = s)))) : dNe (rw_ r) (rw_ s) k := ne_of (rw_shp r) (rw_shp s) (eqD_rw r s) h
theorem rw_eqB {r s : List Bool} (h : k (.bl (decide (r = s)))) : dEq (rw_ r) (rw_ s) k := eq_of (rw_shp r) (rw_shp s) (eqD_rw r s) h
theorem frs_ne {xs ys : List Rat} (e : xs = ys) (h : k (.bl false)) : dNe (.lst (xs.map fr)) (.lst (ys.map fr)) k := ne_of (frs_shp xs) (frs_shp ys) ((eqD_frs xs ys).trans (decide_eq_true e)) h
end
/-! ### doors -/
theorem wd_inj {a b : Bool} (h : wd a = wd b) : a = b := by
  have : eqD (wd a) (wd a) = eqD (wd a) (wd b) := by rw [← h]
  rw [eqD_wd, eqD_wd] at this
  simpa using this
theorem rw_inj {r s : List Bool} (h : rw_ r = rw_ s) : r = s := by
  have : eqD (rw_ r) (rw_ r) = eqD (rw_ r) (rw_ s) := by rw [← h]
  rw [eqD_rw, eqD_rw] at this
  simpa using this
theorem pts_inj {p q p' q' : Rat} (h : pts p q = pts p' q') : p = p' ∧ q = q' := by
  injection h with h
  injection h with h1 h2
  injection h2 with h2
  exact ⟨fr_inj h1, fr_inj h2⟩
theorem short_rw {r : List Bool} (h : r.length ≤ 40) : short (rw_ r) := fun es e => by
  injection e with e
  rw [← e, List.length_map]; omega
theorem behind_ok {er : Er} {p q x : Rat} {r : List Bool} {k : D → Prop} {kx : Addr → Prop} (hpq : Parts p q) (hx : Share x) (hr : r.length ≤ 40) (h : k (fr (pours p q x r))) : sp_behind er [pts p q, fr x, rw_ r] k kx := by
  unfold sp_behind
  exact ⟨_, _, _, rfl, ⟨pts_plain p q, fun _ => ⟨fr_plain x, fun _ => ⟨rw_plain r, short_rw hr⟩⟩⟩, fun n => absurd ⟨p, q, rfl, hpq⟩ n, fun _ n => absurd ⟨x, rfl, hx⟩ n, fun _ _ n => absurd ⟨r, rfl, hr⟩ n,
    fun p' q' x' r' e1 _ e2 _ e3 _ => by
      obtain ⟨rfl, rfl⟩ := pts_inj e1
      obtain rfl := fr_inj e2
      obtain rfl := rw_inj e3
      exact h⟩
theorem all_behind_ok {er : Er} {p q x : Rat} {r : List Bool} {k : D → Prop} {kn : List D → Prop} {kx : Addr → Prop} (hpq : Parts p q) (hx : Share x) (hr : r.length ≤ 40) (h : kn ((alls p q x r).map fr)) : sp_all_behind er [pts p q, fr x, rw_ r] k kn kx := by
  unfold sp_all_behind
  exact ⟨_, _, _, rfl, ⟨pts_plain p q, fun _ => ⟨fr_plain x, fun _ => ⟨rw_plain r, short_rw hr⟩⟩⟩, fun n => absurd ⟨p, q, rfl, hpq⟩ n, fun _ n => absurd ⟨x, rfl, hx⟩ n, fun _ _ n => absurd ⟨r, rfl, hr⟩ n,
    fun p' q' x' r' e1 _ e2 _ e3 _ => by
      obtain ⟨rfl, rfl⟩ := pts_inj e1
      obtain rfl := fr_inj e2
      obtain rfl := rw_inj e3
      exact h⟩
theorem ix_of {ds : List D} {i : Int} {d : D} {k : D → Prop} (h : atI ds i = some d) (q : k d) : dIx (.lst ds) (.int i) k := by
  show (match atI ds i with | some d => k d | none => False)
  rw [h]; exact q
theorem ixT_of {ds : List D} {i : Int} {d : D} {k : D → Prop} (h : atI ds i = some d) (q : k d) : dIx (.tup ds) (.int i) k := by
  show (match atI ds i with | some d => k d | none => False)
  rw [h]; exact q
/-! slices -/
theorem cut_take (xs : List D) (n : Nat) : cutD xs none (some (n : Int)) = xs.take n := by
  unfold cutD
  rw [HT.sIx_none, HT.sIx_nat]
  simp only [List.drop_zero, Nat.sub_zero]
  by_cases c : n ≤ xs.length
  · rw [Nat.min_eq_left c]
  · rw [Nat.min_eq_right (by omega), List.take_length, List.take_of_length_le (by omega)]
theorem cut_drop (xs : List D) (n : Nat) : cutD xs (some (n : Int)) none = xs.drop n := by
  unfold cutD
  rw [HT.sIx_none, HT.sIx_nat]
  by_cases c : n ≤ xs.length
  · rw [Nat.min_eq_left c, List.take_of_length_le (by rw [List.length_drop]; exact Nat.le_refl _)]
  · rw [Nat.min_eq_right (by omega), List.drop_of_length_le (Nat.le_refl _), List.drop_of_length_le (by omega)]
    simp
theorem cut_last (xs : List D) (y : D) : cutD (xs ++ [y]) none (some (-1)) = xs := by
  unfold cutD
  have e : HT.sIx (xs ++ [y]).length (xs ++ [y]).length (some (-1)) = xs.length := by
    show (if (-1 : Int) < 0 then (-1 + ((xs ++ [y]).length : Int)).toNat else min (-1 : Int).toNat (xs ++ [y]).length) = _
    rw [if_pos (by decide), List.length_append]
    show (-1 + ((xs.length + 1 : Nat) : Int)).toNat = _
    omega
  rw [e, HT.sIx_none]
  simp
theorem share_zero : Share 0 := ⟨Rat.le_refl, by decide, by decide⟩
theorem share_one : Share 1 := ⟨by decide, Rat.le_refl, by decide⟩
end DL
/-! Pours told back. -/
namespace DL
open PySem PySem.Spec PyProof.Rows L2 PB
/-! ### the mathematics -/
theorem le_div {a b c : Rat} (hc : 0 < c) : a ≤ b / c ↔ a * c ≤ b := by
  rw [← Rat.not_lt, ← Rat.not_lt, Rat.div_lt_iff hc]
theorem div_le {a b c : Rat} (hb : 0 < b) : a / b ≤ c ↔ a ≤ c * b := by
  rw [← Rat.not_lt, ← Rat.not_lt, Rat.lt_div_iff hb]
theorem div_one_self {a : Rat} (h : a ≠ 0) : a / a = 1 := by
  have := Rat.mul_div_cancel (a := 1) h
  rwa [Rat.one_mul] at this
theorem zero_over (a : Rat) : 0 / a = 0 := by rw [Rat.div_def, Rat.zero_mul]
abbrev Stt := List Bool × Rat
def inU (y : Rat) : Bool := decide (0 ≤ y) && decide (y ≤ 1)
theorem inU_iff {y : Rat} : inU y = true ↔ 0 ≤ y ∧ y ≤ 1 := by unfold inU; simp
def stepW (p q : Rat) (s : Stt) (w : Bool) : Option Stt := if inU (unpour p q s.2 w) = true then some (w :: s.1, unpour p q s.2 w) else none
def back1 (p q : Rat) (s : Stt) : List Stt := [false, true].filterMap (stepW p q s)
def back (p q : Rat) (ss : List Stt) : List Stt := ss.flatMap (back1 p q)
def backN (p q g : Rat) : Nat → List Stt
  | 0 => [([], g)]
  | n + 1 => back p q (backN p q g n)
theorem pour_unpour {p q x : Rat} (hp : Part p) (hq : Part q) (w : Bool) : pour p q (unpour p q x w) w = x := by
  have h1 := (part_sub hp).1
  have h2 := (part_sub hq).1
  have n1 : 1 - p ≠ 0 := fun e => by rw [e] at h1; exact absurd h1 (by decide)
  have n2 : 1 - q ≠ 0 := fun e => by rw [e] at h2; exact absurd h2 (by decide)
  cases w with
  | false => show x / (1 - p) * (1 - p) = x; exact Rat.div_mul_cancel n1
  | true =>
    show (x - q) / (1 - q) * (1 - q) + q = x
    rw [Rat.div_mul_cancel n2]; grind
theorem unpour_pour {p q x : Rat} (hp : Part p) (hq : Part q) (w : Bool) : unpour p q (pour p q x w) w = x := by
  have h1 := (part_sub hp).1
  have h2 := (part_sub hq).1
  have n1 : 1 - p ≠ 0 := fun e => by rw [e] at h1; exact absurd h1 (by decide)
  have n2 : 1 - q ≠ 0 := fun e => by rw [e] at h2; exact absurd h2 (by decide)
  cases w with
  | false => show x * (1 - p) / (1 - p) = x; exact Rat.mul_div_cancel n1
  | true =>
    show (x * (1 - q) + q - q) / (1 - q) = x
    rw [show x * (1 - q) + q - q = x * (1 - q) by grind, Rat.mul_div_cancel n2]
theorem unpour_sz {p q x : Rat} {n : Nat} (hp : Part p) (hq : Part q) (hx : sz x n) (w : Bool) : sz (unpour p q x w) (n + 9) := by
  cases w with
  | false => exact (sz_div (part_sub hp).1 hx (part_sz (part_sub hp))).mono (by omega)
  | true => exact (sz_div (part_sub hq).1 (sz_sub hx (part_sz hq)) (part_sz (part_sub hq))).mono (by omega)
theorem unpour_U {p q x : Rat} {n : Nat} (hp : Part p) (hq : Part q) (hx : sz x n) {w : Bool} (h : inU (unpour p q x w) = true) : U (unpour p q x w) (n + 9) :=
  ⟨(inU_iff.mp h).1, (inU_iff.mp h).2, (unpour_sz hp hq hx w).1⟩
theorem mem_back1 {p q : Rat} {s t : Stt} (h : t ∈ back1 p q s) : ∃ w, t = (w :: s.1, unpour p q s.2 w) ∧ inU (unpour p q s.2 w) = true := by
  unfold back1 at h
  obtain ⟨w, _, e⟩ := List.mem_filterMap.mp h
  unfold stepW at e
  by_cases c : inU (unpour p q s.2 w) = true
  · rw [if_pos c] at e; exact ⟨w, (Option.some.inj e).symm, c⟩
  · rw [if_neg c] at e; cases e
theorem back1_mem {p q : Rat} {s : Stt} {w : Bool} (c : inU (unpour p q s.2 w) = true) : (w :: s.1, unpour p q s.2 w) ∈ back1 p q s := by
  unfold back1
  refine List.mem_filterMap.mpr ⟨w, by cases w <;> simp, ?_⟩
  unfold stepW
  rw [if_pos c]
theorem backN_mem {p q g : Rat} {m : Nat} (hp : Part p) (hq : Part q) (hg : U g m) : ∀ (n : Nat) (s : Stt), s ∈ backN p q g n → s.1.length = n ∧ U s.2 (m + 9 * n) ∧ pours p q s.2 s.1 = g
  | 0, s, h => by
    have e : s = ([], g) := by simpa [backN] using h
    subst e
    exact ⟨rfl, hg, rfl⟩
  | n + 1, s, h => by
    have h' : s ∈ (backN p q g n).flatMap (back1 p q) := h
    obtain ⟨t, ht, hs⟩ := List.mem_flatMap.mp h'
    obtain ⟨h1, h2, h3⟩ := backN_mem hp hq hg n t ht
    obtain ⟨w, rfl, c⟩ := mem_back1 hs
    refine ⟨by show t.1.length + 1 = n + 1; rw [h1], (unpour_U hp hq h2.sz c).mono (by omega), ?_⟩
    show pours p q (pour p q (unpour p q t.2 w) w) t.1 = g
    rw [pour_unpour hp hq]; exact h3
/-- at most one, or the two that a fork leads to -/
def Thin (ss : List Stt) : Prop := ss.length ≤ 1 ∨ ∃ r s, ss = [(r, 1), (s, 0)]
theorem Thin.le {ss : List Stt} (h : Thin ss) : ss.length ≤ 2 := by
  rcases h with h | ⟨r, s, rfl⟩
  · omega
  · exact Nat.le_refl _
theorem lt_ne {a b : Rat} (h : a < b) : ¬ b ≤ a := Rat.not_le.mpr h
theorem unR {p q x : Rat} (hp : Part p) : inU (unpour p q x false) = true ↔ 0 ≤ x ∧ x ≤ 1 - p := by
  have h1 := (part_sub hp).1
  rw [inU_iff]
  show 0 ≤ x / (1 - p) ∧ x / (1 - p) ≤ 1 ↔ _
  rw [le_div h1, div_le h1, Rat.zero_mul, Rat.one_mul]
theorem unL {p q x : Rat} (hq : Part q) : inU (unpour p q x true) = true ↔ q ≤ x ∧ x ≤ 1 := by
  have h1 := (part_sub hq).1
  rw [inU_iff]
  show 0 ≤ (x - q) / (1 - q) ∧ (x - q) / (1 - q) ≤ 1 ↔ _
  rw [le_div h1, div_le h1, Rat.zero_mul, Rat.one_mul]
  constructor
  · rintro ⟨a, b⟩; constructor <;> grind
  · rintro ⟨a, b⟩; constructor <;> grind
theorem back1_eq (p q : Rat) (s : Stt) : back1 p q s = (if inU (unpour p q s.2 false) = true then [(false :: s.1, unpour p q s.2 false)] else []) ++ (if inU (unpour p q s.2 true) = true then [(true :: s.1, unpour p q s.2 true)] else []) := by
  unfold back1 stepW
  by_cases c1 : inU (unpour p q s.2 false) = true <;> by_cases c2 : inU (unpour p q s.2 true) = true <;> simp [c1, c2]
theorem fork {p q x : Rat} (h : Parts p q) (h1 : x ≤ 1 - p) (h2 : q ≤ x) : x = q ∧ 1 - p = q ∧ unpour p q x false = 1 ∧ unpour p q x true = 0 := by
  obtain ⟨hp, hq, hs⟩ := h
  have e1 : 1 - p = q := Rat.le_antisymm (by grind) (Rat.le_trans h2 h1)
  have e2 : x = q := Rat.le_antisymm (by rw [← e1]; exact h1) h2
  have n1 : q ≠ 0 := fun e => by have := hq.1; rw [e] at this; exact absurd this (by decide)
  refine ⟨e2, e1, ?_, ?_⟩
  · show x / (1 - p) = 1
    rw [e1, e2]; exact div_one_self n1
  · show (x - q) / (1 - q) = 0
    rw [e2]; rw [Rat.sub_self, zero_over]
theorem back1_one {p q : Rat} (h : Parts p q) (r : List Bool) : back1 p q (r, 1) = [(true :: r, 1)] := by
  obtain ⟨hp, hq, hs⟩ := h
  rw [back1_eq]
  have h0 := hp.1
  have c1 : ¬ inU (unpour p q 1 false) = true := fun c => by have := ((unR hp).mp c).2; grind
  have c2 : inU (unpour p q 1 true) = true := (unL hq).mpr ⟨Rat.le_of_lt hq.2.1, Rat.le_refl⟩
  have e : unpour p q 1 true = 1 := by
    have n2 : 1 - q ≠ 0 := fun e => by have := (part_sub hq).1; rw [e] at this; exact absurd this (by decide)
    show (1 - q) / (1 - q) = 1
    exact div_one_self n2
  rw [if_neg c1, if_pos c2, e]; rfl
theorem back1_zero {p q : Rat} (h : Parts p q) (r : List Bool) : back1 p q (r, 0) = [(false :: r, 0)] := by
  obtain ⟨hp, hq, hs⟩ := h
  rw [back1_eq]
  have h0 := hq.1
  have c1 : inU (unpour p q 0 false) = true := (unR hp).mpr ⟨Rat.le_refl, Rat.le_of_lt (part_sub hp).1⟩
  have c2 : ¬ inU (unpour p q 0 true) = true := fun c => by have := ((unL hq).mp c).1; grind
  have e : unpour p q 0 false = 0 := by show 0 / (1 - p) = 0; rw [zero_over]
  rw [if_pos c1, if_neg c2, e]; rfl
theorem thin_back {p q : Rat} (h : Parts p q) {ss : List Stt} (t : Thin ss) : Thin (back p q ss) := by
  rcases t with t | ⟨r, s, rfl⟩
  · match ss, t with
    | [], _ => exact .inl (Nat.zero_le _)
    | [s], _ =>
      show Thin ([s].flatMap (back1 p q))
      rw [List.flatMap_singleton, back1_eq]
      by_cases c1 : inU (unpour p q s.2 false) = true
      · by_cases c2 : inU (unpour p q s.2 true) = true
        · have f := fork h ((unR h.1).mp c1).2 ((unL h.2.1).mp c2).1
          rw [if_pos c1, if_pos c2, f.2.2.1, f.2.2.2]
          exact .inr ⟨_, _, rfl⟩
        · rw [if_pos c1, if_neg c2]; exact .inl (Nat.le_refl _)
      · by_cases c2 : inU (unpour p q s.2 true) = true
        · rw [if_neg c1, if_pos c2]; exact .inl (Nat.le_refl _)
        · rw [if_neg c1, if_neg c2]; exact .inl (Nat.zero_le _)
  · refine .inr ⟨true :: r, false :: s, ?_⟩
    show [(r, (1 : Rat)), (s, 0)].flatMap (back1 p q) = _
    rw [List.flatMap_cons, List.flatMap_singleton, back1_one h, back1_zero h]; rfl
theorem thin_N {p q : Rat} (h : Parts p q) (g : Rat) : ∀ n, Thin (backN p q g n)
  | 0 => .inl (Nat.le_refl _)
  | n + 1 => thin_back h (thin_N h g n)
/-! ### the data -/
def stt (s : Stt) : D := .tup [rw_ s.1, fr s.2]
abbrev N_is_between : List Str := ["share"]
def t_is_between : DS :=
  (dRet (dAndV (dGe (dOp dIx (dVar 0) (dC (.int 0))) (dC (.int 0))) (dNotV (dCall sp_is_less (dCons (dTup (dCons (dC (.int 1)) (dCons (dC (.int 1)) dNil))) (dCons (dVar 0) dNil))))))

def sp_is_between : DSp := fun ds k _ => ∃ (x : Rat), ds = [fr x] ∧ Fit x ∧ k (.bl (inU x))
theorem len_is_between : ∀ ds k kx, sp_is_between ds k kx → ds.length = 1 := by
  intro _ _ _ h
  unfold sp_is_between at h
  obtain ⟨_, rfl, _⟩ := h; rfl
theorem num_nonneg_dec (x : Rat) : decide ((0 : Int) ≤ x.num) = decide (0 ≤ x) := by
  by_cases c : 0 ≤ x
  · rw [decide_eq_true c, decide_eq_true (Rat.num_nonneg.mpr c)]
  · rw [decide_eq_false c, decide_eq_false (fun q => c (Rat.num_nonneg.mp q))]
theorem not_lt_dec (x y : Rat) : (!decide (x < y)) = decide (y ≤ x) := by
  by_cases c : x < y
  · rw [decide_eq_true c, decide_eq_false (Rat.not_le.mpr c)]; rfl
  · rw [decide_eq_false c, decide_eq_true (Rat.not_lt.mp c)]; rfl
theorem pure_is_between (ds : List D) (k : D → Prop) (kx : Addr → Prop) (h : sp_is_between ds k kx) : t_is_between { nx := fun _ => k .non, rt := k, ex := kx } (dstart N_is_between ds) := by
  obtain ⟨x, rfl, hx, h⟩ := h
  unfold inU at h
  show if decide ((0 : Int) ≤ x.num) = true then _ else _
  rw [num_nonneg_dec]
  refine iteB (fun c => ?_) (fun c => ?_)
  · refine ⟨1, x, rfl, Fit.of sz_one, hx, ?_⟩
    show k (.bl (!decide (1 < x)))
    rw [not_lt_dec]
    rw [c] at h; exact h
  · rw [c] at h; exact h
abbrev N_one_back : List Str := ["parts", "states", "found", "row", "share", "pour", "ahead"]
def t_one_back : OS :=
  (oSeq (oNewL 2 dNil)
    (oSeq (oFor (dItL (dVar 1)) (gTp 2 (gCn (gN 3) (gCn (gN 4) gNl)))
    (oFor (dItT (dC (.tup [.str "right", .str "left"]))) (gN 5)
    (oSeq (oLift (dSet 6 (dCall sp_unpoured (dCons (dVar 0) (dCons (dVar 4) (dCons (dVar 5) dNil))))))
    (oIf (dB (dCall sp_is_between (dCons (dVar 6) dNil))) (oApp 2 (dTup (dCons (dOp dCat (dTup (dCons (dVar 5) dNil)) (dVar 3)) (dCons (dVar 6) dNil)))) oNext))))
    (oRetN 2)))

@[irreducible] def sp_one_back : DSpN := fun ds k kn kx => ∃ (p q : Rat) (ss : List Stt) (n : Nat), ds = [pts p q, .lst (ss.map stt)] ∧ Part p ∧ Part q ∧ n ≤ 4400 ∧ ss.length ≤ 1000 ∧ (∀ s ∈ ss, U s.2 n ∧ s.1.length ≤ 1000) ∧ kn ((back p q ss).map stt)
theorem len_one_back : ∀ ds k kn kx, sp_one_back ds k kn kx → ds.length = 2 := by
  intro _ _ _ _ h
  unfold sp_one_back at h
  obtain ⟨_, _, _, _, rfl, _⟩ := h; rfl
theorem back_le (p q : Rat) (ss : List Stt) : (back p q ss).length ≤ 2 * ss.length := by
  induction ss with
  | nil => exact Nat.le_refl _
  | cons s ss ih =>
    have e : back p q (s :: ss) = back1 p q s ++ back p q ss := List.flatMap_cons
    have l : (back1 p q s).length ≤ 2 := List.length_filterMap_le _ _
    rw [e, List.length_append, List.length_cons]
    omega
theorem pure_one_back (ds : List D) (k : D → Prop) (kn : List D → Prop) (kx : Addr → Prop) (h : sp_one_back ds k kn kx) : t_one_back { nx := fun _ _ => k .non, rt := k, rn := kn, ex := kx } (dstart N_one_back ds) [] := by
  unfold sp_one_back at h
  obtain ⟨p, q, ss, n, rfl, hp, hq, hn, hl, hs, h⟩ := h
  intro a _
  refine ⟨fun i δ μ => ∃ z1 z2 z3 z4, δ = [some (pts p q), some (.lst (ss.map stt)), some (.adr a), z1, z2, z3, z4] ∧ i ≤ ss.length ∧ μ = [(a, (back p q (ss.take i)).map stt)], ⟨none, none, none, none, rfl, Nat.zero_le _, rfl⟩, ?_, ?_⟩
  · rintro i d δ' μ' hd ⟨z1, z2, z3, z4, rfl, hi, rfl⟩
    obtain ⟨s, hg, rfl⟩ := map_get hd
    have hlt : i < ss.length := (List.getElem?_eq_some_iff.mp hg).1
    obtain ⟨hu, hr⟩ := hs s (List.mem_of_getElem? hg)
    have hpre := back_le p q (ss.take i)
    rw [List.length_take] at hpre
    refine ⟨rfl, ?_⟩
    refine ⟨fun j δ μ => ∃ z3 z4, δ = [some (pts p q), some (.lst (ss.map stt)), some (.adr a), some (rw_ s.1), some (fr s.2), z3, z4] ∧ μ = [(a, (back p q (ss.take i) ++ ([false, true].take j).filterMap (stepW p q s)).map stt)], ⟨z3, z4, rfl, by rw [List.take_zero, List.filterMap_nil, List.append_nil]⟩, ?_, ?_⟩
    · rintro j d δ' μ' hd ⟨z3, z4, rfl, rfl⟩
      obtain ⟨w, hw, rfl⟩ := map_get (f := wd) (l := [false, true]) hd
      refine ⟨p, q, s.2, w, rfl, hp, hq, hu.sz.mono (by omega), ?_⟩
      refine ⟨unpour p q s.2 w, rfl, (unpour_sz hp hq hu.sz w).mono (by omega), ?_⟩
      have hlj : (([false, true].take j).filterMap (stepW p q s)).length ≤ 2 := Nat.le_trans (List.length_filterMap_le _ _) (by rw [List.length_take]; exact Nat.min_le_right _ _)
      have ej : ([false, true].take (j + 1)).filterMap (stepW p q s) = ([false, true].take j).filterMap (stepW p q s) ++ (if inU (unpour p q s.2 w) = true then [(w :: s.1, unpour p q s.2 w)] else []) := by
        rw [take_snoc hw, List.filterMap_append]
        congr 1
        by_cases c : inU (unpour p q s.2 w) = true
        · simp [stepW, c]
        · simp [stepW, c]
      show if inU (unpour p q s.2 w) = true then _ else _
      refine iteB (fun c => ?_) (fun c => ?_)
      · refine ⟨a, [], _, [], rfl, rfl, ⟨?_, ?_, some (wd w), some (fr (unpour p q s.2 w)), rfl, ?_⟩⟩
        · rw [List.length_map, List.length_append]; omega
        · rw [List.length_map]; show 1 + s.1.length ≤ 100000; omega
        · rw [ej, if_pos c, ← List.append_assoc, List.map_append (l₂ := [_])]; rfl
      · refine ⟨some (wd w), some (fr (unpour p q s.2 w)), rfl, ?_⟩
        rw [ej, if_neg (by rw [c]; decide), List.append_nil]
    · rintro δ' μ' ⟨z3, z4, rfl, rfl⟩
      refine ⟨_, _, z3, z4, rfl, hlt, ?_⟩
      show [(a, List.map stt (back p q (List.take i ss) ++ back1 p q s))] = _
      rw [take_snoc hg]
      unfold back
      rw [List.flatMap_append, List.flatMap_singleton]
  · rintro δ' μ' ⟨z1, z2, z3, z4, rfl, hi, rfl⟩
    refine ⟨a, [], _, [], rfl, rfl, ?_⟩
    rw [List.length_map, List.take_length]; exact h
end DL
/-! The doors of pours told back. -/
namespace DL
open PySem PySem.Spec PyProof.Rows L2 PB
theorem within_true {i lo hi : Int} (h1 : lo ≤ i) (h2 : i ≤ hi) : within (.int i) lo hi = true := by
  show (decide (lo ≤ i) && decide (i ≤ hi)) = true
  rw [decide_eq_true h1, decide_eq_true h2]; rfl
theorem within_get {d : D} {lo hi : Int} (h : within d lo hi = true) : ∃ i, d = .int i ∧ lo ≤ i ∧ i ≤ hi := by
  cases d with
  | int i =>
    have h' : (decide (lo ≤ i) && decide (i ≤ hi)) = true := h
    have := Bool.and_eq_true_iff.mp h'
    exact ⟨i, rfl, of_decide_eq_true this.1, of_decide_eq_true this.2⟩
  | _ => cases h
theorem shareN {x : Rat} {n : Nat} (h : Share x) : U x (67 + n) := (share_U h).mono (by omega)
theorem back_ok {p q g : Rat} {m : Nat} {k : D → Prop} {kn : List D → Prop} {kx : Addr → Prop} (hpq : Parts p q) (hg : U g m) {n : Nat} (hn : n ≤ 45) (hm : m ≤ 100) (h : kn ((backN p q g (n + 1)).map stt)) : sp_one_back [pts p q, .lst ((backN p q g n).map stt)] k kn kx := by
  unfold sp_one_back
  exact ⟨p, q, backN p q g n, m + 9 * n, rfl, hpq.1, hpq.2.1, by omega, Nat.le_trans (thin_N hpq g n).le (by decide), fun s hs => by
    obtain ⟨h1, h2, _⟩ := backN_mem hpq.1 hpq.2.1 hg n s hs
    exact ⟨h2, by omega⟩, h⟩
abbrev N_rows_to : List Str := ["parts", "share", "many", "states", "turn"]
def t_rows_to (er : Er) : OS :=
  (oSeq (oLift (dDrop (dCall (sp_need_parts er) (dCons (dVar 0) dNil))))
    (oSeq (oLift (dDrop (dCall (sp_need_share er) (dCons (dVar 1) dNil))))
    (oSeq (oLift (dIfS (dNot (dB (dCall sp_is_within (dCons (dVar 2) (dCons (dC (.int 0)) (dCons (dC (.int 40)) dNil)))))) (dRaise er.NoMany) dNext))
    (oSeq (oNewL 3 (dCons (dTup (dCons (dTup dNil) (dCons (dVar 1) dNil))) dNil))
    (oSeq (oFor (dItR1 (dVar 2)) (gN 4)
    (oFrz 3 (oSetN 3 sp_one_back (dCons (dVar 0) (dCons (dVar 3) dNil)))))
    (oRetN 3))))))

@[irreducible] def sp_rows_to (er : Er) : DSpN := fun ds k kn kx => ∃ (d1 d2 d3 : D), ds = [d1, d2, d3] ∧ (d1.plain = true ∧ d2.plain = true ∧ d3.plain = true) ∧
  (¬ IsParts d1 → kx er.NoParts) ∧ (IsParts d1 → ¬ IsShare d2 → kx er.NoShare) ∧ (IsParts d1 → IsShare d2 → within d3 0 40 = false → kx er.NoMany) ∧
  ∀ p q g n, d1 = pts p q → Parts p q → d2 = fr g → Share g → d3 = .int (n : Nat) → n ≤ 40 → kn ((backN p q g n).map stt)
theorem len_rows_to (er : Er) : ∀ ds k kn kx, sp_rows_to er ds k kn kx → ds.length = 3 := by
  intro _ _ _ _ h
  unfold sp_rows_to at h
  obtain ⟨_, _, _, rfl, _⟩ := h; rfl
theorem pure_rows_to (er : Er) (ds : List D) (k : D → Prop) (kn : List D → Prop) (kx : Addr → Prop) (h : sp_rows_to er ds k kn kx) : t_rows_to er { nx := fun _ _ => k .non, rt := k, rn := kn, ex := kx } (dstart N_rows_to ds) [] := by
  unfold sp_rows_to at h
  obtain ⟨d1, d2, d3, rfl, ⟨p1, p2, p3⟩, e1, e2, e3, h⟩ := h
  refine ⟨d1, rfl, p1, fun i1 => ?_, fun n1 => e1 n1⟩
  refine ⟨d2, rfl, p2, fun i2 => ?_, fun n2 => e2 i1 n2⟩
  refine ⟨d3, 0, 40, rfl, plain_ok p3, ?_⟩
  show if (!within d3 0 40) = true then _ else _
  cases c : within d3 0 40 with
  | false => exact iteT (e3 i1 i2 c)
  | true =>
    refine iteF ?_
    obtain ⟨i, rfl, hi0, hi1⟩ := within_get c
    obtain ⟨p, q, rfl, hpq⟩ := i1
    obtain ⟨g, rfl, hg⟩ := i2
    intro a _
    refine ⟨⟨by omega, by omega⟩, ?_⟩
    refine ⟨fun j δ μ => ∃ z b, δ = [some (pts p q), some (fr g), some (.int i), some (.adr b), z] ∧ μ = [(b, (backN p q g j).map stt)], ⟨none, a, rfl, rfl⟩, ?_, ?_⟩
    · rintro j d δ' μ' hd ⟨z, b, rfl, rfl⟩
      have hj : j < i.toNat := by
        have := (List.getElem?_eq_some_iff.mp hd).1
        rwa [rng_len] at this
      refine ⟨b, [], _, [], rfl, rfl, ?_⟩
      refine back_ok (p := p) (q := q) (g := g) hpq (share_U hg) (by omega) (by decide) ?_
      intro b' _
      exact ⟨some d, b', rfl, rfl⟩
    · rintro δ' μ' ⟨z, b, rfl, rfl⟩
      refine ⟨b, [], _, [], rfl, rfl, ?_⟩
      rw [rng_len]
      exact h p q g i.toNat rfl hpq rfl hg (by rw [Int.toNat_of_nonneg hi0]) (by omega)
theorem rows_to_ok {er : Er} {p q g : Rat} {n : Nat} {k : D → Prop} {kn : List D → Prop} {kx : Addr → Prop} (hpq : Parts p q) (hg : Share g) (hn : n ≤ 40) (h : kn ((backN p q g n).map stt)) : sp_rows_to er [pts p q, fr g, .int (n : Nat)] k kn kx := by
  unfold sp_rows_to
  refine ⟨_, _, _, rfl, ⟨pts_plain p q, fr_plain g, rfl⟩, fun e => absurd ⟨p, q, rfl, hpq⟩ e, fun _ e => absurd ⟨g, rfl, hg⟩ e, fun _ _ e => ?_, fun p' q' g' n' e1 _ e2 _ e3 _ => ?_⟩
  · rw [within_true (by omega) (by omega)] at e; cases e
  · obtain ⟨rfl, rfl⟩ := pts_inj e1
    obtain rfl := fr_inj e2
    injection e3 with e3
    have e4 : n = n' := by omega
    subst e4; exact h
/-! ### fewest_to -/
def hitS (x : Rat) (s : Stt) : Option (List Bool) := if s.2 = x then some s.1 else none
def fewN (p q x g : Rat) (n : Nat) : Option (List Bool) := (List.range n).findSome? fun i => (backN p q g i).findSome? (hitS x)
def orow : Option (List Bool) → D
  | none => .non
  | some r => rw_ r
theorem fs_at {α β : Type} {f : α → Option β} {l : List α} {j : Nat} {a : α} {b : β} (h : l[j]? = some a) (h0 : (l.take j).findSome? f = none) (h1 : f a = some b) : l.findSome? f = some b := by
  have hl := (List.getElem?_eq_some_iff.mp h).1
  have e : l = l.take j ++ a :: l.drop (j + 1) := by
    conv => lhs; rw [← List.take_append_drop j l, List.drop_eq_getElem_cons hl]
    have := (List.getElem?_eq_some_iff.mp h).2
    rw [this]
  rw [e, List.findSome?_append, h0, List.findSome?_cons, h1]; rfl
theorem fs_next {α β : Type} {f : α → Option β} {l : List α} {j : Nat} {a : α} (h : l[j]? = some a) (h0 : (l.take j).findSome? f = none) (h1 : f a = none) : (l.take (j + 1)).findSome? f = none := by
  rw [take_snoc h, List.findSome?_append, h0]
  simp [h1]
abbrev N_fewest_to : List Str := ["parts", "share", "other", "states", "turn", "row", "there"]
def t_fewest_to (er : Er) : DS :=
  (dSeq (dDrop (dCall (sp_need_parts er) (dCons (dVar 0) dNil)))
    (dSeq (dDrop (dCall (sp_need_share er) (dCons (dVar 1) dNil)))
    (dSeq (dDrop (dCall (sp_need_share er) (dCons (dVar 2) dNil)))
    (dSeq (dSet 3 (dLst (dCons (dTup (dCons (dTup dNil) (dCons (dVar 2) dNil))) dNil)))
    (dSeq (dFor (dItR1 (dC (.int 41))) (gN 4)
    (dSeq (dFor (dItL (dVar 3)) (gTp 2 (gCn (gN 5) (gCn (gN 6) gNl)))
    (dIfS (dB (dOp dEq (dVar 6) (dVar 1))) (dRet (dVar 5)) dNext))
    (dSet 3 (dCall (toD sp_one_back) (dCons (dVar 0) (dCons (dVar 3) dNil))))))
    (dRet (dC .non)))))))

@[irreducible] def sp_fewest_to (er : Er) : DSp := fun ds k kx => ∃ (d1 d2 d3 : D), ds = [d1, d2, d3] ∧ (d1.plain = true ∧ d2.plain = true ∧ d3.plain = true) ∧
  (¬ IsParts d1 → kx er.NoParts) ∧ (IsParts d1 → ¬ IsShare d2 → kx er.NoShare) ∧ (IsParts d1 → IsShare d2 → ¬ IsShare d3 → kx er.NoShare) ∧
  ∀ p q x g, d1 = pts p q → Parts p q → d2 = fr x → Share x → d3 = fr g → Share g → k (orow (fewN p q x g 41))
theorem len_fewest_to (er : Er) : ∀ ds k kx, sp_fewest_to er ds k kx → ds.length = 3 := by
  intro _ _ _ h
  unfold sp_fewest_to at h
  obtain ⟨_, _, _, rfl, _⟩ := h; rfl
theorem pure_fewest_to (er : Er) (ds : List D) (k : D → Prop) (kx : Addr → Prop) (h : sp_fewest_to er ds k kx) : t_fewest_to er { nx := fun _ => k .non, rt := k, ex := kx } (dstart N_fewest_to ds) := by
  unfold sp_fewest_to at h
  obtain ⟨d1, d2, d3, rfl, ⟨p1, p2, p3⟩, e1, e2, e3, h⟩ := h
  refine ⟨d1, rfl, p1, fun i1 => ?_, fun n1 => e1 n1⟩
  refine ⟨d2, rfl, p2, fun i2 => ?_, fun n2 => e2 i1 n2⟩
  refine ⟨d3, rfl, p3, fun i3 => ?_, fun n3 => e3 i1 i2 n3⟩
  obtain ⟨p, q, rfl, hpq⟩ := i1
  obtain ⟨x, rfl, hx⟩ := i2
  obtain ⟨g, rfl, hg⟩ := i3
  have h := h p q x g rfl hpq rfl hx rfl hg
  unfold fewN at h
  refine ⟨⟨by decide, by decide⟩, ?_⟩
  refine ⟨fun j δ => ∃ z1 z2 z3, δ = [some (pts p q), some (fr x), some (fr g), some (.lst ((backN p q g j).map stt)), z1, z2, z3] ∧ ((List.range 41).take j).findSome? (fun i => (backN p q g i).findSome? (hitS x)) = none, ⟨none, none, none, rfl, rfl⟩, ?_, ?_⟩
  · rintro j d δ' hd ⟨z1, z2, z3, rfl, h0⟩
    have hj : j < 41 := by
      have := (List.getElem?_eq_some_iff.mp hd).1
      rwa [rng_len] at this
    have hjr : (List.range 41)[j]? = some j := List.getElem?_range hj
    refine ⟨fun m δ => ∃ z2 z3, δ = [some (pts p q), some (fr x), some (fr g), some (.lst ((backN p q g j).map stt)), some d, z2, z3] ∧ ((backN p q g j).take m).findSome? (hitS x) = none, ⟨z2, z3, rfl, rfl⟩, ?_, ?_⟩
    · rintro m e δ' he ⟨z2, z3, rfl, hm⟩
      obtain ⟨s, hs, rfl⟩ := map_get he
      refine ⟨rfl, fr_eqB ?_⟩
      refine iteB (fun c => ?_) (fun c => ?_)
      · have c := of_decide_eq_true c
        have f1 : hitS x s = some s.1 := by unfold hitS; rw [if_pos c]
        rw [fs_at hjr h0 (fs_at hs hm f1)] at h
        exact h
      · have c := of_decide_eq_false c
        have f1 : hitS x s = none := by unfold hitS; rw [if_neg c]
        exact ⟨some (rw_ s.1), some (fr s.2), rfl, fs_next hs hm f1⟩
    · rintro δ' ⟨z2, z3, rfl, hm⟩
      refine back_ok hpq (share_U hg) (by omega) (by decide) ?_
      rw [List.length_map, List.take_length] at hm
      exact ⟨some d, z2, z3, rfl, fs_next hjr h0 hm⟩
  · rintro δ' ⟨z1, z2, z3, rfl, h0⟩
    rw [rng_len, show Int.toNat 41 = 41 from rfl, show List.take 41 (List.range 41) = List.range 41 from by rfl] at h0
    rw [h0] at h
    exact h
theorem fewest_to_ok {er : Er} {p q x g : Rat} {k : D → Prop} {kx : Addr → Prop} (hpq : Parts p q) (hx : Share x) (hg : Share g) (h : k (orow (fewN p q x g 41))) : sp_fewest_to er [pts p q, fr x, fr g] k kx := by
  unfold sp_fewest_to
  refine ⟨_, _, _, rfl, ⟨pts_plain p q, fr_plain x, fr_plain g⟩, fun e => absurd ⟨p, q, rfl, hpq⟩ e, fun _ e => absurd ⟨x, rfl, hx⟩ e, fun _ _ e => absurd ⟨g, rfl, hg⟩ e, fun p' q' x' g' e1 _ e2 _ e3 _ => ?_⟩
  obtain ⟨rfl, rfl⟩ := pts_inj e1
  obtain rfl := fr_inj e2
  obtain rfl := fr_inj e3
  exact h
/-! ### unseen -/
def seen (p q x g : Rat) (r : List Bool) (i : Nat) (w : Bool) : Bool := decide (pours p q (pour p q (pours p q x (r.take i)) w) (r.drop (i + 1)) = g)
def unseenW (p q x g : Rat) (r : List Bool) (i : Nat) : Option Bool := [false, true].find? (seen p q x g r i)
def opour : Option Bool → D
  | none => .non
  | some w => wd w
abbrev N_unseen : List Str := ["parts", "share", "row", "place", "other", "amid", "pour"]
def t_unseen (er : Er) : DS :=
  (dSeq (dDrop (dCall (sp_need_parts er) (dCons (dVar 0) dNil)))
    (dSeq (dDrop (dCall (sp_need_share er) (dCons (dVar 1) dNil)))
    (dSeq (dDrop (dCall (sp_need_row er) (dCons (dVar 2) dNil)))
    (dSeq (dIfS (dNot (dB (dCall sp_is_within (dCons (dVar 3) (dCons (dC (.int 0)) (dCons (dSub (dC1 cLen (dVar 2)) (dC (.int 1))) dNil)))))) (dRaise er.NoPlace) dNext)
    (dSeq (dDrop (dCall (sp_need_share er) (dCons (dVar 4) dNil)))
    (dSeq (dSet 5 (dCall sp_end_of (dCons (dVar 0) (dCons (dVar 1) (dCons (dSl (dVar 2) dNo (dSome (dVar 3))) dNil)))))
    (dSeq (dFor (dItT (dC (.tup [.str "right", .str "left"]))) (gN 6)
    (dIfS (dB (dOp dEq (dCall sp_end_of (dCons (dVar 0) (dCons (dCall sp_poured (dCons (dVar 0) (dCons (dVar 5) (dCons (dVar 6) dNil)))) (dCons (dSl (dVar 2) (dSome (dAdd (dVar 3) (dC (.int 1)))) dNo) dNil)))) (dVar 4))) (dRet (dVar 6)) dNext))
    (dRet (dC .non)))))))))

@[irreducible] def sp_unseen (er : Er) : DSp := fun ds k kx => ∃ (d1 d2 d3 d4 d5 : D), ds = [d1, d2, d3, d4, d5] ∧ (d1.plain = true ∧ d2.plain = true ∧ d3.plain = true ∧ short d3 ∧ d4.plain = true ∧ d5.plain = true) ∧
  (¬ IsParts d1 → kx er.NoParts) ∧ (IsParts d1 → ¬ IsShare d2 → kx er.NoShare) ∧ (IsParts d1 → IsShare d2 → ¬ IsRow d3 → kx er.NoRow) ∧ (IsParts d1 → IsShare d2 → ∀ r, d3 = rw_ r → r.length ≤ 40 → within d4 0 ((r.length : Int) - 1) = false → kx er.NoPlace) ∧
  (IsParts d1 → IsShare d2 → ∀ r, d3 = rw_ r → r.length ≤ 40 → within d4 0 ((r.length : Int) - 1) = true → ¬ IsShare d5 → kx er.NoShare) ∧
  ∀ p q x r i g, d1 = pts p q → Parts p q → d2 = fr x → Share x → d3 = rw_ r → r.length ≤ 40 → d4 = .int (i : Nat) → i < r.length → d5 = fr g → Share g → k (opour (unseenW p q x g r i))
theorem len_unseen (er : Er) : ∀ ds k kx, sp_unseen er ds k kx → ds.length = 5 := by
  intro _ _ _ h
  unfold sp_unseen at h
  obtain ⟨_, _, _, _, _, rfl, _⟩ := h; rfl
theorem pure_unseen (er : Er) (ds : List D) (k : D → Prop) (kx : Addr → Prop) (h : sp_unseen er ds k kx) : t_unseen er { nx := fun _ => k .non, rt := k, ex := kx } (dstart N_unseen ds) := by
  unfold sp_unseen at h
  obtain ⟨d1, d2, d3, d4, d5, rfl, ⟨p1, p2, p3, p3', p4, p5⟩, e1, e2, e3, e4, e5, h⟩ := h
  refine ⟨d1, rfl, p1, fun i1 => ?_, fun n1 => e1 n1⟩
  refine ⟨d2, rfl, p2, fun i2 => ?_, fun n2 => e2 i1 n2⟩
  refine ⟨d3, rfl, p3, p3', fun i3 => ?_, fun n3 => e3 i1 i2 n3⟩
  obtain ⟨r, rfl, hr⟩ := i3
  have el : (((r.map wd).length : Nat) : Int) - 1 = (r.length : Int) - 1 := by rw [List.length_map]
  refine ⟨d4, 0, (((r.map wd).length : Nat) : Int) - 1, rfl, plain_ok p4, ?_⟩
  rw [el]
  show if (!within d4 0 ((r.length : Int) - 1)) = true then _ else _
  cases c : within d4 0 ((r.length : Int) - 1) with
  | false => exact iteT (e4 i1 i2 r rfl hr c)
  | true =>
    refine iteF ?_
    refine ⟨d5, rfl, p5, fun i5 => ?_, fun n5 => e5 i1 i2 r rfl hr c n5⟩
    obtain ⟨j, rfl, hj0, hj1⟩ := within_get c
    obtain ⟨p, q, rfl, hpq⟩ := i1
    obtain ⟨x, rfl, hx⟩ := i2
    obtain ⟨g, rfl, hg⟩ := i5
    obtain ⟨i, rfl⟩ : ∃ i : Nat, j = i := ⟨j.toNat, by omega⟩
    have h := h p q x r i g rfl hpq rfl hx rfl hr rfl (by omega) rfl hg
    unfold unseenW at h
    have c1 : D.tup (cutD (r.map wd) none (some (i : Int))) = rw_ (r.take i) := by rw [cut_take, ← List.map_take]; rfl
    have c2 : D.tup (cutD (r.map wd) (some ((i : Int) + 1)) none) = rw_ (r.drop (i + 1)) := by
      rw [show (i : Int) + 1 = ((i + 1 : Nat) : Int) by omega, cut_drop, ← List.map_drop]; rfl
    refine (show sp_end_of [pts p q, fr x, .tup (cutD (r.map wd) none (some (i : Int)))] _ _ from ?_)
    rw [c1]
    have hu := U_pours hpq.1 hpq.2.1 (r.take i) (share_U hx)
    have hl1 : (r.take i).length ≤ 40 := by rw [List.length_take]; omega
    refine end_mk hpq.1 hpq.2.1 (share_U hx) (by omega) ?_
    refine ⟨fun m δ => ∃ z, δ = [some (pts p q), some (fr x), some (rw_ r), some (.int i), some (fr g), some (fr (pours p q x (r.take i))), z] ∧ ([false, true].take m).find? (seen p q x g r i) = none, ⟨none, rfl, rfl⟩, ?_, ?_⟩
    · rintro m d δ' hd ⟨z, rfl, hm⟩
      obtain ⟨w, hw, rfl⟩ := map_get (f := wd) (l := [false, true]) hd
      refine ⟨p, q, _, w, rfl, hpq.1, hpq.2.1, hu.sz.mono (by omega), ?_⟩
      refine (show sp_end_of [pts p q, fr (pour p q (pours p q x (r.take i)) w), .tup (cutD (r.map wd) (some ((i : Int) + 1)) none)] _ _ from ?_)
      rw [c2]
      refine end_mk hpq.1 hpq.2.1 (U_pour hpq.1 hpq.2.1 hu w) (by rw [List.length_drop]; omega) ?_
      refine fr_eqB ?_
      show if seen p q x g r i w = true then _ else _
      refine iteB (fun c => ?_) (fun c => ?_)
      · have e : [false, true].find? (seen p q x g r i) = some w := by
          match m, hw with
          | 0, hw => cases hw; rw [List.find?_cons, c]
          | 1, hw =>
            cases hw
            have hm' : seen p q x g r i false = false := by
              cases c3 : seen p q x g r i false with
              | false => rfl
              | true => rw [show List.take 1 [false, true] = [false] from rfl, List.find?_cons, c3] at hm; cases hm
            rw [List.find?_cons, hm', List.find?_cons, c]
        rw [e] at h
        exact h
      · refine ⟨some (wd w), rfl, ?_⟩
        rw [take_snoc hw, List.find?_append, hm, List.find?_cons, c]; rfl
    · rintro δ' ⟨z, rfl, hm⟩
      rw [show List.take ([D.str "right", D.str "left"]).length [false, true] = [false, true] from rfl] at hm
      rw [hm] at h
      exact h
theorem unseen_ok {er : Er} {p q x g : Rat} {r : List Bool} {i : Nat} {k : D → Prop} {kx : Addr → Prop} (hpq : Parts p q) (hx : Share x) (hr : r.length ≤ 40) (hi : i < r.length) (hg : Share g) (h : k (opour (unseenW p q x g r i))) : sp_unseen er [pts p q, fr x, rw_ r, .int (i : Nat), fr g] k kx := by
  unfold sp_unseen
  refine ⟨_, _, _, _, _, rfl, ⟨pts_plain p q, fr_plain x, rw_plain r, short_rw hr, rfl, fr_plain g⟩, fun e => absurd ⟨p, q, rfl, hpq⟩ e, fun _ e => absurd ⟨x, rfl, hx⟩ e, fun _ _ e => absurd ⟨r, rfl, hr⟩ e, fun _ _ r' e1 _ e => ?_, fun _ _ _ _ _ _ e => absurd ⟨g, rfl, hg⟩ e, fun p' q' x' r' i' g' e1 _ e2 _ e3 _ e4 _ e5 _ => ?_⟩
  · obtain rfl := rw_inj e1
    rw [within_true (by omega) (by omega)] at e; cases e
  · obtain ⟨rfl, rfl⟩ := pts_inj e1
    obtain rfl := fr_inj e2
    obtain rfl := rw_inj e3
    obtain rfl := fr_inj e5
    injection e4 with e4
    have e4 : i = i' := by omega
    subst e4; exact h
end DL
/-! All rows of so many pours; what a row does to a share: a straight line. -/
namespace DL
open PySem PySem.Spec PyProof.Rows L2 PB
/-! ### a straight line -/
def fac1 (p q : Rat) (w : Bool) : Rat := if w then 1 - q else 1 - p
def fac (p q : Rat) : List Bool → Rat
  | [] => 1
  | w :: r => fac1 p q w * fac p q r
theorem fac1_pos {p q : Rat} (hp : Part p) (hq : Part q) (w : Bool) : 0 < fac1 p q w := by
  cases w with
  | false => exact (part_sub hp).1
  | true => exact (part_sub hq).1
theorem fac_pos {p q : Rat} (hp : Part p) (hq : Part q) : ∀ r, 0 < fac p q r
  | [] => by show (0 : Rat) < 1; decide
  | w :: r => Rat.mul_pos (fac1_pos hp hq w) (fac_pos hp hq r)
theorem pour_diff (p q x y : Rat) (w : Bool) : pour p q x w - pour p q y w = (x - y) * fac1 p q w := by
  cases w with
  | false => show x * (1 - p) - y * (1 - p) = (x - y) * (1 - p); grind
  | true => show x * (1 - q) + q - (y * (1 - q) + q) = (x - y) * (1 - q); grind
theorem pours_diff (p q : Rat) : ∀ (r : List Bool) (x y : Rat), pours p q x r - pours p q y r = (x - y) * fac p q r
  | [], x, y => by show x - y = (x - y) * 1; grind
  | w :: r, x, y => by
    show pours p q (pour p q x w) r - pours p q (pour p q y w) r = _
    rw [pours_diff p q r, pour_diff, Rat.mul_assoc]; rfl
/-- the share from which a row leads to g -/
def begun (p q g : Rat) (r : List Bool) : Rat := (g - pours p q 0 r) / fac p q r
theorem ne_of_pos {x : Rat} (h : 0 < x) : x ≠ 0 := fun e => by rw [e] at h; exact absurd h (by decide)
theorem pours_lin {p q : Rat} (r : List Bool) (x : Rat) : pours p q x r = pours p q 0 r + x * fac p q r := by
  have := pours_diff p q r x 0
  grind
theorem begun_iff {p q g x : Rat} (hp : Part p) (hq : Part q) (r : List Bool) : pours p q x r = g ↔ begun p q g r = x := by
  have hf := ne_of_pos (fac_pos hp hq r)
  unfold begun
  rw [pours_lin r x]
  constructor
  · intro h
    rw [← h, show pours p q 0 r + x * fac p q r - pours p q 0 r = x * fac p q r by grind, Rat.mul_div_cancel hf]
  · intro h
    rw [← h, Rat.div_mul_cancel hf]; grind
theorem begun_cons {p q g : Rat} (hp : Part p) (hq : Part q) (w : Bool) (r : List Bool) : begun p q g (w :: r) = unpour p q (begun p q g r) w := by
  refine (begun_iff hp hq (w :: r)).mp ?_
  show pours p q (pour p q (unpour p q (begun p q g r) w) w) r = g
  rw [pour_unpour hp hq]
  exact (begun_iff hp hq r).mpr rfl
theorem pour_in {p q x : Rat} (hp : Part p) (hq : Part q) (w : Bool) (h : inU x = true) : inU (pour p q x w) = true := by
  obtain ⟨h0, h1⟩ := inU_iff.mp h
  obtain ⟨n, hn⟩ : ∃ n, x.den < 2 ^ n := ⟨x.den, Nat.lt_two_pow_self⟩
  have := U_pour hp hq (⟨h0, h1, hn⟩ : U x n) w
  exact inU_iff.mpr ⟨this.1, this.2.1⟩
theorem begun_in {p q g : Rat} (hp : Part p) (hq : Part q) (r : List Bool) : inU (begun p q g r) = (decide (pours p q 0 r ≤ g) && decide (g ≤ pours p q 1 r)) := by
  have hf := fac_pos hp hq r
  have e : inU (begun p q g r) = true ↔ pours p q 0 r ≤ g ∧ g ≤ pours p q 1 r := by
    rw [inU_iff, pours_lin r 1]
    unfold begun
    rw [le_div hf, div_le hf, Rat.zero_mul]
    constructor
    · rintro ⟨a, b⟩; constructor <;> grind
    · rintro ⟨a, b⟩; constructor <;> grind
  cases c : inU (begun p q g r) with
  | true => have := e.mp c; simp [this.1, this.2]
  | false =>
    cases c2 : (decide (pours p q 0 r ≤ g) && decide (g ≤ pours p q 1 r)) with
    | false => rfl
    | true =>
      have := Bool.and_eq_true_iff.mp c2
      have := e.mpr ⟨of_decide_eq_true this.1, of_decide_eq_true this.2⟩
      rw [c] at this; cases this
/-! ### all rows -/
def ext2 (r : List Bool) : List (List Bool) := [false :: r, true :: r]
def allRows : Nat → List (List Bool)
  | 0 => [[]]
  | n + 1 => (allRows n).flatMap ext2
theorem ext_len (l : List (List Bool)) : (l.flatMap ext2).length = 2 * l.length := by
  induction l with
  | nil => rfl
  | cons a l ih => rw [List.flatMap_cons, List.length_append, ih, List.length_cons]; show 2 + _ = _; omega
theorem allRows_len : ∀ n, (allRows n).length = 2 ^ n
  | 0 => rfl
  | n + 1 => by show ((allRows n).flatMap ext2).length = _; rw [ext_len, allRows_len n, Nat.pow_succ]; omega
theorem allRows_mem : ∀ (n : Nat) (r : List Bool), r ∈ allRows n ↔ r.length = n
  | 0, r => by simp [allRows]
  | n + 1, r => by
    show r ∈ (allRows n).flatMap ext2 ↔ _
    rw [List.mem_flatMap]
    constructor
    · rintro ⟨s, hs, hr⟩
      have := (allRows_mem n s).mp hs
      unfold ext2 at hr
      simp at hr
      rcases hr with rfl | rfl <;> simp [this]
    · intro h
      cases r with
      | nil => cases h
      | cons w s =>
        refine ⟨s, (allRows_mem n s).mpr (by simpa using h), ?_⟩
        unfold ext2
        cases w <;> simp
def toG (p q g : Rat) (r : List Bool) : Option Stt := if inU (begun p q g r) = true then some (r, begun p q g r) else none
theorem back_fm {p q g : Rat} (hp : Part p) (hq : Part q) : ∀ l : List (List Bool), back p q (l.filterMap (toG p q g)) = (l.flatMap ext2).filterMap (toG p q g)
  | [] => rfl
  | r :: l => by
    have ih := back_fm hp hq (g := g) l
    have key : back p q ([r].filterMap (toG p q g)) = (ext2 r).filterMap (toG p q g) := by
      have e1 : ∀ w, toG p q g (w :: r) = if inU (unpour p q (begun p q g r) w) = true then some (w :: r, unpour p q (begun p q g r) w) else none := fun w => by
        unfold toG; rw [begun_cons hp hq]
      by_cases c : inU (begun p q g r) = true
      · have e2 : [r].filterMap (toG p q g) = [(r, begun p q g r)] := by simp [toG, c]
        rw [e2]
        show [(r, begun p q g r)].flatMap (back1 p q) = _
        rw [List.flatMap_singleton, back1_eq]
        unfold ext2
        by_cases c1 : inU (unpour p q (begun p q g r) false) = true <;> by_cases c2 : inU (unpour p q (begun p q g r) true) = true <;> simp [e1, c1, c2]
      · have e2 : [r].filterMap (toG p q g) = [] := by simp [toG, c]
        rw [e2]
        have e3 : ∀ w, ¬ inU (unpour p q (begun p q g r) w) = true := fun w h => c (by
          have := pour_in hp hq w h
          rwa [pour_unpour hp hq] at this)
        show [] = _
        unfold ext2
        simp [e1, e3]
    rw [show r :: l = [r] ++ l from rfl, List.filterMap_append, List.flatMap_append, List.filterMap_append, ← ih, List.flatMap_singleton, ← key]
    unfold back
    rw [List.flatMap_append]
theorem backN_rows {p q g : Rat} (hp : Part p) (hq : Part q) (hg : inU g = true) : ∀ n, backN p q g n = (allRows n).filterMap (toG p q g)
  | 0 => by
    have e : begun p q g [] = g := by
      refine (begun_iff hp hq []).mp rfl
    show [([], g)] = [[]].filterMap (toG p q g)
    simp [toG, e, hg]
  | n + 1 => by
    show back p q (backN p q g n) = ((allRows n).flatMap ext2).filterMap (toG p q g)
    rw [backN_rows hp hq hg n, back_fm hp hq]
abbrev N_law_all_rows : List Str := ["many", "found", "turn", "longer", "row"]
def t_law_all_rows : DS :=
  (dSeq (dSet 1 (dLst (dCons (dTup dNil) dNil)))
    (dSeq (dFor (dItR1 (dVar 0)) (gN 2)
    (dSeq (dSet 3 (dLst dNil))
    (dSeq (dFor (dItL (dVar 1)) (gN 4)
    (dSet 3 (dOp dCat (dVar 3) (dLst (dCons (dOp dCat (dTup (dCons (dC (.str "right")) dNil)) (dVar 4)) (dCons (dOp dCat (dTup (dCons (dC (.str "left")) dNil)) (dVar 4)) dNil))))))
    (dSet 1 (dVar 3)))))
    (dRet (dVar 1))))

def sp_law_all_rows : DSp := fun ds k _ => ∃ (n : Nat), ds = [.int n] ∧ n ≤ 7 ∧ k (.lst ((allRows n).map rw_))
theorem len_law_all_rows : ∀ ds k kx, sp_law_all_rows ds k kx → ds.length = 1 := by
  intro _ _ _ h
  unfold sp_law_all_rows at h
  obtain ⟨_, rfl, _⟩ := h; rfl
theorem pow7 {i : Nat} (h : i ≤ 7) : 2 ^ i ≤ 128 := Nat.le_trans (Nat.pow_le_pow_right (n := 2) (by decide) h) (by decide)
theorem pure_law_all_rows (ds : List D) (k : D → Prop) (kx : Addr → Prop) (h : sp_law_all_rows ds k kx) : t_law_all_rows { nx := fun _ => k .non, rt := k, ex := kx } (dstart N_law_all_rows ds) := by
  obtain ⟨n, rfl, hn, h⟩ := h
  refine ⟨⟨by omega, by omega⟩, ?_⟩
  refine ⟨fun i δ => ∃ z1 z2 z3, δ = [some (.int n), some (.lst ((allRows i).map rw_)), z1, z2, z3], ⟨none, none, none, rfl⟩, ?_, ?_⟩
  · rintro i d δ' hd ⟨z1, z2, z3, rfl⟩
    have hi : i < n := by
      have := (List.getElem?_eq_some_iff.mp hd).1
      rw [rng_len] at this
      omega
    have hall := allRows_len i
    have hp := pow7 (i := i) (by omega)
    refine ⟨fun j δ => ∃ z3, δ = [some (.int n), some (.lst ((allRows i).map rw_)), some d, some (.lst ((((allRows i).take j).flatMap ext2).map rw_)), z3], ⟨z3, rfl⟩, ?_, ?_⟩
    · rintro j e δ' he ⟨z3, rfl⟩
      obtain ⟨r, hr, rfl⟩ := map_get he
      have hrl := (allRows_mem i r).mp (List.mem_of_getElem? hr)
      have l1 : ((((allRows i).take j).flatMap ext2).map rw_).length ≤ 256 := by
        rw [List.length_map, ext_len, List.length_take]
        omega
      have lr : (r.map wd).length = i := by rw [List.length_map, hrl]
      refine ⟨by show 1 + (r.map wd).length ≤ 100000; omega, by show 1 + (r.map wd).length ≤ 100000; omega, ?_⟩
      refine ⟨by show _ + 2 ≤ 100000; omega, some (rw_ r), ?_⟩
      rw [take_snoc hr, List.flatMap_append, List.flatMap_singleton, List.map_append]
      rfl
    · rintro δ' ⟨z3, rfl⟩
      rw [List.length_map, List.take_length]
      exact ⟨some d, some (.lst (((allRows i).flatMap ext2).map rw_)), z3, rfl⟩
  · rintro δ' ⟨z1, z2, z3, rfl⟩
    rw [rng_len]
    exact h
end DL
namespace DL
open PySem PySem.Spec PyProof.Rows L2 PB
theorem end_ok {p q x : Rat} {r : List Bool} {k : D → Prop} {kx : Addr → Prop} (hpq : Parts p q) (hx : Share x) (hr : r.length ≤ 1000) (h : k (fr (pours p q x r))) : sp_end_of [pts p q, fr x, rw_ r] k kx :=
  end_mk hpq.1 hpq.2.1 (share_U hx) (by omega) h
/-! ### equal lists of states -/
theorem eqD_stt (s t : Stt) : eqD (stt s) (stt t) = decide (s = t) := by
  unfold stt
  rw [eqD_tup, eqA_cons, eqA_cons, eqA_nil, eqD_rw, eqD_fr]
  obtain ⟨a, b⟩ := s
  obtain ⟨c, d⟩ := t
  by_cases c1 : a = c <;> by_cases c2 : b = d <;> simp [c1, c2]
theorem sh_stt (s : Stt) (n : Nat) : D.sh (n + 2) (stt s) := sh_tup fun d hd => by
  simp at hd
  rcases hd with rfl | rfl
  · exact sh_rw _ _
  · exact sh_fr _ _
theorem stts_shp (ss : List Stt) : (D.lst (ss.map stt)).shp = true := (sh_lst (n := 2) fun d hd => by
  obtain ⟨x, _, rfl⟩ := List.mem_map.mp hd
  exact sh_stt x 0).shp
theorem eqD_stts (ss ts : List Stt) : eqD (.lst (ss.map stt)) (.lst (ts.map stt)) = decide (ss = ts) := by
  rw [eqD_lst, eqA_map eqD_stt]
section
variable {k : D → Prop}
theorem stts_ne {ss ts : List Stt} (e : ss = ts) (h : k (.bl false)) : dNe (.lst (ss.map stt)) (.lst (ts.map stt)) k := ne_of (stts_shp ss) (stts_shp ts) ((eqD_stts ss ts).trans (decide_eq_true e)) h
theorem stts_eq {ss ts : List Stt} (e : ss = ts) (h : k (.bl true)) : dEq (.lst (ss.map stt)) (.lst (ts.map stt)) k := eq_of (stts_shp ss) (stts_shp ts) ((eqD_stts ss ts).trans (decide_eq_true e)) h
theorem rw_eqT {r s : List Bool} (e : r = s) (h : k (.bl true)) : dEq (rw_ r) (rw_ s) k := eq_of (rw_shp r) (rw_shp s) ((eqD_rw r s).trans (decide_eq_true e)) h
end
/-! ### _law_begun -/
theorem U01 : U 0 67 ∧ U 1 67 := ⟨share_U share_zero, share_U share_one⟩
abbrev N_law_begun : List Str := ["parts", "row", "end", "low", "high", "gap", "whole"]
def t_law_begun : DS :=
  (dSeq (dPar 3 4 (dCall sp_law_end (dCons (dVar 0) (dCons (dTup (dCons (dC (.int 0)) (dCons (dC (.int 1)) dNil))) (dCons (dVar 1) dNil)))) (dCall sp_law_end (dCons (dVar 0) (dCons (dTup (dCons (dC (.int 1)) (dCons (dC (.int 1)) dNil))) (dCons (dVar 1) dNil)))))
    (dSeq (dIfS (dOr (dB (dCall sp_law_below (dCons (dVar 2) (dCons (dVar 3) dNil)))) (dB (dCall sp_law_below (dCons (dVar 4) (dCons (dVar 2) dNil))))) (dRet (dC .non)) dNext)
    (dSeq (dPar 5 6 (dCall sp_law_minus (dCons (dVar 2) (dCons (dVar 3) dNil))) (dCall sp_law_minus (dCons (dVar 4) (dCons (dVar 3) dNil))))
    (dRet (dCall sp_law_made (dCons (dMul (dOp dIx (dVar 5) (dC (.int 0))) (dOp dIx (dVar 6) (dC (.int 1)))) (dCons (dMul (dOp dIx (dVar 5) (dC (.int 1))) (dOp dIx (dVar 6) (dC (.int 0)))) dNil)))))))

def sp_law_begun : DSp := fun ds k _ => ∃ (p q g : Rat) (r : List Bool), ds = [pts p q, rw_ r, fr g] ∧ Parts p q ∧ Share g ∧ r.length ≤ 40 ∧ k (if inU (begun p q g r) = true then fr (begun p q g r) else .non)
theorem len_law_begun : ∀ ds k kx, sp_law_begun ds k kx → ds.length = 3 := by
  intro _ _ _ h
  unfold sp_law_begun at h
  obtain ⟨_, _, _, _, rfl, _⟩ := h; rfl
theorem pure_law_begun (ds : List D) (k : D → Prop) (kx : Addr → Prop) (h : sp_law_begun ds k kx) : t_law_begun { nx := fun _ => k .non, rt := k, ex := kx } (dstart N_law_begun ds) := by
  obtain ⟨p, q, g, r, rfl, hpq, hg, hr, h⟩ := h
  have u0 := U_pours hpq.1 hpq.2.1 r U01.1
  have u1 := U_pours hpq.1 hpq.2.1 r U01.2
  have s0 : sz (pours p q 0 r) 300 := u0.sz.mono (by omega)
  have s1 : sz (pours p q 1 r) 300 := u1.sz.mono (by omega)
  have sg : sz g 67 := (share_U hg).sz
  refine end_ok (x := 0) hpq share_zero (by omega) ?_
  refine end_ok (x := 1) hpq share_one (by omega) ?_
  rw [begun_in hpq.1 hpq.2.1] at h
  refine ⟨g, pours p q 0 r, rfl, Fit.of sg, Fit.of s0, ?_⟩
  show if decide (g < pours p q 0 r) = true then _ else _
  refine iteB (fun c => ?_) (fun c => ?_)
  · have c := of_decide_eq_true c
    rw [decide_eq_false (Rat.not_le.mpr c)] at h
    exact iteT h
  · have c := of_decide_eq_false c
    rw [decide_eq_true (Rat.not_lt.mp c)] at h
    refine ⟨pours p q 1 r, g, rfl, Fit.of s1, Fit.of sg, ?_⟩
    show if decide (pours p q 1 r < g) = true then _ else _
    refine iteB (fun c2 => ?_) (fun c2 => ?_)
    · have c2 := of_decide_eq_true c2
      rw [decide_eq_false (Rat.not_le.mpr c2)] at h
      exact h
    · have c2 := of_decide_eq_false c2
      rw [decide_eq_true (Rat.not_lt.mp c2)] at h
      have h : k (fr (begun p q g r)) := h
      have sa : sz (g - pours p q 0 r) 400 := (sz_sub sg s0).mono (by decide)
      have sb : sz (pours p q 1 r - pours p q 0 r) 700 := (sz_sub s1 s0).mono (by decide)
      have ef : pours p q 1 r - pours p q 0 r = fac p q r := by rw [pours_diff]; grind
      have hpos : 0 < pours p q 1 r - pours p q 0 r := by rw [ef]; exact fac_pos hpq.1 hpq.2.1 r
      refine ⟨g, pours p q 0 r, rfl, Fit.of sg, Fit.of s0, pours p q 1 r, pours p q 0 r, rfl, Fit.of s1, Fit.of s0, ?_⟩
      unfold begun at h
      rw [← ef] at h
      generalize g - pours p q 0 r = x at *
      generalize pours p q 1 r - pours p q 0 r = y at *
      have hx : Fit x := Fit.of sa
      have hy : Fit y := Fit.of sb
      have hn := num_pos hpos
      have e : (y.num.toNat : Int) = y.num := by omega
      have p0 := Nat.mul_pos x.den_pos (show 0 < y.num.toNat by omega)
      have e2 : ((x.den : Int) * y.num) = ((x.den * y.num.toNat : Nat) : Int) := by rw [Int.natCast_mul, e]
      have h9 : x.den * y.num.toNat < 2 ^ 9000 := Nat.lt_of_lt_of_le (mul_lt_pow hx.1 (show y.num.toNat < 2 ^ 4490 by have := hy.2; omega)) pow_le9
      refine ⟨hx.nd hy, hx.dn hy, _, _, rfl, by omega, by rw [e2, Int.natAbs_natCast]; exact h9, ?_⟩
      rw [show ((x.den : Int) * y.num).toNat = x.den * y.num.toNat by rw [e2, Int.toNat_natCast], ← div_def' hpos]
      exact h
/-! ### _law_fewest -/
def hitR (p q x g : Rat) (r : List Bool) : Option (List Bool) := if pours p q x r = g then some r else none
def fewR (p q x g : Rat) (n : Nat) : Option (List Bool) := (List.range n).findSome? fun i => (allRows i).findSome? (hitR p q x g)
theorem fs_fm {α β γ : Type} (f : α → Option β) (h : β → Option γ) : ∀ l : List α, (l.filterMap f).findSome? h = l.findSome? fun a => (f a).bind h
  | [] => rfl
  | a :: l => by
    have ih := fs_fm f h l
    cases e : f a with
    | none => rw [List.filterMap_cons_none e, List.findSome?_cons, e, ih]; rfl
    | some b => rw [List.filterMap_cons_some e, List.findSome?_cons, List.findSome?_cons, e, ih]; rfl
theorem hit_same {p q x g : Rat} (hp : Part p) (hq : Part q) (hx : inU x = true) (r : List Bool) : (toG p q g r).bind (hitS x) = hitR p q x g r := by
  unfold toG hitR
  by_cases c : pours p q x r = g
  · have e := (begun_iff hp hq r).mp c
    rw [if_pos c, e, if_pos hx]
    show hitS x (r, x) = _
    unfold hitS
    rw [if_pos rfl]
  · rw [if_neg c]
    by_cases c2 : inU (begun p q g r) = true
    · rw [if_pos c2]
      show hitS x (r, begun p q g r) = none
      unfold hitS
      rw [if_neg fun e => c ((begun_iff hp hq r).mpr e)]
    · rw [if_neg c2]; rfl
theorem few_same {p q x g : Rat} (hp : Part p) (hq : Part q) (hx : inU x = true) (hg : inU g = true) (n : Nat) : fewN p q x g n = fewR p q x g n := by
  unfold fewN fewR
  congr 1
  funext i
  rw [backN_rows hp hq hg, fs_fm]
  congr 1
  funext r
  exact hit_same hp hq hx r
abbrev N_law_fewest : List Str := ["parts", "share", "goal", "size", "row"]
def t_law_fewest : DS :=
  (dSeq (dFor (dItR1 (dC (.int 7))) (gN 3)
    (dFor (dItL (dCall sp_law_all_rows (dCons (dVar 3) dNil))) (gN 4)
    (dIfS (dB (dOp dEq (dCall sp_law_end (dCons (dVar 0) (dCons (dVar 1) (dCons (dVar 4) dNil)))) (dVar 2))) (dRet (dVar 4)) dNext)))
    (dRet (dC .non)))

def sp_law_fewest : DSp := fun ds k _ => ∃ (p q x g : Rat), ds = [pts p q, fr x, fr g] ∧ Parts p q ∧ Share x ∧ Share g ∧ k (orow (fewR p q x g 7))
theorem len_law_fewest : ∀ ds k kx, sp_law_fewest ds k kx → ds.length = 3 := by
  intro _ _ _ h
  unfold sp_law_fewest at h
  obtain ⟨_, _, _, _, rfl, _⟩ := h; rfl
theorem pure_law_fewest (ds : List D) (k : D → Prop) (kx : Addr → Prop) (h : sp_law_fewest ds k kx) : t_law_fewest { nx := fun _ => k .non, rt := k, ex := kx } (dstart N_law_fewest ds) := by
  obtain ⟨p, q, x, g, rfl, hpq, hx, hg, h⟩ := h
  unfold fewR at h
  refine ⟨⟨by decide, by decide⟩, ?_⟩
  refine ⟨fun j δ => ∃ z1 z2, δ = [some (pts p q), some (fr x), some (fr g), z1, z2] ∧ ((List.range 7).take j).findSome? (fun i => (allRows i).findSome? (hitR p q x g)) = none, ⟨none, none, rfl, rfl⟩, ?_, ?_⟩
  · rintro j d δ' hd ⟨z1, z2, rfl, h0⟩
    obtain ⟨hj, rfl⟩ := rng_get hd
    have hj : j < 7 := hj
    have hjr : (List.range 7)[j]? = some j := List.getElem?_range hj
    refine ⟨j, by rw [Int.zero_add], by omega, ?_⟩
    refine ⟨fun m δ => ∃ z2, δ = [some (pts p q), some (fr x), some (fr g), some (.int (0 + (j : Int))), z2] ∧ ((allRows j).take m).findSome? (hitR p q x g) = none, ⟨z2, rfl, rfl⟩, ?_, ?_⟩
    · rintro m e δ' he ⟨z2, rfl, hm⟩
      obtain ⟨r, hr, rfl⟩ := map_get he
      have hrl := (allRows_mem j r).mp (List.mem_of_getElem? hr)
      refine end_ok hpq hx (by omega) ?_
      refine fr_eqB ?_
      refine iteB (fun c => ?_) (fun c => ?_)
      · have c := of_decide_eq_true c
        have f1 : hitR p q x g r = some r := by unfold hitR; rw [if_pos c]
        rw [fs_at hjr h0 (fs_at hr hm f1)] at h
        exact h
      · have c := of_decide_eq_false c
        have f1 : hitR p q x g r = none := by unfold hitR; rw [if_neg c]
        exact ⟨some (rw_ r), rfl, fs_next hr hm f1⟩
    · rintro δ' ⟨z2, rfl, hm⟩
      rw [List.length_map, List.take_length] at hm
      exact ⟨_, z2, rfl, fs_next hjr h0 hm⟩
  · rintro δ' ⟨z1, z2, rfl, h0⟩
    rw [rng_len, show Int.toNat 7 = 7 from rfl, show List.take 7 (List.range 7) = List.range 7 from by rfl] at h0
    rw [h0] at h
    exact h
/-! ### _law_goal_right -/
theorem share_in {x : Rat} (h : Share x) : inU x = true := inU_iff.mpr ⟨h.1, h.2.1⟩
theorem few_more {p q x g : Rat} {n m : Nat} (h : n ≤ m) : (∀ r, fewR p q x g n = some r → fewR p q x g m = some r) ∧ (fewR p q x g n = none → ∀ r, fewR p q x g m = some r → n ≤ r.length) := by
  have e : List.range m = List.range n ++ (List.range (m - n)).map (n + ·) := by
    have := List.range_add (n := n) (m := m - n)
    rwa [show n + (m - n) = m by omega] at this
  unfold fewR
  rw [e, List.findSome?_append]
  refine ⟨fun r hr => by rw [hr]; rfl, fun hn r hr => ?_⟩
  rw [hn] at hr
  have hr : ((List.range (m - n)).map (n + ·)).findSome? _ = some r := hr
  obtain ⟨i, hi, he⟩ := List.exists_of_findSome?_eq_some hr
  obtain ⟨j, _, rfl⟩ := List.mem_map.mp hi
  obtain ⟨s, hs, hsr⟩ := List.exists_of_findSome?_eq_some he
  unfold hitR at hsr
  by_cases c : pours p q x s = g
  · rw [if_pos c] at hsr
    have := (allRows_mem _ s).mp hs
    cases hsr
    omega
  · rw [if_neg c] at hsr; cases hsr
abbrev N_law_goal_right : List Str := ["parts", "share", "goal", "many", "due", "one", "found", "begun", "few", "told"]
def t_law_goal_right (er : Er) : OS :=
  (oSeq (oNewL 4 dNil)
    (oSeq (oFor (dItL (dCall sp_law_all_rows (dCons (dVar 3) dNil))) (gN 5)
    (oSeq (oLift (dSet 7 (dCall sp_law_begun (dCons (dVar 0) (dCons (dVar 5) (dCons (dVar 2) dNil))))))
    (oIf (dB (dNotN (dVar 7))) (oApp 4 (dTup (dCons (dVar 5) (dCons (dVar 7) dNil)))) oNext)))
    (oFrz 4 (oSeq (oSetN 6 (sp_rows_to er) (dCons (dVar 0) (dCons (dVar 2) (dCons (dVar 3) dNil))))
    (oSeq (oIfB 6 (dOr (dB (dOp dNe (dVar 6) (dVar 4))) (dNot (dB (dIsi "list" (dVar 6))))) (oLift (dRet (dC (.bl false)))) oNext)
    (oSeq (oApp 6 (dC (.int 0)))
    (oSeq (oLift (dIfS (dB (dOp dNe (dCall (toD (sp_rows_to er)) (dCons (dVar 0) (dCons (dVar 2) (dCons (dVar 3) dNil)))) (dVar 4))) (dRet (dC (.bl false))) dNext))
    (oSeq (oLift (dPar 8 9 (dCall sp_law_fewest (dCons (dVar 0) (dCons (dVar 1) (dCons (dVar 2) dNil)))) (dCall (sp_fewest_to er) (dCons (dVar 0) (dCons (dVar 1) (dCons (dVar 2) dNil))))))
    (oLift (dRet (dIf (dB (dNotN (dVar 8))) (dOp dEq (dVar 9) (dVar 8)) (dOrV (dIsN (dVar 9)) (dGt (dC1 cLen (dVar 9)) (dC (.int 6)))))))))))))))

def sp_law_goal_right (er : Er) : DSp := fun ds k kx => ∃ (p q x g : Rat) (n : Nat), ds = [pts p q, fr x, fr g, .int n] ∧ Parts p q ∧ Share x ∧ Share g ∧ n ≤ 7 ∧ k (.bl true)
theorem len_law_goal_right (er : Er) : ∀ ds k kx, sp_law_goal_right er ds k kx → ds.length = 4 := by
  intro _ _ _ h
  unfold sp_law_goal_right at h
  obtain ⟨_, _, _, _, _, rfl, _⟩ := h; rfl
theorem pure_law_goal_right (er : Er) (ds : List D) (k : D → Prop) (kx : Addr → Prop) (h : sp_law_goal_right er ds k kx) : t_law_goal_right er { nx := fun _ _ => k .non, rt := k, rn := fun es => k (.lst es), ex := kx } (dstart N_law_goal_right ds) [] := by
  obtain ⟨p, q, x, g, n, rfl, hpq, hx, hg, hn, h⟩ := h
  have hb := backN_rows hpq.1 hpq.2.1 (share_in hg) n
  intro a _
  refine ⟨n, rfl, hn, ?_⟩
  refine ⟨fun j δ μ => ∃ z1 z2, δ = [some (pts p q), some (fr x), some (fr g), some (.int n), some (.adr a), z1, none, z2, none, none] ∧ μ = [(a, (((allRows n).take j).filterMap (toG p q g)).map stt)], ⟨none, none, rfl, rfl⟩, ?_, ?_⟩
  · rintro j d δ' μ' hd ⟨z1, z2, rfl, rfl⟩
    obtain ⟨r, hr, rfl⟩ := map_get hd
    have hrl := (allRows_mem n r).mp (List.mem_of_getElem? hr)
    refine ⟨p, q, g, r, rfl, hpq, hg, by omega, ?_⟩
    have lj : (((allRows n).take j).filterMap (toG p q g)).length ≤ 128 := Nat.le_trans (List.length_filterMap_le _ _) (by rw [List.length_take, allRows_len]; have := pow7 hn; omega)
    by_cases c : inU (begun p q g r) = true
    · rw [if_pos c]
      refine ⟨a, [], _, [], rfl, rfl, ?_, some (rw_ r), some (fr (begun p q g r)), rfl, ?_⟩
      · rw [List.length_map]; omega
      · rw [take_snoc hr, List.filterMap_append, List.map_append]
        have e : [r].filterMap (toG p q g) = [(r, begun p q g r)] := by simp [toG, c]
        rw [e]; rfl
    · rw [if_neg c]
      refine ⟨some (rw_ r), some .non, rfl, ?_⟩
      rw [take_snoc hr, List.filterMap_append]
      have e : [r].filterMap (toG p q g) = [] := by simp [toG, c]
      rw [e, List.append_nil]
  · rintro δ' μ' ⟨z1, z2, rfl, rfl⟩
    rw [List.length_map, List.take_length, ← hb]
    refine ⟨a, [], _, [], rfl, rfl, ?_⟩
    refine rows_to_ok hpq hg (by omega) ?_
    intro b _
    refine ⟨b, [], _, [], rfl, rfl, ?_⟩
    refine stts_ne rfl (iteF ?_)
    refine dIsi_of (isi_list rfl) (iteF ?_)
    refine ⟨b, [], _, [], rfl, rfl, ?_⟩
    refine ⟨by rw [List.length_map]; have := (thin_N hpq g n).le; omega, ?_⟩
    refine rows_to_ok hpq hg (by omega) ?_
    refine stts_ne rfl (iteF ?_)
    refine ⟨p, q, x, g, rfl, hpq, hx, hg, ?_⟩
    refine fewest_to_ok hpq hx hg ?_
    rw [few_same hpq.1 hpq.2.1 (share_in hx) (share_in hg)]
    have fm := few_more (p := p) (q := q) (x := x) (g := g) (n := 7) (m := 41) (by decide)
    cases e7 : fewR p q x g 7 with
    | some r =>
      rw [fm.1 r e7]
      exact rw_eqT rfl h
    | none =>
      cases e41 : fewR p q x g 41 with
      | none => exact h
      | some r =>
        have := fm.2 e7 r e41
        show k (.bl (decide ((6 : Int) < ((r.map wd).length : Int))))
        rw [decide_eq_true (by rw [List.length_map]; omega)]
        exact h
/-! ### _law_unseen_right -/
def alt (r : List Bool) (i : Nat) (w : Bool) : List Bool := r.take i ++ w :: r.drop (i + 1)
theorem alt_len {r : List Bool} {i : Nat} (h : i < r.length) (w : Bool) : (alt r i w).length = r.length := by
  unfold alt
  rw [List.length_append, List.length_cons, List.length_take, List.length_drop]; omega
theorem alt_at {r : List Bool} {i : Nat} (h : i < r.length) (w : Bool) : (alt r i w)[i]? = some w := by
  unfold alt
  rw [List.getElem?_append_right (by rw [List.length_take]; omega), List.length_take, show i - min i r.length = 0 by omega]; rfl
theorem alt_seen {p q x g : Rat} {r : List Bool} {i : Nat} (h : i < r.length) (w w2 : Bool) : seen p q x g (alt r i w) i w2 = decide (pours p q x (alt r i w2) = g) := by
  have e1 : (alt r i w).take i = r.take i := by
    unfold alt
    rw [List.take_append_of_le_length (by rw [List.length_take]; omega), List.take_take, Nat.min_self]
  have e2 : (alt r i w).drop (i + 1) = r.drop (i + 1) := by
    unfold alt
    rw [List.drop_append, List.length_take, show i + 1 - min i r.length = 1 by omega, List.drop_of_length_le (by rw [List.length_take]; omega)]; rfl
  unfold seen
  rw [e1, e2]
  unfold alt pours
  rw [List.foldl_append]; rfl
def goals (p q x g : Rat) (r : List Bool) (i : Nat) (w : Bool) : Bool := decide (pours p q x (alt r i w) = g)
theorem eqD_non : eqD .non .non = true := by unfold eqD; decide +kernel
theorem opour_ne {o : Option Bool} {k : D → Prop} (h : k (.bl false)) : dNe (opour o) (opour o) k := by
  cases o with
  | none => exact ne_of (by decide +kernel) (by decide +kernel) eqD_non h
  | some w => exact ne_of (wd_shp w) (wd_shp w) ((eqD_wd w w).trans (decide_eq_true rfl)) h
abbrev N_law_unseen_right : List Str := ["parts", "share", "row", "at", "goal", "rows", "due", "pour", "one"]
def t_law_unseen_right (er : Er) : DS :=
  (dSeq (dSet 5 (dLc (dItT (dTup (dCons (dC (.str "right")) (dCons (dC (.str "left")) dNil)))) (gN 7) dYes (dOp dCat (dOp dCat (dSl (dVar 2) dNo (dSome (dVar 3))) (dTup (dCons (dVar 7) dNil))) (dSl (dVar 2) (dSome (dAdd (dVar 3) (dC (.int 1)))) dNo)) [7]))
    (dSeq (dSet 6 (dOp dCat (dLc (dItL (dVar 5)) (gN 8) (dB (dOp dEq (dCall sp_law_end (dCons (dVar 0) (dCons (dVar 1) (dCons (dVar 8) dNil)))) (dVar 4))) (dOp dIx (dVar 8) (dVar 3)) [8]) (dLst (dCons (dC .non) dNil))))
    (dRet (dOp dEq (dLc (dItL (dVar 5)) (gN 8) (dB (dOp dNe (dCall (sp_unseen er) (dCons (dVar 0) (dCons (dVar 1) (dCons (dVar 8) (dCons (dVar 3) (dCons (dVar 4) dNil)))))) (dOp dIx (dVar 6) (dC (.int 0))))) (dC (.int 1)) [8]) (dLst dNil)))))

def sp_law_unseen_right (er : Er) : DSp := fun ds k kx => ∃ (p q x g : Rat) (r : List Bool) (i : Nat), ds = [pts p q, fr x, rw_ r, .int i, fr g] ∧ Parts p q ∧ Share x ∧ Share g ∧ r.length ≤ 40 ∧ i < r.length ∧ k (.bl true)
theorem len_law_unseen_right (er : Er) : ∀ ds k kx, sp_law_unseen_right er ds k kx → ds.length = 5 := by
  intro _ _ _ h
  unfold sp_law_unseen_right at h
  obtain ⟨_, _, _, _, _, _, rfl, _⟩ := h; rfl
theorem pure_law_unseen_right (er : Er) (ds : List D) (k : D → Prop) (kx : Addr → Prop) (h : sp_law_unseen_right er ds k kx) : t_law_unseen_right er { nx := fun _ => k .non, rt := k, ex := kx } (dstart N_law_unseen_right ds) := by
  obtain ⟨p, q, x, g, r, i, rfl, hpq, hx, hg, hr, hi, h⟩ := h
  have c1 : cutD (r.map wd) none (some (i : Int)) = (r.take i).map wd := by rw [cut_take, ← List.map_take]
  have c2 : cutD (r.map wd) (some ((i : Int) + 1)) none = (r.drop (i + 1)).map wd := by
    rw [show (i : Int) + 1 = ((i + 1 : Nat) : Int) by omega, cut_drop, ← List.map_drop]
  refine ⟨by decide, fun j acc => acc = ([false, true].take j).map (fun w => rw_ (alt r i w)), rfl, ?_, ?_⟩
  · rintro j acc d hd rfl
    obtain ⟨w, hw, rfl⟩ := map_get (f := wd) (l := [false, true]) hd
    have l1 : (cutD (r.map wd) none (some (i : Int))).length ≤ 40 := by rw [c1, List.length_map, List.length_take]; omega
    have l2 : (cutD (r.map wd) (some ((i : Int) + 1)) none).length ≤ 40 := by rw [c2, List.length_map, List.length_drop]; omega
    refine ⟨(show (cutD (r.map wd) none (some (i : Int))).length + 1 ≤ 100000 by omega), (show (cutD (r.map wd) none (some (i : Int)) ++ [wd w]).length + (cutD (r.map wd) (some ((i : Int) + 1)) none).length ≤ 100000 by rw [List.length_append]; show _ + 1 + _ ≤ _; omega), ?_⟩
    show _ ++ [D.tup (cutD (r.map wd) none (some (i : Int)) ++ [wd w] ++ cutD (r.map wd) (some ((i : Int) + 1)) none)] = _
    rw [take_snoc hw, List.map_append, c1, c2]
    congr 1
    show [D.tup _] = [rw_ (alt r i w)]
    unfold rw_ alt
    rw [List.map_append, List.map_cons, List.append_assoc]; rfl
  · rintro acc rfl
    refine ⟨by show 2 ≤ 100000; decide, fun j acc => acc = (([false, true].take j).filter (goals p q x g r i)).map wd, rfl, ?_, ?_⟩
    · rintro j acc d hd rfl
      obtain ⟨w, hw, rfl⟩ := map_get (f := fun w => rw_ (alt r i w)) (l := [false, true]) hd
      refine end_ok hpq hx (by rw [alt_len hi]; omega) ?_
      refine fr_eqB ?_
      have es : ([false, true].take (j + 1)).filter (goals p q x g r i) = ([false, true].take j).filter (goals p q x g r i) ++ [w].filter (goals p q x g r i) := by
        rw [take_snoc hw, List.filter_append]
      show if goals p q x g r i w = true then _ else _
      refine iteB (fun c => ?_) (fun c => ?_)
      · refine ixT_of (d := wd w) (atI_nat (by rw [List.getElem?_map, alt_at hi]; rfl)) ?_
        show _ = _
        rw [es, List.map_append]
        simp [c]
      · show _ = _
        rw [es]
        simp [c]
    · rintro acc rfl
      have e2 : List.take (List.map (fun w => rw_ (alt r i w)) (List.take [D.str "right", D.str "left"].length [false, true])).length [false, true] = [false, true] := rfl
      rw [e2]
      refine ⟨by rw [List.length_map]; have := List.length_filter_le (goals p q x g r i) [false, true]; show _ + 1 ≤ 100000; simp at this; omega, ?_⟩
      refine ⟨by show 2 ≤ 100000; decide, fun j acc => acc = [], rfl, ?_, ?_⟩
      · rintro j acc d hd rfl
        obtain ⟨w, hw, rfl⟩ := map_get (f := fun w => rw_ (alt r i w)) (l := [false, true]) hd
        refine unseen_ok hpq hx (by rw [alt_len hi]; omega) (by rw [alt_len hi]; omega) hg ?_
        have eu : unseenW p q x g (alt r i w) i = [false, true].find? (goals p q x g r i) := by
          unfold unseenW
          congr 1
          funext w2
          exact alt_seen hi w w2
        rw [eu]
        refine ix_of (d := opour ([false, true].find? (goals p q x g r i))) ?_ ?_
        · cases g0 : goals p q x g r i false <;> cases g1 : goals p q x g r i true <;> simp [g0, g1] <;> rfl
        · exact opour_ne rfl
      · rintro acc rfl
        exact eq_of (by decide +kernel) (by decide +kernel) (b := true) (by unfold eqD; decide +kernel) h
/-! ### the law -/
abbrev N_law_k04 : List Str := ["script", "bag", "half", "end", "goal", "at", "parts", "share", "row", "many"]
def t_law_k04 (er : Er) : DS :=
  (dSeq (dBags 10 0 1 6
    (oLift (dSeq (dAsg (dCall sp_law_drawn (dCons (dVar 1) (dCons (dC (.int 6)) dNil))) (gTp 3 (gCn (gN 6) (gCn (gN 7) (gCn (gN 8) gNl)))))
    (dSeq (dSet 3 (dCall sp_law_end (dCons (dVar 6) (dCons (dVar 7) (dCons (dVar 8) dNil)))))
    (dSeq (dFor (dItT (dTup (dCons (dVar 3) (dCons (dCall sp_law_a_share (dCons (dVar 1) dNil)) (dCons (dOp dIx (dVar 6) (dC (.int 1))) (dCons (dTup (dCons (dC (.int 0)) (dCons (dC (.int 1)) dNil))) (dCons (dTup (dCons (dC (.int 1)) (dCons (dC (.int 1)) dNil))) dNil))))))) (gN 4)
    (dSeq (dSet 9 (dCall sp_law_take (dCons (dVar 1) (dCons (dC (.int 7)) dNil))))
    (dIfS (dAnd (dB (dCall sp_is_share (dCons (dVar 4) dNil))) (dNot (dB (dCall (sp_law_goal_right er) (dCons (dVar 6) (dCons (dVar 7) (dCons (dVar 4) (dCons (dVar 9) dNil)))))))) (dRet (dC (.bl false))) dNext)))
    (dSeq (dSet 5 (dCall sp_law_take (dCons (dVar 1) (dCons (dOp cMax (dC (.int 1)) (dC1 cLen (dVar 8))) dNil))))
    (dFor (dItT (dTup (dCons (dVar 3) (dCons (dCall sp_law_made (dCons (dAdd (dOp dIx (dVar 3) (dC (.int 0))) (dC (.int 1))) (dCons (dAdd (dOp dIx (dVar 3) (dC (.int 1))) (dC (.int 2))) dNil))) (dCons (dCall sp_law_a_share (dCons (dVar 1) dNil)) dNil))))) (gN 4)
    (dIfS (dAnd (dB (dOp dNe (dVar 8) (dTup dNil))) (dAnd (dB (dCall sp_is_share (dCons (dVar 4) dNil))) (dNot (dB (dCall (sp_law_unseen_right er) (dCons (dVar 6) (dCons (dVar 7) (dCons (dVar 8) (dCons (dVar 5) (dCons (dVar 4) dNil)))))))))) (dRet (dC (.bl false))) dNext))))))))
    (dSeq (dSet 2 (dTup (dCons (dTup (dCons (dC (.int 1)) (dCons (dC (.int 2)) dNil))) (dCons (dTup (dCons (dC (.int 1)) (dCons (dC (.int 2)) dNil))) dNil))))
    (dSeq (dIfS (dOr (dB (dOp dNe (dCall (toD (sp_rows_to er)) (dCons (dVar 2) (dCons (dTup (dCons (dC (.int 1)) (dCons (dC (.int 2)) dNil))) (dCons (dC (.int 1)) dNil)))) (dLst (dCons (dTup (dCons (dTup (dCons (dC (.str "right")) dNil)) (dCons (dTup (dCons (dC (.int 1)) (dCons (dC (.int 1)) dNil))) dNil))) (dCons (dTup (dCons (dTup (dCons (dC (.str "left")) dNil)) (dCons (dTup (dCons (dC (.int 0)) (dCons (dC (.int 1)) dNil))) dNil))) dNil))))) (dB (dOp dNe (dCall (sp_fewest_to er) (dCons (dVar 2) (dCons (dTup (dCons (dC (.int 1)) (dCons (dC (.int 3)) dNil))) (dCons (dTup (dCons (dC (.int 1)) (dCons (dC (.int 3)) dNil))) dNil)))) (dTup dNil)))) (dRet (dC (.bl false))) dNext)
    (dRet (dAndV (dOp dEq (dCall (toD (sp_rows_to er)) (dCons (dTup (dCons (dTup (dCons (dC (.int 2)) (dCons (dC (.int 3)) dNil))) (dCons (dTup (dCons (dC (.int 2)) (dCons (dC (.int 3)) dNil))) dNil))) (dCons (dTup (dCons (dC (.int 1)) (dCons (dC (.int 2)) dNil))) (dCons (dC (.int 1)) dNil)))) (dLst dNil)) (dOp dEq (dCall (sp_fewest_to er) (dCons (dVar 2) (dCons (dTup (dCons (dC (.int 0)) (dCons (dC (.int 1)) dNil))) (dCons (dTup (dCons (dC (.int 5)) (dCons (dC (.int 8)) dNil))) dNil)))) (dTup (dCons (dC (.str "left")) (dCons (dC (.str "right")) (dCons (dC (.str "left")) dNil))))))))))

abbrev r12 : Rat := ⟨1, 2, by decide, by decide⟩
abbrev r13 : Rat := ⟨1, 3, by decide, by decide⟩
abbrev r23 : Rat := ⟨2, 3, by decide, by decide⟩
abbrev r58 : Rat := ⟨5, 8, by decide, by decide⟩
theorem parts_half : Parts r12 r12 := ⟨⟨by decide +kernel, by decide +kernel, by decide⟩, ⟨by decide +kernel, by decide +kernel, by decide⟩, by decide +kernel⟩
theorem parts_thirds : Parts r23 r23 := ⟨⟨by decide +kernel, by decide +kernel, by decide⟩, ⟨by decide +kernel, by decide +kernel, by decide⟩, by decide +kernel⟩
theorem share_of {x : Rat} (h0 : 0 ≤ x) (h1 : x ≤ 1) (h2 : x.den < GREAT) : Share x := ⟨h0, h1, h2⟩
theorem pure_law_k04 (er : Er) (ns : List Int) : t_law_k04 er { nx := fun _ => False, rt := fun d => d = .bl true, ex := fun _ => False } (blank 10 0 ns) := by
  refine ⟨ns, rfl, by decide, by decide, by decide, by decide, by decide, ?_, ?_⟩
  · refine ⟨6, rfl, by decide, by decide, fun p q x r hpq hx hr => ⟨rfl, ?_⟩⟩
    refine end_ok hpq hx (by omega) ?_
    have hu := U_pours hpq.1 hpq.2.1 r (share_U hx)
    generalize pours p q x r = e at *
    refine ⟨rfl, fun y hy => ?_⟩
    refine ⟨fun i δ => ∃ z4 z9, δ = [some (.scr ns), some .bag, none, some (fr e), z4, none, some (pts p q), some (fr x), some (rw_ r), z9], ⟨none, none, rfl⟩, ?_, ?_⟩
    · rintro i d δ' hd ⟨z4, z9, rfl⟩
      obtain ⟨z, rfl⟩ : ∃ z, d = fr z := by
        have hm : d = fr e ∨ d = fr y ∨ d = fr q ∨ d = .tup [.int 0, .int 1] ∨ d = .tup [.int 1, .int 1] := by simpa using List.mem_of_getElem? hd
        rcases hm with rfl | rfl | rfl | rfl | rfl
        · exact ⟨_, rfl⟩
        · exact ⟨_, rfl⟩
        · exact ⟨_, rfl⟩
        · exact ⟨0, rfl⟩
        · exact ⟨1, rfl⟩
      refine ⟨7, rfl, by decide, fun m m0 m1 => ⟨_, rfl, fr_plain z, fun b hb => ?_⟩⟩
      cases b with
      | false => exact ⟨some (fr z), some (.int m), rfl⟩
      | true =>
        obtain ⟨z', ez, hz⟩ := hb.mp rfl
        obtain rfl := fr_inj ez
        refine ⟨p, q, x, z, m.toNat, by rw [Int.toNat_of_nonneg m0], hpq, hx, hz, by omega, ?_⟩
        exact ⟨some (fr z), some (.int m), rfl⟩
    · rintro δ' ⟨z4, z9, rfl⟩
      have hl : ((r.map wd).length : Int) = r.length := by rw [List.length_map]
      refine ⟨_, rfl, (by show (0 : Int) < if ((r.map wd).length : Int) > 1 then ((r.map wd).length : Int) else 1; split <;> omega), fun a a0 a1 => ?_⟩
      have a1 : a < if ((r.map wd).length : Int) > 1 then ((r.map wd).length : Int) else 1 := a1
      have ha : r ≠ [] → a < r.length := fun hne => by
        have := List.length_pos_iff.mpr hne
        rw [hl] at a1
        split at a1 <;> omega
      have hden : e.den < 2 ^ 100 := Nat.lt_of_lt_of_le hu.2.2 (Nat.pow_le_pow_right (by decide) (by omega))
      refine ⟨e.num + 1, (e.den : Int) + 2, rfl, by omega, small_abs (by omega) ?_, rfl, fun y hy => ?_⟩
      · have : (e.den : Int) < 2 ^ 100 := by exact_mod_cast hden
        omega
      refine ⟨fun i δ => ∃ z4, δ = [some (.scr ns), some .bag, none, some (fr e), z4, some (.int a), some (pts p q), some (fr x), some (rw_ r), z9], ⟨z4, rfl⟩, ?_, ?_⟩
      · rintro i d δ' hd ⟨z4, rfl⟩
        obtain ⟨z, rfl⟩ : ∃ z, d = fr z := by
          have hm : d = fr e ∨ d = fr (mkRat (e.num + 1) ((e.den : Int) + 2).toNat) ∨ d = fr y := by simpa using List.mem_of_getElem? hd
          rcases hm with rfl | rfl | rfl <;> exact ⟨_, rfl⟩
        by_cases hre : r = []
        · exact rw_ne (s := []) hre ⟨some (fr z), rfl⟩
        · refine rw_neF (s := []) hre ?_
          refine ⟨_, rfl, fr_plain z, fun b hb => ?_⟩
          cases b with
          | false => exact ⟨some (fr z), rfl⟩
          | true =>
            obtain ⟨z', ez, hz⟩ := hb.mp rfl
            obtain rfl := fr_inj ez
            have := ha hre
            exact ⟨p, q, x, z, r, a.toNat, by rw [Int.toNat_of_nonneg a0], hpq, hx, hz, by omega, by omega, some (fr z), rfl⟩
      · rintro δ' ⟨z4, rfl⟩
        exact ⟨rfl, rfl⟩
  · refine rows_to_ok (p := r12) (q := r12) (g := r12) (n := 1) parts_half (share_of (by decide +kernel) (by decide +kernel) (by decide)) (by decide) ?_
    refine stts_ne (ts := [([false], 1), ([true], 0)]) (by decide +kernel) ?_
    refine fewest_to_ok (p := r12) (q := r12) (x := r13) (g := r13) parts_half (share_of (by decide +kernel) (by decide +kernel) (by decide)) (share_of (by decide +kernel) (by decide +kernel) (by decide)) ?_
    rw [show fewN r12 r12 r13 r13 41 = some [] from by decide +kernel]
    refine rw_ne (r := []) (s := []) rfl ?_
    refine rows_to_ok (p := r23) (q := r23) (g := r12) (n := 1) parts_thirds (share_of (by decide +kernel) (by decide +kernel) (by decide)) (by decide) ?_
    refine stts_eq (ts := []) (by decide +kernel) ?_
    refine fewest_to_ok (p := r12) (q := r12) (x := 0) (g := r58) parts_half share_zero (share_of (by decide +kernel) (by decide +kernel) (by decide)) ?_
    rw [show fewN r12 r12 0 r58 41 = some [true, false, true] from by decide +kernel]
    exact rw_eqT (r := [true, false, true]) (s := [true, false, true]) rfl rfl
end DL
namespace DL
open PySem PySem.Spec PyProof.Rows L2 PB
/-! ### more of pours told back -/
theorem fork_len {p q g : Rat} (h : Parts p q) : ∀ n, (backN p q g n).length = 2 → 1 - p = q
  | 0, e => by cases e
  | n + 1, e => by
    have e : (back p q (backN p q g n)).length = 2 := e
    rcases thin_N h g n with t | ⟨r, s, es⟩
    · match hs : backN p q g n, t with
      | [], _ => rw [hs] at e; cases e
      | [s], _ =>
        rw [hs] at e
        have e : ([s].flatMap (back1 p q)).length = 2 := e
        rw [List.flatMap_singleton, back1_eq] at e
        by_cases c1 : inU (unpour p q s.2 false) = true
        · by_cases c2 : inU (unpour p q s.2 true) = true
          · exact (fork h ((unR h.1).mp c1).2 ((unL h.2.1).mp c2).1).2.1
          · rw [if_pos c1, if_neg c2] at e; cases e
        · by_cases c2 : inU (unpour p q s.2 true) = true
          · rw [if_neg c1, if_pos c2] at e; cases e
          · rw [if_neg c1, if_neg c2] at e; cases e
    · exact fork_len h n (by rw [es]; rfl)
theorem few_spec {p q x g : Rat} {m : Nat} {s : List Bool} (h : fewR p q x g m = some s) : pours p q x s = g ∧ ∀ t, pours p q x t = g → s.length ≤ t.length := by
  induction m with
  | zero => cases h
  | succ m ih =>
    cases e : fewR p q x g m with
    | some s' =>
      have := (few_more (p := p) (q := q) (x := x) (g := g) (n := m) (m := m + 1) (by omega)).1 s' e
      rw [h] at this
      cases this
      exact ih e
    | none =>
      have hn := (few_more (p := p) (q := q) (x := x) (g := g) (n := m) (m := m + 1) (by omega)).2 e s h
      unfold fewR at h
      have hit : ∀ (i : Nat), (allRows i).findSome? (hitR p q x g) = some s → pours p q x s = g ∧ s.length = i := fun i hi => by
        obtain ⟨s', hs, hsr⟩ := List.exists_of_findSome?_eq_some hi
        unfold hitR at hsr
        by_cases c : pours p q x s' = g
        · rw [if_pos c] at hsr; cases hsr; exact ⟨c, (allRows_mem i s).mp hs⟩
        · rw [if_neg c] at hsr; cases hsr
      obtain ⟨i, hi, he⟩ := List.exists_of_findSome?_eq_some h
      have h1 := hit i he
      refine ⟨h1.1, fun t ht => ?_⟩
      rcases Nat.lt_or_ge t.length m with c | c
      · have : (allRows t.length).findSome? (hitR p q x g) = none := by
          unfold fewR at e
          exact List.findSome?_eq_none_iff.mp e t.length (List.mem_range.mpr c)
        have h2 := List.findSome?_eq_none_iff.mp this t ((allRows_mem _ t).mpr rfl)
        unfold hitR at h2
        rw [if_pos ht] at h2
        cases h2
      · have := List.mem_range.mp hi
        omega
theorem few_some {p q x : Rat} {r : List Bool} {m : Nat} (h : r.length < m) : ∃ s, fewR p q x (pours p q x r) m = some s := by
  cases e : fewR p q x (pours p q x r) m with
  | some s => exact ⟨s, rfl⟩
  | none =>
    unfold fewR at e
    have := List.findSome?_eq_none_iff.mp e r.length (List.mem_range.mpr h)
    have := List.findSome?_eq_none_iff.mp this r ((allRows_mem _ r).mpr rfl)
    unfold hitR at this
    rw [if_pos rfl] at this
    cases this
theorem pour_lt {p q x : Rat} (h : Parts p q) (hx : inU x = true) : pour p q x false < pour p q x true := by
  obtain ⟨h0, h1⟩ := inU_iff.mp hx
  obtain ⟨hp, hq, hs⟩ := h
  have a := (part_sub hp).1
  have b := (part_sub hq).1
  show x * (1 - p) < x * (1 - q) + q
  have e1 : x * (1 - p) ≤ 1 * (1 - p) := Rat.mul_le_mul_of_nonneg_right h1 (Rat.le_of_lt a)
  have e2 : 0 ≤ x * (1 - q) := Rat.mul_nonneg h0 (Rat.le_of_lt b)
  by_cases c : 0 < x
  · have e3 : 0 < x * (1 - q) := Rat.mul_pos c b
    grind
  · have ex : x = 0 := Rat.le_antisymm (Rat.not_lt.mp c) h0
    subst ex
    have := hq.1
    grind
theorem pours_inj {p q x y : Rat} (hp : Part p) (hq : Part q) {r : List Bool} (h : pours p q x r = pours p q y r) : x = y := by
  have := pours_diff p q r x y
  have hf := ne_of_pos (fac_pos hp hq r)
  have e : (x - y) * fac p q r = 0 := by rw [← this, h]; grind
  have e2 : x - y = 0 := by
    have := Rat.mul_div_cancel (a := x - y) hf
    rw [e, zero_over] at this
    exact this.symm
  grind
theorem U_in {x : Rat} {n : Nat} (h : U x n) : inU x = true := inU_iff.mpr ⟨h.1, h.2.1⟩
theorem unseen_is {p q x : Rat} {r : List Bool} {i : Nat} {w : Bool} (h : Parts p q) (hx : Share x) (hw : r[i]? = some w) : unseenW p q x (pours p q x r) r i = some w := by
  have hi : i < r.length := (List.getElem?_eq_some_iff.mp hw).1
  have er : r = r.take i ++ w :: r.drop (i + 1) := by
    conv => lhs; rw [← List.take_append_drop i r, List.drop_eq_getElem_cons hi]
    rw [(List.getElem?_eq_some_iff.mp hw).2]
  have eg : pours p q x r = pours p q (pour p q (pours p q x (r.take i)) w) (r.drop (i + 1)) := by
    conv => lhs; rw [er]
    unfold pours
    rw [List.foldl_append]; rfl
  have hy := U_in (U_pours h.1 h.2.1 (r.take i) (share_U hx))
  have lt := pour_lt h hy
  have sw : ∀ w2, seen p q x (pours p q x r) r i w2 = decide (w2 = w) := fun w2 => by
    unfold seen
    rw [eg]
    by_cases c : w2 = w
    · rw [c, decide_eq_true rfl, decide_eq_true rfl]
    · rw [decide_eq_false c]
      refine decide_eq_false fun e => ?_
      have := pours_inj h.1 h.2.1 e
      cases w <;> cases w2 <;> first | exact c rfl | (rw [this] at lt; exact Rat.lt_irrefl lt)
  unfold unseenW
  cases w <;> simp [sw]
theorem back_nil (p q g : Rat) (h : backN p q g 1 = []) : ∀ n, backN p q g (n + 1) = []
  | 0 => h
  | n + 1 => by show back p q (backN p q g (n + 1)) = []; rw [back_nil p q g h n]; rfl
theorem few_none {p q x g : Rat} (h : backN p q g 1 = []) (hx : x ≠ g) (m : Nat) : fewN p q x g m = none := by
  unfold fewN
  refine List.findSome?_eq_none_iff.mpr fun i _ => ?_
  cases i with
  | zero =>
    show [(([] : List Bool), g)].findSome? (hitS x) = none
    simp [hitS, hx.symm]
  | succ n => rw [back_nil p q g h n]; rfl
theorem back_corner0 {p q : Rat} (h : Parts p q) : ∀ n, backN p q 0 n = [(List.replicate n false, 0)]
  | 0 => rfl
  | n + 1 => by
    show back p q (backN p q 0 n) = _
    rw [back_corner0 h n]
    show [(List.replicate n false, (0 : Rat))].flatMap (back1 p q) = _
    rw [List.flatMap_singleton, back1_zero h]; rfl
theorem back_corner1 {p q : Rat} (h : Parts p q) : ∀ n, backN p q 1 n = [(List.replicate n true, 1)]
  | 0 => rfl
  | n + 1 => by
    show back p q (backN p q 1 n) = _
    rw [back_corner1 h n]
    show [(List.replicate n true, (1 : Rat))].flatMap (back1 p q) = _
    rw [List.flatMap_singleton, back1_one h]; rfl
theorem back_fork {p q : Rat} (h : Parts p q) (e : 1 - p = q) : ∀ n, ∃ r s, backN p q q (n + 1) = [(r, 1), (s, 0)]
  | 0 => by
    have c1 : inU (unpour p q q false) = true := (unR h.1).mpr ⟨Rat.le_of_lt h.2.1.1, by rw [e]; exact Rat.le_refl⟩
    have c2 : inU (unpour p q q true) = true := (unL h.2.1).mpr ⟨Rat.le_refl, Rat.le_of_lt h.2.1.2.1⟩
    have f := fork h (x := q) (by rw [e]; exact Rat.le_refl) Rat.le_refl
    refine ⟨[false], [true], ?_⟩
    show [(([] : List Bool), q)].flatMap (back1 p q) = _
    rw [List.flatMap_singleton, back1_eq, if_pos c1, if_pos c2, f.2.2.1, f.2.2.2]; rfl
  | n + 1 => by
    obtain ⟨r, s, es⟩ := back_fork h e n
    refine ⟨true :: r, false :: s, ?_⟩
    show back p q (backN p q q (n + 1)) = _
    rw [es]
    show [(r, (1 : Rat)), (s, 0)].flatMap (back1 p q) = _
    rw [List.flatMap_cons, List.flatMap_singleton, back1_one h, back1_zero h]; rfl
theorem stt_notIn {ss : List Stt} {s : Stt} {k : D → Prop} (h : s ∈ ss) (hk : k (.bl false)) : dInD true (stt s) (.lst (ss.map stt)) k := by
  unfold dInD
  refine ⟨(sh_stt s 0).shp, stts_shp ss, ?_⟩
  have e : (ss.map stt).any (fun z => eqD z (stt s)) = true := List.any_eq_true.mpr ⟨stt s, List.mem_map_of_mem h, by rw [eqD_stt]; exact decide_eq_true rfl⟩
  rw [e]; exact hk
theorem rep_wd (n : Nat) (w : Bool) : (List.replicate n [wd w]).flatten = (List.replicate n w).map wd := by
  induction n with
  | zero => rfl
  | succ n ih => rw [List.replicate_succ, List.flatten_cons, ih]; rfl
abbrev N_law_k05 : List Str := ["script", "bag", "share", "end", "amid", "corner", "parts", "row", "told", "few", "size", "at", "low", "high", "forked", "many", "one", "begun"]
def t_law_k05 (er : Er) : DS :=
  (dSeq (dBags 18 0 1 8
    (oLift (dSeq (dPar 6 7 (dCall sp_law_two_parts (dCons (dVar 1) dNil)) (dCall sp_law_a_row (dCons (dVar 1) (dCons (dC (.int 10)) dNil))))
    (dSeq (dSet 2 (dCall sp_law_made (dCons (dCall sp_law_take (dCons (dVar 1) (dCons (dC (.int 5)) dNil))) (dCons (dAdd (dC (.int 4)) (dCall sp_law_take (dCons (dVar 1) (dCons (dC (.int 6)) dNil)))) dNil))))
    (dSeq (dSet 3 (dCall (sp_behind er) (dCons (dVar 6) (dCons (dVar 2) (dCons (dVar 7) dNil)))))
    (dCut (dIfS (dB (dCall sp_is_share (dCons (dVar 3) dNil))) (dSeq (dSet 8 (dCall (toD (sp_rows_to er)) (dCons (dVar 6) (dCons (dVar 3) (dCons (dC1 cLen (dVar 7)) dNil)))))
    (dSeq (dIfS (dOr (dB (dOp (dInD true) (dTup (dCons (dVar 7) (dCons (dVar 2) dNil))) (dVar 8))) (dB (dGt (dC1 cLen (dVar 8)) (dC (.int 2))))) (dRet (dC (.bl false))) dNext)
    (dCut (dIfS (dAnd (dB (dOp dEq (dC1 cLen (dVar 8)) (dC (.int 2)))) (dB (dOp dNe (dCall sp_law_plus (dCons (dOp dIx (dVar 6) (dC (.int 0))) (dCons (dOp dIx (dVar 6) (dC (.int 1))) dNil))) (dTup (dCons (dC (.int 1)) (dCons (dC (.int 1)) dNil)))))) (dRet (dC (.bl false))) dNext)
    (dSeq (dFor (dItL (dVar 8)) (gTp 2 (gCn (gN 16) (gCn (gN 17) gNl)))
    (dIfS (dOr (dB (dOp dNe (dC1 cLen (dVar 16)) (dC1 cLen (dVar 7)))) (dB (dOp dNe (dCall sp_law_end (dCons (dVar 6) (dCons (dVar 17) (dCons (dVar 16) dNil)))) (dVar 3)))) (dRet (dC (.bl false))) dNext))
    (dSeq (dSet 9 (dCall (sp_fewest_to er) (dCons (dVar 6) (dCons (dVar 2) (dCons (dVar 3) dNil)))))
    (dSeq (dIfS (dOr (dB (dIsN (dVar 9))) (dOr (dB (dGt (dC1 cLen (dVar 9)) (dC1 cLen (dVar 7)))) (dB (dOp dNe (dCall sp_law_end (dCons (dVar 6) (dCons (dVar 2) (dCons (dVar 9) dNil)))) (dVar 3))))) (dRet (dC (.bl false))) dNext)
    (dSeq (dFor (dItR1 (dC1 cLen (dVar 9))) (gN 10)
    (dIfS (dB (dOp dNe (dLc (dItL (dCall (toD (sp_rows_to er)) (dCons (dVar 6) (dCons (dVar 3) (dCons (dVar 10) dNil))))) (gTp 2 (gCn (gN 16) (gCn (gN 17) gNl))) (dB (dOp dEq (dVar 17) (dVar 2))) (dC (.int 1)) [16, 17]) (dLst dNil))) (dRet (dC (.bl false))) dNext))
    (dFor (dItR1 (dC1 cLen (dVar 7))) (gN 11)
    (dIfS (dB (dOp dNe (dCall (sp_unseen er) (dCons (dVar 6) (dCons (dVar 2) (dCons (dVar 7) (dCons (dVar 11) (dCons (dVar 3) dNil)))))) (dOp dIx (dVar 7) (dVar 11)))) (dRet (dC (.bl false))) dNext))))))))) dNext)
    (dSeq (dPar 12 13 (dCall sp_law_minus (dCons (dTup (dCons (dC (.int 1)) (dCons (dC (.int 1)) dNil))) (dCons (dOp dIx (dVar 6) (dC (.int 0))) dNil))) (dOp dIx (dVar 6) (dC (.int 1))))
    (dSeq (dSet 4 (dCall sp_law_made (dCons (dAdd (dMul (dOp dIx (dVar 12) (dC (.int 0))) (dOp dIx (dVar 13) (dC (.int 1)))) (dMul (dOp dIx (dVar 13) (dC (.int 0))) (dOp dIx (dVar 12) (dC (.int 1))))) (dCons (dMul (dMul (dC (.int 2)) (dOp dIx (dVar 12) (dC (.int 1)))) (dOp dIx (dVar 13) (dC (.int 1)))) dNil))))
    (dCut (dIfS (dAnd (dB (dOp dNe (dVar 12) (dVar 13))) (dOr (dB (dOp dNe (dCall (toD (sp_rows_to er)) (dCons (dVar 6) (dCons (dVar 4) (dCons (dC (.int 1)) dNil)))) (dLst dNil))) (dB (dNotN (dCall (sp_fewest_to er) (dCons (dVar 6) (dCons (dTup (dCons (dC (.int 0)) (dCons (dC (.int 1)) dNil))) (dCons (dVar 4) dNil)))))))) (dRet (dC (.bl false))) dNext)
    (dCut (dIfS (dB (dOp dEq (dVar 12) (dVar 13))) (dSeq (dSet 14 (dCall (toD (sp_rows_to er)) (dCons (dVar 6) (dCons (dVar 12) (dCons (dAdd (dC (.int 1)) (dCall sp_law_take (dCons (dVar 1) (dCons (dC (.int 9)) dNil)))) dNil)))))
    (dIfS (dB (dOp dNe (dLc (dItL (dVar 14)) (gTp 2 (gCn (gN 16) (gCn (gN 17) gNl))) dYes (dVar 17) [16, 17]) (dLst (dCons (dTup (dCons (dC (.int 1)) (dCons (dC (.int 1)) dNil))) (dCons (dTup (dCons (dC (.int 0)) (dCons (dC (.int 1)) dNil))) dNil))))) (dRet (dC (.bl false))) dNext)) dNext)
    (dFor (dItT (dTup (dCons (dTup (dCons (dC (.int 0)) (dCons (dC (.int 1)) dNil))) (dCons (dTup (dCons (dC (.int 1)) (dCons (dC (.int 1)) dNil))) dNil)))) (gN 5)
    (dSeq (dSet 15 (dCall sp_law_take (dCons (dVar 1) (dCons (dC (.int 41)) dNil))))
    (dIfS (dB (dOp dNe (dCall (toD (sp_rows_to er)) (dCons (dVar 6) (dCons (dVar 5) (dCons (dVar 15) dNil)))) (dLst (dCons (dTup (dCons (dOp dRep (dTup (dCons (dOp dIx (dLst (dCons (dC (.str "right")) (dCons (dC (.str "left")) dNil))) (dOp dIx (dVar 5) (dC (.int 0)))) dNil)) (dVar 15)) (dCons (dVar 5) dNil))) dNil)))) (dRet (dC (.bl false))) dNext)))))))))))))
    (dRet (dC (.bl true))))

theorem share_small {t b : Int} (h0 : 0 ≤ t) (h1 : t ≤ b) (hb : 0 < b) (h2 : b < GREAT) : Share (mkRat t b.toNat) :=
  ⟨mk_nonneg h0 (by omega), mk_le1 (by omega) (by omega), Nat.lt_of_le_of_lt (mkRat_den_le _ _ (by omega)) (by omega)⟩
theorem amid_eq (x y : Rat) : mkRat (x.num * y.den + y.num * x.den) (2 * x.den * y.den) * 2 = x + y := by
  have h1 : mkRat (x.num * y.den + y.num * x.den) (x.den * y.den) = x + y := (Rat.add_def' x y).symm
  rw [Rat.mkRat_eq_div] at h1 ⊢
  have e : ((2 * x.den * y.den : Nat) : Rat) = 2 * ((x.den * y.den : Nat) : Rat) := by
    rw [Nat.mul_assoc, Rat.natCast_mul]; rfl
  have hn : ((x.den * y.den : Nat) : Rat) ≠ 0 := fun c => by
    have := Rat.natCast_eq_zero_iff.mp c
    have := Nat.mul_pos x.den_pos y.den_pos
    omega
  rw [e, ← h1]
  generalize ((x.den * y.den : Nat) : Rat) = d at *
  generalize ((x.num * y.den + y.num * x.den : Int) : Rat) = t at *
  grind
theorem pure_law_k05 (er : Er) (ns : List Int) : t_law_k05 er { nx := fun _ => False, rt := fun d => d = .bl true, ex := fun _ => False } (blank 18 0 ns) := by
  refine ⟨ns, rfl, by decide, by decide, by decide, by decide, by decide, ?_, ?_⟩
  · refine ⟨rfl, fun p q hpq => ⟨10, rfl, by decide, by decide, fun r hr => ?_⟩⟩
    have hr10 : r.length ≤ 10 := by omega
    refine ⟨5, rfl, by decide, fun t t0 t1 => ⟨6, rfl, by decide, fun b b0 b1 => ⟨t, 4 + b, rfl, by omega, small_abs (by omega) (by omega), ?_⟩⟩⟩
    have hx : Share (mkRat t (4 + b).toNat) := share_small t0 (by omega) (by omega) (by show 4 + b < 100000000000000000000; omega)
    generalize mkRat t (4 + b).toNat = x at *
    refine behind_ok hpq hx (by omega) ?_
    refine ⟨fun δ => ∃ z8 z9 z10 z11 z16 z17, δ = [some (.scr ns), some .bag, some (fr x), some (fr (pours p q x r)), none, none, some (pts p q), some (rw_ r), z8, z9, z10, z11, none, none, none, none, z16, z17], ?_, ?_⟩
    · refine ⟨_, rfl, fr_plain _, fun c hc => ?_⟩
      cases c with
      | false => exact ⟨none, none, none, none, none, none, rfl⟩
      | true =>
        obtain ⟨g', eg', hg⟩ := hc.mp rfl
        obtain rfl := fr_inj eg'
        have hb := backN_rows hpq.1 hpq.2.1 (share_in hg)
        have hmem := backN_mem hpq.1 hpq.2.1 (share_U hg)
        have el : ((r.map wd).length : Int) = ((r.length : Nat) : Int) := by rw [List.length_map]
        refine (show sp_rows_to er [pts p q, fr (pours p q x r), .int ((r.map wd).length : Int)] _ _ _ from ?_)
        rw [el]
        refine rows_to_ok hpq hg (by omega) ?_
        have hin : (r, x) ∈ backN p q (pours p q x r) r.length := by
          rw [hb]
          refine List.mem_filterMap.mpr ⟨r, (allRows_mem _ r).mpr rfl, ?_⟩
          have e : begun p q (pours p q x r) r = x := (begun_iff hpq.1 hpq.2.1 r).mp rfl
          unfold toG
          rw [e, if_pos (share_in hx)]
        have hthin := (thin_N hpq (pours p q x r) r.length).le
        have hfork := fork_len hpq (g := pours p q x r) r.length
        have hmemN := hmem r.length
        have elen : (((backN p q (pours p q x r) r.length).map stt).length : Int) = ((backN p q (pours p q x r) r.length).length : Int) := by rw [List.length_map]
        refine stt_notIn hin ?_
        show if decide ((2 : Int) < (((backN p q (pours p q x r) r.length).map stt).length : Int)) = true then _ else _
        rw [elen, decide_eq_false (by omega)]
        refine iteF ?_
        refine ⟨fun δ => δ = [some (.scr ns), some .bag, some (fr x), some (fr (pours p q x r)), none, none, some (pts p q), some (rw_ r), some (.lst ((backN p q (pours p q x r) r.length).map stt)), none, none, none, none, none, none, none, none, none], ?_, ?_⟩
        · show dEq (.int (((backN p q (pours p q x r) r.length).map stt).length : Int)) (.int 2) _
          rw [elen]
          refine eq_int ?_
          refine iteB (fun c => ?_) (fun c => rfl)
          have c := of_decide_eq_true c
          have e1 := hfork (by omega)
          refine ⟨p, q, rfl, Fit.of (part_sz hpq.1), Fit.of (part_sz hpq.2.1), ?_⟩
          exact fr_ne (y := 1) (by rw [← e1]; grind) rfl
        rintro δ' rfl
        generalize hG : pours p q x r = g at *
        refine ⟨fun j δ => ∃ z16 z17, δ = [some (.scr ns), some .bag, some (fr x), some (fr g), none, none, some (pts p q), some (rw_ r), some (.lst ((backN p q g r.length).map stt)), none, none, none, none, none, none, none, z16, z17], ⟨none, none, rfl⟩, ?_, ?_⟩
        · rintro j d δ' hd ⟨z16, z17, rfl⟩
          obtain ⟨s, hs, rfl⟩ := map_get hd
          obtain ⟨m1, m2, m3⟩ := hmemN s (List.mem_of_getElem? hs)
          refine ⟨rfl, ?_⟩
          refine ne_intT (by rw [List.length_map, List.length_map, m1]) ?_
          refine end_mk hpq.1 hpq.2.1 m2 (by omega) ?_
          exact fr_ne m3 ⟨some (rw_ s.1), some (fr s.2), rfl⟩
        · rintro δ' ⟨z16, z17, rfl⟩
          refine fewest_to_ok hpq hx hg ?_
          rw [few_same hpq.1 hpq.2.1 (share_in hx) (share_in hg)]
          obtain ⟨s, hs⟩ := few_some (p := p) (q := q) (x := x) (r := r) (m := 41) (by omega)
          rw [hG] at hs
          obtain ⟨f1, f2⟩ := few_spec hs
          have hsl := f2 r hG
          rw [hs]
          show if decide (((r.map wd).length : Int) < ((s.map wd).length : Int)) = true then _ else _
          rw [decide_eq_false (by rw [List.length_map, List.length_map]; omega)]
          refine iteF ?_
          refine end_ok hpq hx (by omega) ?_
          refine fr_ne f1 ?_
          refine ⟨⟨by omega, by rw [List.length_map]; omega⟩, ?_⟩
          refine ⟨fun j δ => ∃ z10, δ = [some (.scr ns), some .bag, some (fr x), some (fr g), none, none, some (pts p q), some (rw_ r), some (.lst ((backN p q g r.length).map stt)), some (rw_ s), z10, none, none, none, none, none, z16, z17], ⟨none, rfl⟩, ?_, ?_⟩
          · rintro j d δ' hd ⟨z10, rfl⟩
            obtain ⟨hj, rfl⟩ := rng_get hd
            have hj : j < s.length := by rw [List.length_map, Int.toNat_natCast] at hj; exact hj
            refine (show sp_rows_to er [pts p q, fr g, .int (0 + (j : Int))] _ _ _ from ?_)
            rw [Int.zero_add]
            refine rows_to_ok hpq hg (by omega) ?_
            refine ⟨by rw [List.length_map]; have := (thin_N hpq g j).le; omega, fun i acc => acc = [], rfl, ?_, ?_⟩
            · rintro i acc e he rfl
              obtain ⟨u, hu, rfl⟩ := map_get he
              obtain ⟨m1, m2, m3⟩ := hmem j u (List.mem_of_getElem? hu)
              refine ⟨rfl, fr_eqB ?_⟩
              refine iteB (fun c => ?_) (fun c => rfl)
              have c := of_decide_eq_true c
              rw [c] at m3
              have := f2 u.1 m3
              omega
            · rintro acc rfl
              exact ne_of (by decide +kernel) (by decide +kernel) (b := true) (by unfold eqD; decide +kernel) ⟨some (.int (j : Int)), rfl⟩
          · rintro δ' ⟨z10, rfl⟩
            refine ⟨⟨by omega, by rw [List.length_map]; omega⟩, ?_⟩
            refine ⟨fun j δ => ∃ z11, δ = [some (.scr ns), some .bag, some (fr x), some (fr g), none, none, some (pts p q), some (rw_ r), some (.lst ((backN p q g r.length).map stt)), some (rw_ s), z10, z11, none, none, none, none, z16, z17], ⟨none, rfl⟩, ?_, ?_⟩
            · rintro j d δ' hd ⟨z11, rfl⟩
              obtain ⟨hj, rfl⟩ := rng_get hd
              have hj : j < r.length := by rw [List.length_map, Int.toNat_natCast] at hj; exact hj
              refine (show sp_unseen er [pts p q, fr x, rw_ r, .int (0 + (j : Int)), fr g] _ _ from ?_)
              rw [Int.zero_add]
              refine unseen_ok hpq hx (by omega) hj hg ?_
              have hw : r[j]? = some r[j] := List.getElem?_eq_getElem hj
              have eu := unseen_is hpq hx hw
              rw [hG] at eu
              rw [eu]
              refine ixT_of (d := wd r[j]) (atI_nat (by rw [List.getElem?_map, hw]; rfl)) ?_
              exact opour_ne (o := some r[j]) ⟨some (.int (j : Int)), rfl⟩
            · rintro δ' ⟨z11, rfl⟩
              exact ⟨_, _, _, _, _, _, rfl⟩
    · rintro δ' ⟨z8, z9, z10, z11, z16, z17, rfl⟩
      have hp := hpq.1
      have hq := hpq.2.1
      have sl := part_sub hp
      refine ⟨1, p, rfl, Fit.of sz_one, Fit.of (part_sz hp), ?_⟩
      have fl : Fit (1 - p) := Fit.of (part_sz sl)
      have fh : Fit q := Fit.of (part_sz hq)
      have l12 : ((1 - p).den : Int) ≤ 12 := by have := sl.2.2; omega
      have h12 : (q.den : Int) ≤ 12 := by have := hq.2.2; omega
      have lp : 0 < ((1 - p).den : Int) := by have := (1 - p).den_pos; omega
      have hp0 : 0 < (q.den : Int) := by have := q.den_pos; omega
      have hdd : (2 * ((1 - p).den : Int)) * (q.den : Int) ≤ 288 := by
        have h1 : (2 * ((1 - p).den : Int)) * (q.den : Int) ≤ 24 * (q.den : Int) := Int.mul_le_mul_of_nonneg_right (by omega) (by omega)
        omega
      have hpp : 0 < (2 * ((1 - p).den : Int)) * (q.den : Int) := Int.mul_pos (by omega) hp0
      refine ⟨fl.nd fh, fh.nd fl, mulW (n := 10) (m := 10) (by decide) (by omega) (by decide) (by decide) (by decide), mulW (n := 10) (m := 10) (by omega) (by omega) (by decide) (by decide) (by decide), _, _, rfl, hpp, small_abs (by omega) (by omega), ?_⟩
      have e0 : ((2 * ((1 - p).den : Int)) * (q.den : Int)).toNat = 2 * (1 - p).den * q.den := by
        rw [show (2 * ((1 - p).den : Int)) * (q.den : Int) = ((2 * (1 - p).den * q.den : Nat) : Int) by rw [Int.natCast_mul, Int.natCast_mul]; rfl, Int.toNat_natCast]
      have ea := amid_eq (1 - p) q
      have hm : (mkRat ((1 - p).num * q.den + q.num * (1 - p).den) ((2 * ((1 - p).den : Int)) * (q.den : Int)).toNat).den < GREAT := Nat.lt_of_le_of_lt (mkRat_den_le _ _ (by omega)) (by show _ < 100000000000000000000; omega)
      rw [e0] at hm ⊢
      generalize mkRat ((1 - p).num * q.den + q.num * (1 - p).den) (2 * (1 - p).den * q.den) = am at *
      have hle : 1 - p ≤ q := by have := hpq.2.2; grind
      have am1 : 1 - p ≤ am := by grind
      have am2 : am ≤ q := by grind
      have ham : Share am := ⟨Rat.le_trans (Rat.le_of_lt sl.1) am1, Rat.le_trans am2 (Rat.le_of_lt hq.2.1), hm⟩
      refine ⟨fun δ => δ = [some (.scr ns), some .bag, some (fr x), some (fr (pours p q x r)), some (fr am), none, some (pts p q), some (rw_ r), z8, z9, z10, z11, some (fr (1 - p)), some (fr q), none, none, z16, z17], ?_, ?_⟩
      · refine fr_neB ?_
        by_cases c : 1 - p = q
        · rw [decide_eq_true c]; exact rfl
        · rw [decide_eq_false c]
          have lt : 1 - p < q := Rat.lt_of_le_of_ne hle c
          have n1 : ¬ am ≤ 1 - p := fun h => by grind
          have n2 : ¬ q ≤ am := fun h => by grind
          have hb : backN p q am 1 = [] := by
            show [(([] : List Bool), am)].flatMap (back1 p q) = []
            rw [List.flatMap_singleton, back1_eq, if_neg (fun h => n1 ((unR hp).mp h).2), if_neg (fun h => n2 ((unL hq).mp h).1)]; rfl
          refine rows_to_ok (n := 1) hpq ham (by decide) ?_
          refine stts_ne (ts := []) hb ?_
          refine fewest_to_ok (x := 0) hpq share_zero ham ?_
          have n0 : (0 : Rat) ≠ am := fun h => by have := sl.1; rw [← h] at am1; exact absurd am1 (Rat.not_le.mpr this)
          rw [few_none hb n0]
          exact rfl
      · rintro δ' rfl
        refine ⟨fun δ => ∃ z14 z16 z17, δ = [some (.scr ns), some .bag, some (fr x), some (fr (pours p q x r)), some (fr am), none, some (pts p q), some (rw_ r), z8, z9, z10, z11, some (fr (1 - p)), some (fr q), z14, none, z16, z17], ?_, ?_⟩
        · refine fr_eqB ?_
          refine iteB (fun c => ?_) (fun c => ⟨none, z16, z17, rfl⟩)
          have c := of_decide_eq_true c
          refine ⟨9, rfl, by decide, fun m m0 m1 => ?_⟩
          obtain ⟨m, rfl⟩ : ∃ i : Nat, m = i := ⟨m.toNat, by omega⟩
          obtain ⟨r1, s1, es⟩ := back_fork hpq c m
          refine (show sp_rows_to er [pts p q, fr (1 - p), .int (1 + (m : Int))] _ _ _ from ?_)
          rw [c, show (1 + (m : Int)) = ((m + 1 : Nat) : Int) by omega]
          refine rows_to_ok hpq (part_share hq) (by omega) ?_
          rw [es]
          refine ⟨by show 2 ≤ 100000; decide, fun i acc => acc = (([1, 0] : List Rat).take i).map fr, rfl, ?_, ?_⟩
          · rintro i acc e he rfl
            match i, he with
            | 0, he => cases he; exact ⟨rfl, rfl⟩
            | 1, he => cases he; exact ⟨rfl, rfl⟩
          · rintro acc rfl
            exact frs_ne (xs := [1, 0]) (ys := [1, 0]) rfl ⟨_, z16, z17, rfl⟩
        · rintro δ' ⟨z14, z16, z17, rfl⟩
          refine ⟨fun j δ => ∃ z5 z15, δ = [some (.scr ns), some .bag, some (fr x), some (fr (pours p q x r)), some (fr am), z5, some (pts p q), some (rw_ r), z8, z9, z10, z11, some (fr (1 - p)), some (fr q), z14, z15, z16, z17], ⟨none, none, rfl⟩, ?_, ?_⟩
          · rintro j d δ' hd ⟨z5, z15, rfl⟩
            refine ⟨41, rfl, by decide, fun m m0 m1 => ?_⟩
            obtain ⟨m, rfl⟩ : ∃ i : Nat, m = i := ⟨m.toNat, by omega⟩
            match j, hd with
            | 0, hd =>
              cases hd
              refine rows_to_ok (g := 0) hpq share_zero (by omega) ?_
              rw [back_corner0 hpq]
              refine ⟨⟨by decide, by omega, by omega, by decide⟩, ?_⟩
              refine (show dNe (.lst ([(List.replicate m false, (0 : Rat))].map stt)) (.lst [.tup [.tup (List.replicate m [wd false]).flatten, fr 0]]) _ from ?_)
              rw [rep_wd]
              exact stts_ne (ts := [(List.replicate m false, 0)]) rfl ⟨_, _, rfl⟩
            | 1, hd =>
              cases hd
              refine rows_to_ok (g := 1) hpq share_one (by omega) ?_
              rw [back_corner1 hpq]
              refine ⟨⟨by decide, by omega, by omega, by decide⟩, ?_⟩
              refine (show dNe (.lst ([(List.replicate m true, (1 : Rat))].map stt)) (.lst [.tup [.tup (List.replicate m [wd true]).flatten, fr 1]]) _ from ?_)
              rw [rep_wd]
              exact stts_ne (ts := [(List.replicate m true, 1)]) rfl ⟨_, _, rfl⟩
          · rintro δ' ⟨z5, z15, rfl⟩
            exact ⟨rfl, rfl⟩
  · exact rfl
end DL
/-! Rows numbered: the mathematics. -/
namespace DL
open PySem PySem.Spec PyProof.Rows L2 PB
/-! ### ways to choose -/
def ch : Nat → Nat → Nat
  | _, 0 => 1
  | 0, _ + 1 => 0
  | n + 1, k + 1 => ch n k + ch n (k + 1)
theorem ch_zero (n : Nat) : ch n 0 = 1 := by cases n <;> rfl
theorem ch_big : ∀ (n k : Nat), n < k → ch n k = 0
  | _, 0, h => by omega
  | 0, k + 1, _ => rfl
  | n + 1, k + 1, h => by show ch n k + ch n (k + 1) = 0; rw [ch_big n k (by omega), ch_big n (k + 1) (by omega)]
theorem ch_step : ∀ (n k : Nat), (n + 1) * ch n k = ch (n + 1) (k + 1) * (k + 1)
  | 0, 0 => rfl
  | 0, k + 1 => by show 1 * 0 = (0 + ch 0 (k + 2)) * (k + 2); rw [show ch 0 (k + 2) = 0 from rfl]; simp
  | n + 1, 0 => by
    have ih : (n + 1) * ch n 0 = ch (n + 1) 1 * 1 := ch_step n 0
    show (n + 2) * 1 = (ch (n + 1) 0 + ch (n + 1) 1) * 1
    rw [ch_zero]
    rw [ch_zero] at ih
    omega
  | n + 1, k + 1 => by
    have h1 := ch_step n k
    have h2 := ch_step n (k + 1)
    show (n + 2) * (ch n k + ch n (k + 1)) = (ch (n + 1) (k + 1) + ch (n + 1) (k + 2)) * (k + 2)
    have h3 : ch (n + 1) (k + 1) = ch n k + ch n (k + 1) := rfl
    generalize ch n k = a at *
    generalize ch n (k + 1) = b at *
    generalize ch (n + 1) (k + 2) = c at *
    rw [h3] at h1 ⊢
    grind
theorem ch_right {n k : Nat} (h : k ≤ n) : ch n (k + 1) * (k + 1) = ch n k * (n - k) := by
  have h1 := ch_step n k
  have h2 : ch (n + 1) (k + 1) = ch n k + ch n (k + 1) := rfl
  rw [h2] at h1
  obtain ⟨d, rfl⟩ : ∃ d, n = k + d := ⟨n - k, by omega⟩
  rw [show k + d - k = d by omega]
  generalize ch (k + d) k = a at *
  generalize ch (k + d) (k + 1) = b at *
  grind
theorem ch_le : ∀ (n k : Nat), ch n k ≤ 2 ^ n
  | n, 0 => by rw [ch_zero]; exact Nat.one_le_two_pow
  | 0, k + 1 => by show 0 ≤ 1; omega
  | n + 1, k + 1 => by
    have h1 := ch_le n k
    have h2 := ch_le n (k + 1)
    show ch n k + ch n (k + 1) ≤ _
    rw [Nat.pow_succ]; omega
/-! ### how many rows: of n pours, l to the left (none: any) -/
abbrev Lf := Option Int
def dec (l : Lf) : Lf := l.map (· - 1)
def cnt : Nat → Lf → Nat
  | n, none => 2 ^ n
  | n, some l => if 0 ≤ l ∧ l ≤ n then ch n l.toNat else 0
theorem cnt_le (n : Nat) (l : Lf) : cnt n l ≤ 2 ^ n := by
  cases l with
  | none => exact Nat.le_refl _
  | some l =>
    show (if 0 ≤ l ∧ l ≤ n then ch n l.toNat else 0) ≤ _
    split
    · exact ch_le _ _
    · exact Nat.zero_le _
theorem cnt_zero (l : Lf) : cnt 0 l = if l = none ∨ l = some 0 then 1 else 0 := by
  cases l with
  | none => rfl
  | some l =>
    show (if 0 ≤ l ∧ l ≤ ((0 : Nat) : Int) then ch 0 l.toNat else 0) = _
    by_cases c : l = 0
    · subst c; rfl
    · rw [if_neg (by omega), if_neg (by simp [c])]
theorem cnt_succ (n : Nat) (l : Lf) : cnt (n + 1) l = cnt n l + cnt n (dec l) := by
  cases l with
  | none => show 2 ^ (n + 1) = 2 ^ n + 2 ^ n; rw [Nat.pow_succ]; omega
  | some l =>
    show (if 0 ≤ l ∧ l ≤ ((n + 1 : Nat) : Int) then ch (n + 1) l.toNat else 0) = (if 0 ≤ l ∧ l ≤ (n : Int) then ch n l.toNat else 0) + (if 0 ≤ l - 1 ∧ l - 1 ≤ (n : Int) then ch n (l - 1).toNat else 0)
    by_cases c0 : l < 0
    · rw [if_neg (by omega), if_neg (by omega), if_neg (by omega)]
    · obtain ⟨k, rfl⟩ : ∃ k : Nat, l = k := ⟨l.toNat, by omega⟩
      cases k with
      | zero =>
        rw [if_pos (by omega), if_pos (by omega), if_neg (by omega)]
        show ch (n + 1) 0 = ch n 0 + 0
        rw [ch_zero, ch_zero]
      | succ k =>
        rw [Int.toNat_natCast, show ((k + 1 : Nat) : Int) - 1 = (k : Int) by omega, Int.toNat_natCast]
        by_cases c1 : k + 1 ≤ n
        · rw [if_pos (by omega), if_pos (by omega), if_pos (by omega)]
          show ch n k + ch n (k + 1) = _
          omega
        · by_cases c2 : k ≤ n
          · rw [if_pos (by omega), if_neg (by omega), if_pos (by omega)]
            show ch n k + ch n (k + 1) = _
            rw [ch_big n (k + 1) (by omega)]; omega
          · rw [if_neg (by omega), if_neg (by omega), if_neg (by omega)]
theorem cnt_neg {n : Nat} {l : Int} (h : l < 0) : cnt n (some l) = 0 := if_neg (by omega)
theorem cnt_pos {n : Nat} {l : Int} (h0 : 0 ≤ l) (h1 : l ≤ n) : 0 < cnt n (some l) := by
  show 0 < if 0 ≤ l ∧ l ≤ n then ch n l.toNat else 0
  rw [if_pos ⟨h0, h1⟩]
  obtain ⟨k, rfl⟩ : ∃ k : Nat, l = k := ⟨l.toNat, by omega⟩
  rw [Int.toNat_natCast]
  have hk : k ≤ n := by omega
  clear h0 h1
  induction n generalizing k with
  | zero => cases k with
    | zero => decide
    | succ k => omega
  | succ n ih => cases k with
    | zero => rw [ch_zero]; decide
    | succ k => have := ih k (by omega); show 0 < ch n k + ch n (k + 1); omega
/-! ### the so manieth row -/
def numRow : Nat → Lf → Nat → List Bool
  | 0, _, _ => []
  | n + 1, l, k => if k < cnt n l then numRow n l k ++ [false] else numRow n (dec l) (k - cnt n l) ++ [true]
theorem numRow_len : ∀ (n : Nat) (l : Lf) (k : Nat), (numRow n l k).length = n
  | 0, _, _ => rfl
  | n + 1, l, k => by
    unfold numRow
    split
    · rw [List.length_append, numRow_len n]; rfl
    · rw [List.length_append, numRow_len n]; rfl
/-! ### how many end at most at w -/
def lef (l : Lf) : Bool := decide (l = none ∨ l = some 0)
def leN (p q x : Rat) : Nat → Lf → Rat → Nat
  | 0, l, w => if x ≤ w ∧ lef l = true then 1 else 0
  | n + 1, l, w => leN p q x n l (unpour p q w false) + leN p q x n (dec l) (unpour p q w true)
section
variable {p q x : Rat}
theorem unp_lt {a b : Rat} (h : Parts p q) (w : Bool) : a ≤ unpour p q b w ↔ pour p q a w ≤ b := by
  have h1 := (part_sub h.1).1
  have h2 := (part_sub h.2.1).1
  cases w with
  | false => show a ≤ b / (1 - p) ↔ a * (1 - p) ≤ b; exact le_div h1
  | true =>
    show a ≤ (b - q) / (1 - q) ↔ a * (1 - q) + q ≤ b
    rw [le_div h2]
    constructor <;> intro h <;> grind
theorem leN_le (n : Nat) : ∀ (l : Lf) (w : Rat), leN p q x n l w ≤ cnt n l := by
  induction n with
  | zero =>
    intro l w
    show (if x ≤ w ∧ lef l = true then 1 else 0) ≤ _
    rw [cnt_zero]
    unfold lef
    by_cases c : l = none ∨ l = some 0
    · rw [if_pos c]; split <;> omega
    · rw [if_neg c, if_neg (by rw [decide_eq_false c]; simp)]; exact Nat.le_refl _
  | succ n ih =>
    intro l w
    show leN p q x n l _ + leN p q x n (dec l) _ ≤ _
    rw [cnt_succ]
    exact Nat.add_le_add (ih _ _) (ih _ _)
theorem leN_all (h : Parts p q) (hx : inU x = true) (n : Nat) : ∀ (l : Lf) (w : Rat), 1 ≤ w → leN p q x n l w = cnt n l := by
  induction n with
  | zero =>
    intro l w hw
    show (if x ≤ w ∧ lef l = true then 1 else 0) = _
    rw [cnt_zero]
    have hxw : x ≤ w := Rat.le_trans (inU_iff.mp hx).2 hw
    unfold lef
    by_cases c : l = none ∨ l = some 0
    · rw [if_pos c, if_pos ⟨hxw, decide_eq_true c⟩]
    · rw [if_neg c, if_neg (by rw [decide_eq_false c]; simp)]
  | succ n ih =>
    intro l w hw
    show leN p q x n l _ + leN p q x n (dec l) _ = _
    have h1 : 1 ≤ unpour p q w false := (unp_lt h false).mpr (by show 1 * (1 - p) ≤ w; have := h.1.1; grind)
    have h2 : 1 ≤ unpour p q w true := (unp_lt h true).mpr (by show 1 * (1 - q) + q ≤ w; grind)
    rw [ih _ _ h1, ih _ _ h2, cnt_succ]
theorem leN_none (h : Parts p q) (hx : inU x = true) (n : Nat) : ∀ (l : Lf) (w : Rat), w < 0 → leN p q x n l w = 0 := by
  induction n with
  | zero =>
    intro l w hw
    show (if x ≤ w ∧ lef l = true then 1 else 0) = 0
    rw [if_neg fun c => by have := Rat.le_trans (inU_iff.mp hx).1 c.1; exact absurd hw (Rat.not_lt.mpr this)]
  | succ n ih =>
    intro l w hw
    show leN p q x n l _ + leN p q x n (dec l) _ = _
    have h1 : unpour p q w false < 0 := Rat.not_le.mp fun c => by
      have := (unp_lt h false).mp c
      have e : pour p q 0 false = 0 := by show 0 * (1 - p) = 0; rw [Rat.zero_mul]
      rw [e] at this
      exact absurd hw (Rat.not_lt.mpr this)
    have h2 : unpour p q w true < 0 := Rat.not_le.mp fun c => by
      have := (unp_lt h true).mp c
      have e : pour p q 0 true = q := by show 0 * (1 - q) + q = q; grind
      rw [e] at this
      have := h.2.1.1
      grind
    rw [ih _ _ h1, ih _ _ h2]
theorem leN_neg (n : Nat) : ∀ (l : Int) (w : Rat), l < 0 → leN p q x n (some l) w = 0 := fun l w hl => by
  have := leN_le (p := p) (q := q) (x := x) n (some l) w
  rw [cnt_neg hl] at this
  omega
/-- where a row that ends to the left may be counted, all that end to the right are -/
theorem leN_two (h : Parts p q) (hx : inU x = true) {n : Nat} {l l' : Lf} {w : Rat} (h2 : 0 < leN p q x n l' (unpour p q w true)) : leN p q x n l (unpour p q w false) = cnt n l := by
  refine leN_all h hx n l _ ?_
  have h0 : 0 ≤ unpour p q w true := Rat.not_lt.mp fun c => by
    rw [leN_none h hx n l' _ c] at h2; omega
  have h3 := (unp_lt h true).mp h0
  have e : pour p q 0 true = q := by show 0 * (1 - q) + q = q; grind
  rw [e] at h3
  refine (unp_lt h false).mpr ?_
  show 1 * (1 - p) ≤ w
  have := h.2.2
  grind
theorem at_iff (h : Parts p q) (hx : inU x = true) (n : Nat) : ∀ (l : Lf) (k : Nat) (w : Rat), k < cnt n l → (pours p q x (numRow n l k) ≤ w ↔ k < leN p q x n l w) := by
  induction n with
  | zero =>
    intro l k w hk
    rw [cnt_zero] at hk
    show x ≤ w ↔ k < if x ≤ w ∧ lef l = true then 1 else 0
    unfold lef
    by_cases c : l = none ∨ l = some 0
    · rw [if_pos c] at hk
      by_cases c2 : x ≤ w
      · rw [if_pos ⟨c2, decide_eq_true c⟩]; exact ⟨fun _ => hk, fun _ => c2⟩
      · rw [if_neg fun z => c2 z.1]; exact ⟨fun z => absurd z c2, fun z => by omega⟩
    · rw [if_neg c] at hk; omega
  | succ n ih =>
    intro l k w hk
    rw [cnt_succ] at hk
    show _ ↔ k < leN p q x n l (unpour p q w false) + leN p q x n (dec l) (unpour p q w true)
    have l1 := leN_le (p := p) (q := q) (x := x) n l (unpour p q w false)
    unfold numRow
    by_cases c : k < cnt n l
    · rw [if_pos c, pours_snoc, ← unp_lt h, ih _ _ _ c]
      by_cases c2 : 0 < leN p q x n (dec l) (unpour p q w true)
      · rw [leN_two h hx c2]; exact ⟨fun _ => by omega, fun _ => c⟩
      · rw [show leN p q x n (dec l) (unpour p q w true) = 0 by omega]; rfl
    · rw [if_neg c, pours_snoc, ← unp_lt h, ih _ _ _ (by omega)]
      constructor
      · intro c2
        rw [leN_two h hx (show 0 < leN p q x n (dec l) (unpour p q w true) by omega)]; omega
      · intro c2
        have : 0 < leN p q x n (dec l) (unpour p q w true) := by omega
        rw [leN_two h hx this] at c2; omega
end
end DL
/-! Rows numbered: the defs. -/
namespace DL
open PySem PySem.Spec PyProof.Rows L2 PB
def dlf : Lf → D
  | none => .non
  | some l => .int l
theorem small_mul {a b : Int} (ha : a.natAbs < 2 ^ 100) (hb : b.natAbs < 2 ^ 100) : CMulW a b := mulW ha hb (by decide) (by decide) (by decide)
theorem small_nat {a : Nat} (h : a ≤ 2 ^ 60) : ((a : Nat) : Int).natAbs < 2 ^ 100 := by
  rw [Int.natAbs_natCast]
  exact Nat.lt_of_le_of_lt h (by decide)
theorem pow40 {n : Nat} (h : n ≤ 50) : 2 ^ n ≤ 2 ^ 60 := Nat.pow_le_pow_right (by decide) (by omega)
abbrev N_ways : List Str := ["many", "some", "found", "turn"]
def t_ways : DS :=
  (dSeq (dSet 2 (dC (.int 1)))
    (dSeq (dFor (dItR1 (dVar 0)) (gN 3)
    (dSet 2 (dDiv (dMul (dVar 2) (dSub (dVar 1) (dVar 3))) (dAdd (dVar 3) (dC (.int 1))))))
    (dRet (dVar 2))))

def sp_ways : DSp := fun ds k _ => ∃ (n m : Nat), ds = [.int n, .int m] ∧ n ≤ m ∧ m ≤ 50 ∧ k (.int (ch m n))
theorem len_ways : ∀ ds k kx, sp_ways ds k kx → ds.length = 2 := by
  intro _ _ _ h
  unfold sp_ways at h
  obtain ⟨_, _, rfl, _⟩ := h; rfl
theorem pure_ways (ds : List D) (k : D → Prop) (kx : Addr → Prop) (h : sp_ways ds k kx) : t_ways { nx := fun _ => k .non, rt := k, ex := kx } (dstart N_ways ds) := by
  obtain ⟨n, m, rfl, hn, hm, h⟩ := h
  refine ⟨⟨by omega, by omega⟩, ?_⟩
  refine ⟨fun i δ => ∃ z, δ = [some (.int n), some (.int m), some (.int (ch m i : Nat)), z], ⟨none, by rw [ch_zero]; rfl⟩, ?_, ?_⟩
  · rintro i d δ' hd ⟨z, rfl⟩
    obtain ⟨hi, rfl⟩ := rng_get hd
    have hi : i < n := by omega
    have hc := ch_le m i
    have hp := pow40 hm
    refine ⟨small_mul (small_nat (by omega)) ?_, ?_, some (.int (0 + (i : Int))), ?_⟩
    · show ((m : Int) - (0 + (i : Int))).natAbs < 2 ^ 100
      have : ((m : Int) - (0 + (i : Int))).natAbs < 100 := by omega
      exact Nat.lt_trans this (by decide)
    · exact cdiv (by omega) (by omega)
    · have e : ((ch m i : Nat) : Int) * ((m : Int) - (0 + (i : Int))) / (0 + (i : Int) + 1) = ((ch m (i + 1) : Nat) : Int) := by
        have hr := ch_right (n := m) (k := i) (by omega)
        rw [show ((m : Int) - (0 + (i : Int))) = ((m - i : Nat) : Int) by omega, show (0 + (i : Int) + 1) = ((i + 1 : Nat) : Int) by omega, ← Int.natCast_mul, ← hr, Int.natCast_mul]
        exact Int.mul_ediv_cancel _ (by omega)
      show [some (D.int n), some (D.int m), some (D.int (((ch m i : Nat) : Int) * ((m : Int) - (0 + (i : Int))) / (0 + (i : Int) + 1))), some (D.int (0 + (i : Int)))] = _
      rw [e]
  · rintro δ' ⟨z, rfl⟩
    rw [rng_len]
    exact h
abbrev N_count : List Str := ["many", "lefts", "found", "turn"]
def t_count : DS :=
  (dSeq (dIfS (dB (dIsN (dVar 1))) (dSeq (dSet 2 (dC (.int 1)))
    (dSeq (dFor (dItR1 (dVar 0)) (gN 3)
    (dSet 2 (dMul (dC (.int 2)) (dVar 2))))
    (dRet (dVar 2)))) dNext)
    (dRet (dIf (dB (dChain rLe rLe (dC (.int 0)) (dVar 1) (dVar 0))) (dCall sp_ways (dCons (dVar 1) (dCons (dVar 0) dNil))) (dC (.int 0)))))

def sp_count : DSp := fun ds k _ => ∃ (n : Nat) (l : Lf), ds = [.int n, dlf l] ∧ n ≤ 50 ∧ k (.int (cnt n l : Nat))
theorem len_count : ∀ ds k kx, sp_count ds k kx → ds.length = 2 := by
  intro _ _ _ h
  unfold sp_count at h
  obtain ⟨_, _, rfl, _⟩ := h; rfl
theorem pure_count (ds : List D) (k : D → Prop) (kx : Addr → Prop) (h : sp_count ds k kx) : t_count { nx := fun _ => k .non, rt := k, ex := kx } (dstart N_count ds) := by
  obtain ⟨n, l, rfl, hn, h⟩ := h
  cases l with
  | none =>
    refine ⟨⟨by omega, by omega⟩, ?_⟩
    refine ⟨fun i δ => ∃ z, δ = [some (.int n), some .non, some (.int ((2 ^ i : Nat) : Int)), z], ⟨none, rfl⟩, ?_, ?_⟩
    · rintro i d δ' hd ⟨z, rfl⟩
      obtain ⟨hi, rfl⟩ := rng_get hd
      have hp := pow40 (n := i) (by omega)
      refine ⟨small_mul (by decide) (small_nat hp), some (.int (0 + (i : Int))), ?_⟩
      have e : (2 : Int) * ((2 ^ i : Nat) : Int) = ((2 ^ (i + 1) : Nat) : Int) := by rw [Nat.pow_succ, Int.natCast_mul]; omega
      show [some (D.int n), some D.non, some (D.int (2 * ((2 ^ i : Nat) : Int))), some (D.int (0 + (i : Int)))] = _
      rw [e]
    · rintro δ' ⟨z, rfl⟩
      rw [rng_len]
      exact h
  | some l =>
    show if decide ((0 : Int) ≤ l) = true then _ else _
    have h : k (.int ((if 0 ≤ l ∧ l ≤ n then ch n l.toNat else 0 : Nat) : Int)) := h
    refine iteB (fun c => ?_) (fun c => ?_)
    · have c := of_decide_eq_true c
      show if decide (l ≤ (n : Int)) = true then _ else _
      refine iteB (fun c2 => ?_) (fun c2 => ?_)
      · have c2 := of_decide_eq_true c2
        rw [if_pos ⟨c, c2⟩] at h
        exact ⟨l.toNat, n, by show [D.int l, D.int n] = _; rw [Int.toNat_of_nonneg c], by omega, hn, h⟩
      · have c2 := of_decide_eq_false c2
        rw [if_neg fun z => c2 z.2] at h
        exact h
    · have c := of_decide_eq_false c
      rw [if_neg fun z => c z.1] at h
      exact h
abbrev N_numbered : List Str := ["many", "lefts", "number", "row", "first"]
def t_numbered : DS :=
  (dSeq (dSet 3 (dTup dNil))
    (dSeq (dWhile (dB (dGt (dVar 0) (dC (.int 0))))
    (dSeq (dSet 0 (dSub (dVar 0) (dC (.int 1))))
    (dSeq (dSet 4 (dCall sp_count (dCons (dVar 0) (dCons (dVar 1) dNil))))
    (dIfS (dB (dLt (dVar 2) (dVar 4))) (dSet 3 (dOp dCat (dTup (dCons (dC (.str "right")) dNil)) (dVar 3))) (dSeq (dSet 2 (dSub (dVar 2) (dVar 4)))
    (dSeq (dSet 3 (dOp dCat (dTup (dCons (dC (.str "left")) dNil)) (dVar 3)))
    (dSet 1 (dIf (dB (dIsN (dVar 1))) (dC .non) (dSub (dVar 1) (dC (.int 1)))))))))))
    (dRet (dVar 3))))

def sp_numbered : DSp := fun ds k _ => ∃ (n : Nat) (l : Lf) (j : Nat), ds = [.int n, dlf l, .int j] ∧ n ≤ 50 ∧ k (rw_ (numRow n l j))
theorem len_numbered : ∀ ds k kx, sp_numbered ds k kx → ds.length = 3 := by
  intro _ _ _ h
  unfold sp_numbered at h
  obtain ⟨_, _, _, rfl, _⟩ := h; rfl
theorem pure_numbered (ds : List D) (k : D → Prop) (kx : Addr → Prop) (h : sp_numbered ds k kx) : t_numbered { nx := fun _ => k .non, rt := k, ex := kx } (dstart N_numbered ds) := by
  obtain ⟨n, l, j, rfl, hn, h⟩ := h
  refine ⟨fun m δ => ∃ l' j' r z, δ = [some (.int (m : Nat)), some (dlf l'), some (.int (j' : Nat)), some (rw_ r), z] ∧ m ≤ n ∧ m + r.length = n ∧ numRow n l j = numRow m l' j' ++ r, ⟨n, l, j, [], none, rfl, Nat.le_refl _, rfl, by rw [List.append_nil]⟩, ?_⟩
  rintro m δ' ⟨l', j', r, z, rfl, hm, hr, e⟩
  show if decide ((0 : Int) < (m : Int)) = true then _ else _
  refine iteB (fun c => ?_) (fun c => ?_)
  · have c := of_decide_eq_true c
    obtain ⟨m, rfl⟩ : ∃ i, m = i + 1 := ⟨m - 1, by omega⟩
    have em : ((m + 1 : Nat) : Int) - 1 = (m : Int) := by omega
    refine ⟨m, l', by show [D.int (((m + 1 : Nat) : Int) - 1), dlf l'] = _; rw [em], by omega, ?_⟩
    show if decide ((j' : Int) < (cnt m l' : Nat)) = true then _ else _
    have lr : (r.map wd).length = r.length := List.length_map _
    refine iteB (fun c2 => ?_) (fun c2 => ?_)
    · have c2 := of_decide_eq_true c2
      refine ⟨by show 1 + (r.map wd).length ≤ 100000; omega, m, by omega, l', j', false :: r, some (.int (cnt m l' : Nat)), ?_, by omega, by rw [List.length_cons]; omega, ?_⟩
      · show [some (D.int (((m + 1 : Nat) : Int) - 1)), _, _, _, _] = _
        rw [em]; rfl
      · rw [e]
        show (if j' < cnt m l' then _ else _) ++ r = _
        rw [if_pos (by omega), List.append_assoc]; rfl
    · have c2 := of_decide_eq_false c2
      have ej : (j' : Int) - (cnt m l' : Nat) = ((j' - cnt m l' : Nat) : Int) := by omega
      have er : numRow n l j = numRow m (dec l') (j' - cnt m l') ++ (true :: r) := by
        rw [e]
        show (if j' < cnt m l' then _ else _) ++ r = _
        rw [if_neg (by omega), List.append_assoc]; rfl
      refine ⟨by show 1 + (r.map wd).length ≤ 100000; omega, ?_⟩
      cases l' with
      | none =>
        refine ⟨m, by omega, none, j' - cnt m none, true :: r, some (.int (cnt m none : Nat)), ?_, by omega, by rw [List.length_cons]; omega, er⟩
        show [some (D.int (((m + 1 : Nat) : Int) - 1)), _, some (.int ((j' : Int) - (cnt m none : Nat))), _, _] = _
        rw [em, ej]; rfl
      | some l2 =>
        refine ⟨m, by omega, some (l2 - 1), j' - cnt m (some l2), true :: r, some (.int (cnt m (some l2) : Nat)), ?_, by omega, by rw [List.length_cons]; omega, er⟩
        show [some (D.int (((m + 1 : Nat) : Int) - 1)), _, some (.int ((j' : Int) - (cnt m (some l2) : Nat))), _, _] = _
        rw [em, ej]; rfl
  · have c := of_decide_eq_false c
    have hm0 : m = 0 := by omega
    subst hm0
    rw [e] at h
    exact h
/-! ### refusals -/
theorem dlf_plain (l : Lf) : (dlf l).plain = true := by cases l <;> rfl
/-- so many pours, so many of them to the left -/
def IsMany (d e : D) : Prop := ∃ (n : Nat) (l : Lf), d = .int n ∧ e = dlf l ∧ n ≤ 40 ∧ ∀ i, l = some i → 0 ≤ i ∧ i ≤ n
abbrev N_need_many : List Str := ["many", "lefts"]
def t_need_many (er : Er) : DS :=
  (dSeq (dIfS (dNot (dB (dCall sp_is_within (dCons (dVar 0) (dCons (dC (.int 0)) (dCons (dC (.int 40)) dNil)))))) (dRaise er.NoMany) dNext)
    (dIfS (dAnd (dB (dNotN (dVar 1))) (dNot (dB (dCall sp_is_within (dCons (dVar 1) (dCons (dC (.int 0)) (dCons (dVar 0) dNil))))))) (dRaise er.NoLefts) dNext))

def sp_need_many (er : Er) : DSp := fun ds k kx => ∃ (d e : D), ds = [d, e] ∧ d.plain = true ∧ e.plain = true ∧ (within d 0 40 = false → kx er.NoMany) ∧ (∀ n : Nat, d = .int n → n ≤ 40 → e ≠ .non → within e 0 n = false → kx er.NoLefts) ∧ (IsMany d e → k .non)
theorem len_need_many (er : Er) : ∀ ds k kx, sp_need_many er ds k kx → ds.length = 2 := by
  intro _ _ _ h
  unfold sp_need_many at h
  obtain ⟨_, _, rfl, _⟩ := h; rfl
theorem pure_need_many (er : Er) (ds : List D) (k : D → Prop) (kx : Addr → Prop) (h : sp_need_many er ds k kx) : t_need_many er { nx := fun _ => k .non, rt := k, ex := kx } (dstart N_need_many ds) := by
  obtain ⟨d, e, rfl, hd, he, h1, h2, h3⟩ := h
  refine ⟨d, 0, 40, rfl, plain_ok hd, ?_⟩
  show if (!within d 0 40) = true then _ else _
  cases c : within d 0 40 with
  | false => exact iteT (h1 c)
  | true =>
    refine iteF ?_
    obtain ⟨i, rfl, i0, i1⟩ := within_get c
    obtain ⟨n, rfl⟩ : ∃ n : Nat, i = n := ⟨i.toNat, by omega⟩
    show if (!e.isN) = true then _ else _
    refine iteB (fun c2 => ?_) (fun c2 => ?_)
    · have ne : e ≠ .non := fun z => by rw [z] at c2; cases c2
      refine ⟨e, 0, n, rfl, plain_ok he, ?_⟩
      show if (!within e 0 n) = true then _ else _
      cases c3 : within e 0 n with
      | false => exact iteT (h2 n rfl (by omega) ne c3)
      | true =>
        refine iteF ?_
        obtain ⟨j, rfl, j0, j1⟩ := within_get c3
        exact h3 ⟨n, some j, rfl, rfl, by omega, fun i e => by cases e; exact ⟨j0, j1⟩⟩
    · have en : e = .non := by cases e <;> first | rfl | (cases c2)
      exact h3 ⟨n, none, rfl, by rw [en]; rfl, by omega, fun i e => by cases e⟩
theorem need_many_ok {er : Er} {n : Nat} {l : Lf} {k : D → Prop} {kx : Addr → Prop} (hn : n ≤ 40) (hl : ∀ i, l = some i → 0 ≤ i ∧ i ≤ n) (h : k .non) : sp_need_many er [.int (n : Nat), dlf l] k kx := by
  refine ⟨_, _, rfl, rfl, dlf_plain l, fun e => ?_, fun m em hm ne e => ?_, fun _ => h⟩
  · rw [within_true (by omega) (by omega)] at e; cases e
  · injection em with em
    cases l with
    | none => exact absurd rfl ne
    | some i =>
      have := hl i rfl
      rw [show within (dlf (some i)) 0 (m : Nat) = true from within_true (by omega) (by omega)] at e; cases e
/-! ### far -/
def aw (x y : Rat) : Rat := if x < y then y - x else x - y
abbrev N_far : List Str := ["one", "other"]
def t_far : DS :=
  (dRet (dIf (dB (dCall sp_is_less (dCons (dVar 0) (dCons (dVar 1) dNil)))) (dCall sp_minus (dCons (dVar 1) (dCons (dVar 0) dNil))) (dCall sp_minus (dCons (dVar 0) (dCons (dVar 1) dNil)))))

def sp_far : DSp := fun ds k _ => ∃ (x y : Rat), ds = [fr x, fr y] ∧ Fit x ∧ Fit y ∧ k (fr (aw x y))
theorem len_far : ∀ ds k kx, sp_far ds k kx → ds.length = 2 := by
  intro _ _ _ h
  unfold sp_far at h
  obtain ⟨_, _, rfl, _⟩ := h; rfl
theorem pure_far (ds : List D) (k : D → Prop) (kx : Addr → Prop) (h : sp_far ds k kx) : t_far { nx := fun _ => k .non, rt := k, ex := kx } (dstart N_far ds) := by
  obtain ⟨x, y, rfl, hx, hy, h⟩ := h
  refine ⟨x, y, rfl, hx, hy, ?_⟩
  unfold aw at h
  show if decide (x < y) = true then _ else _
  refine iteB (fun c => ?_) (fun c => ?_)
  · rw [if_pos (of_decide_eq_true c)] at h
    exact ⟨y, x, rfl, hy, hx, h⟩
  · rw [if_neg (of_decide_eq_false c)] at h
    exact ⟨x, y, rfl, hx, hy, h⟩
/-! ### ending_at_most -/
abbrev N_ending_at_most : List Str := ["parts", "share", "many", "lefts", "wished", "total", "ahead"]
def t_ending_at_most : DS :=
  (dSeq (dSet 5 (dC (.int 0)))
    (dSeq (dWhile (dB (dGt (dVar 2) (dC (.int 0))))
    (dSeq (dSet 2 (dSub (dVar 2) (dC (.int 1))))
    (dSeq (dSet 6 (dCall sp_unpoured (dCons (dVar 0) (dCons (dVar 4) (dCons (dC (.str "right")) dNil)))))
    (dCut (dIfS (dB (dCall sp_is_less (dCons (dVar 6) (dCons (dTup (dCons (dC (.int 1)) (dCons (dC (.int 1)) dNil))) dNil)))) (dSet 4 (dVar 6)) (dSeq (dSet 5 (dAdd (dVar 5) (dCall sp_count (dCons (dVar 2) (dCons (dVar 3) dNil)))))
    (dSeq (dSet 4 (dCall sp_unpoured (dCons (dVar 0) (dCons (dVar 4) (dCons (dC (.str "left")) dNil)))))
    (dSet 3 (dIf (dB (dIsN (dVar 3))) (dC .non) (dSub (dVar 3) (dC (.int 1))))))))
    (dSeq (dIfS (dOr (dB (dLt (dOp dIx (dVar 4) (dC (.int 0))) (dC (.int 0)))) (dAnd (dB (dNotN (dVar 3))) (dB (dLt (dVar 3) (dC (.int 0)))))) (dRet (dVar 5)) dNext)
    (dIfS (dNot (dB (dCall sp_is_less (dCons (dVar 4) (dCons (dTup (dCons (dC (.int 1)) (dCons (dC (.int 1)) dNil))) dNil))))) (dRet (dAdd (dVar 5) (dCall sp_count (dCons (dVar 2) (dCons (dVar 3) dNil))))) dNext))))))
    (dRet (dAdd (dVar 5) (dC1 cInt (dAndV (dNotV (dCall sp_is_less (dCons (dVar 4) (dCons (dVar 1) dNil)))) (dOp (dIn false) (dVar 3) (dTup (dCons (dC .non) (dCons (dC (.int 0)) dNil))))))))))

@[irreducible] def sp_ending_at_most : DSp := fun ds k _ => ∃ (p q x : Rat) (n : Nat) (l : Lf) (w : Rat), ds = [pts p q, fr x, .int n, dlf l, fr w] ∧ Parts p q ∧ Share x ∧ n ≤ 40 ∧ (∀ i, l = some i → 0 ≤ i) ∧ Share w ∧ k (.int (leN p q x n l w : Nat))
theorem len_ending_at_most : ∀ ds k kx, sp_ending_at_most ds k kx → ds.length = 5 := by
  intro _ _ _ h
  unfold sp_ending_at_most at h
  obtain ⟨_, _, _, _, _, _, rfl, _⟩ := h; rfl
theorem in_none0 (l : Lf) : inD (dlf l) [.non, .int 0] = lef l := by
  cases l with
  | none => decide
  | some i =>
    show ([V.non, V.int 0].any fun y => eqV y (.int i)) = decide (some i = none ∨ some i = some 0)
    by_cases c : i = 0
    · subst c; decide
    · rw [decide_eq_false (by simp [c])]
      simp [eqV, c]
      omega
end DL
/-! Rows numbered: the doors. -/
namespace DL
open PySem PySem.Spec PyProof.Rows L2 PB
theorem num_neg_dec (x : Rat) : decide (x.num < (0 : Int)) = decide (x < 0) := by
  have h := num_nonneg_dec x
  by_cases c : x < 0
  · rw [decide_eq_true c]
    rw [decide_eq_false (Rat.not_le.mpr c)] at h
    have := of_decide_eq_false h
    exact decide_eq_true (by omega)
  · rw [decide_eq_false c]
    rw [decide_eq_true (Rat.not_lt.mp c)] at h
    have := of_decide_eq_true h
    exact decide_eq_false (by omega)
theorem pure_ending_at_most (ds : List D) (k : D → Prop) (kx : Addr → Prop) (h : sp_ending_at_most ds k kx) : t_ending_at_most { nx := fun _ => k .non, rt := k, ex := kx } (dstart N_ending_at_most ds) := by
  unfold sp_ending_at_most at h
  obtain ⟨p, q, x, n, l, w, rfl, hpq, hx, hn, hl, hw, h⟩ := h
  have hxi : inU x = true := inU_iff.mpr ⟨hx.1, hx.2.1⟩
  have fx : Fit x := Fit.of (share_U hx).sz
  refine ⟨fun m δ => ∃ (l' : Lf) (w' : Rat) (tot : Nat) (z : Option D), δ = [some (pts p q), some (fr x), some (.int (m : Nat)), some (dlf l'), some (fr w'), some (.int (tot : Nat)), z] ∧ m ≤ n ∧ sz w' (67 + 9 * (n - m)) ∧ (∀ i, l' = some i → 0 ≤ i) ∧ tot + leN p q x m l' w' = leN p q x n l w,
    ⟨n, l, w, 0, none, rfl, Nat.le_refl _, (share_U hw).sz.mono (by omega), hl, Nat.zero_add _⟩, ?_⟩
  rintro m δ' ⟨l', w', tot, z, rfl, hm, hs, hl', ht⟩
  show if decide ((0 : Int) < (m : Int)) = true then _ else _
  refine iteB (fun c => ?_) (fun c => ?_)
  · have c := of_decide_eq_true c
    obtain ⟨m, rfl⟩ : ∃ i, m = i + 1 := ⟨m - 1, by omega⟩
    have em : ((m + 1 : Nat) : Int) - 1 = (m : Int) := by omega
    have s1 := unpour_sz hpq.1 hpq.2.1 hs false
    have s2 := unpour_sz hpq.1 hpq.2.1 hs true
    have ht : tot + (leN p q x m l' (unpour p q w' false) + leN p q x m (dec l') (unpour p q w' true)) = leN p q x n l w := ht
    refine ⟨p, q, w', false, rfl, hpq.1, hpq.2.1, hs.mono (by omega), ?_⟩
    refine ⟨fun δ => ∃ (l2 : Lf) (w2 : Rat) (t2 : Nat), δ = [some (pts p q), some (fr x), some (.int (m : Nat)), some (dlf l2), some (fr w2), some (.int (t2 : Nat)), some (fr (unpour p q w' false))] ∧ sz w2 (67 + 9 * (n - m)) ∧ t2 + leN p q x m l2 w2 = leN p q x n l w, ?_, ?_⟩
    · refine ⟨unpour p q w' false, 1, rfl, s1.mono (by omega), Fit.of sz_one, ?_⟩
      show if decide (unpour p q w' false < 1) = true then _ else _
      refine iteB (fun c2 => ?_) (fun c2 => ?_)
      · have c2 := of_decide_eq_true c2
        have hz : leN p q x m (dec l') (unpour p q w' true) = 0 := by
          refine leN_none hpq hxi m _ _ (Rat.not_le.mp fun c3 => ?_)
          have h3 := (unp_lt hpq true).mp c3
          have e : pour p q 0 true = q := by show 0 * (1 - q) + q = q; grind
          rw [e] at h3
          have h4 : 1 ≤ unpour p q w' false := (unp_lt hpq false).mpr (by show 1 * (1 - p) ≤ w'; have := hpq.2.2; grind)
          exact absurd c2 (Rat.not_lt.mpr h4)
        refine ⟨l', unpour p q w' false, tot, ?_, s1.mono (by omega), by omega⟩
        show [_, _, some (D.int (((m + 1 : Nat) : Int) - 1)), _, _, _, _] = _
        rw [em]
      · have c2 := of_decide_eq_false c2
        have hz := leN_all hpq hxi m l' (unpour p q w' false) (Rat.not_lt.mp c2)
        refine ⟨m, l', by show [D.int (((m + 1 : Nat) : Int) - 1), dlf l'] = _; rw [em], by omega, ?_⟩
        refine ⟨p, q, w', true, rfl, hpq.1, hpq.2.1, hs.mono (by omega), ?_⟩
        have et : (tot : Int) + (cnt m l' : Nat) = ((tot + cnt m l' : Nat) : Int) := by omega
        cases l' with
        | none =>
          refine ⟨none, unpour p q w' true, tot + cnt m none, ?_, s2.mono (by omega), by rw [← hz]; rw [← ht]; show _ + leN p q x m none _ = _ + (_ + leN p q x m none _); omega⟩
          show [_, _, some (D.int (((m + 1 : Nat) : Int) - 1)), _, _, some (D.int ((tot : Int) + (cnt m none : Nat))), _] = _
          rw [em, et]; rfl
        | some i =>
          refine ⟨some (i - 1), unpour p q w' true, tot + cnt m (some i), ?_, s2.mono (by omega), by rw [← hz]; rw [← ht]; show _ + leN p q x m (some (i - 1)) _ = _ + (_ + leN p q x m (some (i - 1)) _); omega⟩
          show [_, _, some (D.int (((m + 1 : Nat) : Int) - 1)), _, _, some (D.int ((tot : Int) + (cnt m (some i) : Nat))), _] = _
          rw [em, et]; rfl
    · rintro δ' ⟨l2, w2, t2, rfl, hs2, ht2⟩
      show if decide (w2.num < (0 : Int)) = true then _ else _
      rw [num_neg_dec]
      refine iteB (fun c2 => ?_) (fun c2 => ?_)
      · rw [leN_none hpq hxi m l2 w2 (of_decide_eq_true c2)] at ht2
        rw [← ht2] at h
        exact iteT h
      · have c2 := of_decide_eq_false c2
        have rest : (∀ i, l2 = some i → 0 ≤ i) → (dIfS (dNot (dB (dCall sp_is_less (dCons (dVar 4) (dCons (dTup (dCons (dC (.int 1)) (dCons (dC (.int 1)) dNil))) dNil))))) (dRet (dAdd (dVar 5) (dCall sp_count (dCons (dVar 2) (dCons (dVar 3) dNil))))) dNext)
            { nx := fun δ2 => ∃ m', m' < m + 1 ∧ ∃ (l' : Lf) (w' : Rat) (tot : Nat) (z : Option D), δ2 = [some (pts p q), some (fr x), some (.int (m' : Nat)), some (dlf l'), some (fr w'), some (.int (tot : Nat)), z] ∧ m' ≤ n ∧ sz w' (67 + 9 * (n - m')) ∧ (∀ i, l' = some i → 0 ≤ i) ∧ tot + leN p q x m' l' w' = leN p q x n l w,
              rt := k, ex := kx } [some (pts p q), some (fr x), some (.int (m : Nat)), some (dlf l2), some (fr w2), some (.int (t2 : Nat)), some (fr (unpour p q w' false))] := fun hl2 => by
          refine ⟨w2, 1, rfl, hs2.mono (by omega), Fit.of sz_one, ?_⟩
          show if (!decide (w2 < 1)) = true then _ else _
          refine iteB (fun c3 => ?_) (fun c3 => ?_)
          · have c3 : ¬ w2 < 1 := fun z => by rw [decide_eq_true z] at c3; cases c3
            rw [leN_all hpq hxi m l2 w2 (Rat.not_lt.mp c3)] at ht2
            refine ⟨m, l2, rfl, by omega, ?_⟩
            rw [← ht2] at h
            show k (.int ((t2 : Int) + (cnt m l2 : Nat)))
            rw [show (t2 : Int) + (cnt m l2 : Nat) = ((t2 + cnt m l2 : Nat) : Int) by omega]
            exact h
          · exact ⟨m, by omega, l2, w2, t2, _, rfl, by omega, hs2, hl2, ht2⟩
        cases l2 with
        | none => exact rest (fun i e => by cases e)
        | some i =>
          show if decide (i < (0 : Int)) = true then _ else _
          refine iteB (fun c3 => ?_) (fun c3 => ?_)
          · rw [leN_neg m i w2 (of_decide_eq_true c3)] at ht2
            rw [← ht2] at h
            exact h
          · have c3 := of_decide_eq_false c3
            exact rest (fun j e => by cases e; omega)
  · have c := of_decide_eq_false c
    have hm0 : m = 0 := by omega
    subst hm0
    have ht : tot + (if x ≤ w' ∧ lef l' = true then 1 else 0) = leN p q x n l w := ht
    rw [← ht] at h
    refine ⟨w', x, rfl, hs.mono (by omega), fx, ?_⟩
    show if (!decide (w' < x)) = true then _ else _
    rw [not_lt_dec]
    refine iteB (fun c2 => ?_) (fun c2 => ?_)
    · have c2 := of_decide_eq_true c2
      refine ⟨by cases l' <;> rfl, rfl, ?_⟩
      show k (.int ((tot : Int) + (if inD (dlf l') [.non, .int 0] then 1 else 0)))
      rw [in_none0]
      cases e : lef l' with
      | true => rw [if_pos ⟨c2, e⟩] at h; exact h
      | false => rw [if_neg (fun z => by rw [e] at z; cases z.2)] at h; exact h
    · have c2 := of_decide_eq_false c2
      rw [if_neg fun z => c2 z.1] at h
      exact h
theorem ending_ok {p q x w : Rat} {n : Nat} {l : Lf} {k : D → Prop} {kx : Addr → Prop} (hpq : Parts p q) (hx : Share x) (hn : n ≤ 40) (hl : ∀ i, l = some i → 0 ≤ i ∧ i ≤ n) (hw : Share w) (h : k (.int (leN p q x n l w : Nat))) : sp_ending_at_most [pts p q, fr x, .int (n : Nat), dlf l, fr w] k kx := by
  unfold sp_ending_at_most
  exact ⟨p, q, x, n, l, w, rfl, hpq, hx, hn, fun i e => (hl i e).1, hw, h⟩
/-! ### the row that ends nearest -/
def Lok (n : Nat) (l : Lf) : Prop := ∀ i, l = some i → 0 ≤ i ∧ i ≤ n
def endK (p q x : Rat) (n : Nat) (l : Lf) (j : Nat) : Rat := pours p q x (numRow n l j)
def awK (p q x w : Rat) (n : Nat) (l : Lf) (j : Nat) : Rat := aw (endK p q x n l j) w
def stepK (p q x w : Rat) (n : Nat) (l : Lf) (best : Option Nat) (j : Int) : Option Nat :=
  if 0 ≤ j ∧ j < (cnt n l : Nat) then (match best with | none => some j.toNat | some b => if awK p q x w n l j.toNat < awK p q x w n l b then some j.toNat else some b) else best
def nearK (p q x w : Rat) (n : Nat) (l : Lf) : Option Nat := stepK p q x w n l (stepK p q x w n l none ((leN p q x n l w : Nat) - 1)) (leN p q x n l w : Nat)
def bestD (p q x w : Rat) (n : Nat) (l : Lf) : Option Nat → D
  | none => .non
  | some j => .tup [rw_ (numRow n l j), fr (awK p q x w n l j)]
theorem aw_sz {x y : Rat} {n m : Nat} (hx : sz x n) (hy : sz y m) : sz (aw x y) (n + m + 1) := by
  unfold aw
  split
  · exact (sz_sub hy hx).mono (by omega)
  · exact sz_sub hx hy
theorem awK_fit {p q x w : Rat} {n : Nat} {l : Lf} (hpq : Parts p q) (hx : Share x) (hw : Share w) (hn : n ≤ 40) (j : Nat) : sz (awK p q x w n l j) 400 := by
  have hu := U_pours hpq.1 hpq.2.1 (numRow n l j) (share_U hx)
  rw [numRow_len] at hu
  exact (aw_sz hu.sz (share_U hw).sz).mono (by omega)
abbrev N_nearest_row : List Str := ["parts", "share", "many", "lefts", "wished", "number", "below", "best", "row", "away"]
def t_nearest_row : DS :=
  (dSeq (dPar 6 7 (dCall sp_ending_at_most (dCons (dVar 0) (dCons (dVar 1) (dCons (dVar 2) (dCons (dVar 3) (dCons (dVar 4) dNil)))))) (dC .non))
    (dSeq (dFor (dItT (dTup (dCons (dSub (dVar 6) (dC (.int 1))) (dCons (dVar 6) dNil)))) (gN 5)
    (dIfS (dB (dChain rLe rLt (dC (.int 0)) (dVar 5) (dCall sp_count (dCons (dVar 2) (dCons (dVar 3) dNil))))) (dSeq (dSet 8 (dCall sp_numbered (dCons (dVar 2) (dCons (dVar 3) (dCons (dVar 5) dNil)))))
    (dSeq (dSet 9 (dCall sp_far (dCons (dCall sp_end_of (dCons (dVar 0) (dCons (dVar 1) (dCons (dVar 8) dNil)))) (dCons (dVar 4) dNil))))
    (dIfS (dOr (dB (dIsN (dVar 7))) (dB (dCall sp_is_less (dCons (dVar 9) (dCons (dOp dIx (dVar 7) (dC (.int 1))) dNil))))) (dSet 7 (dTup (dCons (dVar 8) (dCons (dVar 9) dNil)))) dNext))) dNext))
    (dRet (dVar 7))))

@[irreducible] def sp_nearest_row : DSp := fun ds k _ => ∃ (p q x : Rat) (n : Nat) (l : Lf) (w : Rat), ds = [pts p q, fr x, .int n, dlf l, fr w] ∧ Parts p q ∧ Share x ∧ n ≤ 40 ∧ Lok n l ∧ Share w ∧ k (bestD p q x w n l (nearK p q x w n l))
theorem len_nearest_row : ∀ ds k kx, sp_nearest_row ds k kx → ds.length = 5 := by
  intro _ _ _ h
  unfold sp_nearest_row at h
  obtain ⟨_, _, _, _, _, _, rfl, _⟩ := h; rfl
theorem pure_nearest_row (ds : List D) (k : D → Prop) (kx : Addr → Prop) (h : sp_nearest_row ds k kx) : t_nearest_row { nx := fun _ => k .non, rt := k, ex := kx } (dstart N_nearest_row ds) := by
  unfold sp_nearest_row at h
  obtain ⟨p, q, x, n, l, w, rfl, hpq, hx, hn, hl, hw, h⟩ := h
  refine ending_ok hpq hx hn hl hw ?_
  unfold nearK at h
  generalize leN p q x n l w = b at *
  have go : ∀ (j : Int) (best : Option Nat) (z5 z8 z9 : Option D) (kk : Dst → Prop), (∀ z8' z9', kk [some (pts p q), some (fr x), some (.int (n : Nat)), some (dlf l), some (fr w), some (.int j), some (.int (b : Nat)), some (bestD p q x w n l (stepK p q x w n l best j)), z8', z9']) →
      (dIfS (dB (dChain rLe rLt (dC (.int 0)) (dVar 5) (dCall sp_count (dCons (dVar 2) (dCons (dVar 3) dNil))))) (dSeq (dSet 8 (dCall sp_numbered (dCons (dVar 2) (dCons (dVar 3) (dCons (dVar 5) dNil)))))
        (dSeq (dSet 9 (dCall sp_far (dCons (dCall sp_end_of (dCons (dVar 0) (dCons (dVar 1) (dCons (dVar 8) dNil)))) (dCons (dVar 4) dNil))))
        (dIfS (dOr (dB (dIsN (dVar 7))) (dB (dCall sp_is_less (dCons (dVar 9) (dCons (dOp dIx (dVar 7) (dC (.int 1))) dNil))))) (dSet 7 (dTup (dCons (dVar 8) (dCons (dVar 9) dNil)))) dNext))) dNext)
      { nx := kk, rt := k, ex := kx, ct := kk, bk := fun _ => False } [some (pts p q), some (fr x), some (.int (n : Nat)), some (dlf l), some (fr w), some (.int j), some (.int (b : Nat)), some (bestD p q x w n l best), z8, z9] := fun j best z5 z8 z9 kk hk => by
    show if decide ((0 : Int) ≤ j) = true then _ else _
    unfold stepK at hk
    refine iteB (fun c => ?_) (fun c => ?_)
    · have c := of_decide_eq_true c
      refine ⟨n, l, rfl, by omega, ?_⟩
      show if decide (j < ((cnt n l : Nat) : Int)) = true then _ else _
      refine iteB (fun c2 => ?_) (fun c2 => ?_)
      · have c2 := of_decide_eq_true c2
        rw [if_pos ⟨c, c2⟩] at hk
        obtain ⟨i, rfl⟩ : ∃ i : Nat, j = i := ⟨j.toNat, by omega⟩
        rw [Int.toNat_natCast] at hk
        refine ⟨n, l, i, rfl, by omega, ?_⟩
        have hu := U_pours hpq.1 hpq.2.1 (numRow n l i) (share_U hx)
        rw [numRow_len] at hu
        refine end_mk hpq.1 hpq.2.1 (share_U hx) (by rw [numRow_len]; omega) ?_
        refine ⟨pours p q x (numRow n l i), w, rfl, hu.sz.mono (by omega), Fit.of (share_U hw).sz, ?_⟩
        cases best with
        | none => exact hk _ _
        | some b' =>
          refine ⟨awK p q x w n l i, awK p q x w n l b', rfl, (awK_fit hpq hx hw hn i).mono (by decide), (awK_fit hpq hx hw hn b').mono (by decide), ?_⟩
          show if decide (awK p q x w n l i < awK p q x w n l b') = true then _ else _
          refine iteB (fun c3 => ?_) (fun c3 => ?_)
          · have hk' := fun z8' z9' => hk z8' z9'
            simp only [if_pos (of_decide_eq_true c3)] at hk'
            exact hk' _ _
          · have hk' := fun z8' z9' => hk z8' z9'
            simp only [if_neg (of_decide_eq_false c3)] at hk'
            exact hk' _ _
      · have c2 := of_decide_eq_false c2
        rw [if_neg fun z => c2 z.2] at hk
        exact hk _ _
    · have c := of_decide_eq_false c
      rw [if_neg fun z => c z.1] at hk
      exact hk _ _
  refine ⟨fun i δ => ∃ best z5 z8 z9, δ = [some (pts p q), some (fr x), some (.int (n : Nat)), some (dlf l), some (fr w), z5, some (.int (b : Nat)), some (bestD p q x w n l best), z8, z9] ∧ best = (match i with | 0 => none | 1 => stepK p q x w n l none ((b : Nat) - 1) | _ => stepK p q x w n l (stepK p q x w n l none ((b : Nat) - 1)) (b : Nat)), ⟨none, none, none, none, rfl, rfl⟩, ?_, ?_⟩
  · rintro i d δ' hd ⟨best, z5, z8, z9, rfl, hb⟩
    match i, hd with
    | 0, hd =>
      cases hd
      subst hb
      exact go ((b : Nat) - 1) none z5 z8 z9 _ fun z8' z9' => ⟨_, _, _, _, rfl, rfl⟩
    | 1, hd =>
      cases hd
      subst hb
      exact go (b : Nat) _ z5 z8 z9 _ fun z8' z9' => ⟨_, _, _, _, rfl, rfl⟩
  · rintro δ' ⟨best, z5, z8, z9, rfl, hb⟩
    subst hb
    exact h
theorem nearest_row_ok {p q x w : Rat} {n : Nat} {l : Lf} {k : D → Prop} {kx : Addr → Prop} (hpq : Parts p q) (hx : Share x) (hn : n ≤ 40) (hl : Lok n l) (hw : Share w) (h : k (bestD p q x w n l (nearK p q x w n l))) : sp_nearest_row [pts p q, fr x, .int (n : Nat), dlf l, fr w] k kx := by
  unfold sp_nearest_row
  exact ⟨p, q, x, n, l, w, rfl, hpq, hx, hn, hl, hw, h⟩
end DL
/-! Near enough; to where a row leads, poured again and again. -/
namespace DL
open PySem PySem.Spec PyProof.Rows L2 PB
/-! ### nearest -/
def nearJ (p q x w : Rat) (n : Nat) (l : Lf) : Nat := (nearK p q x w n l).getD 0
theorem nearK_eq {p q x w : Rat} {n : Nat} {l : Lf} (hc : 0 < cnt n l) : nearK p q x w n l = some (nearJ p q x w n l) ∧ nearJ p q x w n l < cnt n l := by
  have hb := leN_le (p := p) (q := q) (x := x) n l w
  have key : ∃ j, nearK p q x w n l = some j ∧ j < cnt n l := by
    unfold nearK
    generalize leN p q x n l w = b at *
    cases b with
    | zero =>
      refine ⟨0, ?_, hc⟩
      have e1 : stepK p q x w n l none (((0 : Nat) : Int) - 1) = none := by unfold stepK; rw [if_neg (by omega)]
      rw [e1]
      unfold stepK
      rw [if_pos (by omega)]; rfl
    | succ b =>
      have e1 : stepK p q x w n l none (((b + 1 : Nat) : Int) - 1) = some b := by
        unfold stepK
        rw [if_pos (by omega)]
        show some (((b + 1 : Nat) : Int) - 1).toNat = some b
        congr 1
        omega
      rw [e1]
      unfold stepK
      by_cases c : b + 1 < cnt n l
      · rw [if_pos (by omega)]
        dsimp only
        split
        · exact ⟨b + 1, by rw [Int.toNat_natCast], c⟩
        · exact ⟨b, rfl, by omega⟩
      · rw [if_neg (by omega)]
        exact ⟨b, rfl, by omega⟩
  obtain ⟨j, e, hj⟩ := key
  unfold nearJ
  rw [e]
  exact ⟨rfl, hj⟩
theorem cnt_ok {n : Nat} {l : Lf} (h : Lok n l) : 0 < cnt n l := by
  cases l with
  | none => exact Nat.two_pow_pos n
  | some i => exact cnt_pos (h i rfl).1 (h i rfl).2
abbrev N_nearest : List Str := ["parts", "share", "many", "lefts", "wished"]
def t_nearest (er : Er) : DS :=
  (dSeq (dDrop (dCall (sp_need_parts er) (dCons (dVar 0) dNil)))
    (dSeq (dDrop (dCall (sp_need_share er) (dCons (dVar 1) dNil)))
    (dSeq (dDrop (dCall (sp_need_many er) (dCons (dVar 2) (dCons (dVar 3) dNil))))
    (dSeq (dDrop (dCall (sp_need_share er) (dCons (dVar 4) dNil)))
    (dRet (dCall sp_nearest_row (dCons (dVar 0) (dCons (dVar 1) (dCons (dVar 2) (dCons (dVar 3) (dCons (dVar 4) dNil)))))))))))

@[irreducible] def sp_nearest (er : Er) : DSp := fun ds k kx => ∃ (d1 d2 d3 d4 d5 : D), ds = [d1, d2, d3, d4, d5] ∧ (d1.plain = true ∧ d2.plain = true ∧ d3.plain = true ∧ d4.plain = true ∧ d5.plain = true) ∧
  (¬ IsParts d1 → kx er.NoParts) ∧ (IsParts d1 → ¬ IsShare d2 → kx er.NoShare) ∧ (IsParts d1 → IsShare d2 → within d3 0 40 = false → kx er.NoMany) ∧ (IsParts d1 → IsShare d2 → ∀ n : Nat, d3 = .int n → n ≤ 40 → d4 ≠ .non → within d4 0 n = false → kx er.NoLefts) ∧
  (IsParts d1 → IsShare d2 → IsMany d3 d4 → ¬ IsShare d5 → kx er.NoShare) ∧
  ∀ p q x n l w, d1 = pts p q → Parts p q → d2 = fr x → Share x → d3 = .int (n : Nat) → d4 = dlf l → n ≤ 40 → Lok n l → d5 = fr w → Share w → k (bestD p q x w n l (nearK p q x w n l))
theorem len_nearest (er : Er) : ∀ ds k kx, sp_nearest er ds k kx → ds.length = 5 := by
  intro _ _ _ h
  unfold sp_nearest at h
  obtain ⟨_, _, _, _, _, rfl, _⟩ := h; rfl
theorem pure_nearest (er : Er) (ds : List D) (k : D → Prop) (kx : Addr → Prop) (h : sp_nearest er ds k kx) : t_nearest er { nx := fun _ => k .non, rt := k, ex := kx } (dstart N_nearest ds) := by
  unfold sp_nearest at h
  obtain ⟨d1, d2, d3, d4, d5, rfl, ⟨p1, p2, p3, p4, p5⟩, e1, e2, e3, e4, e5, h⟩ := h
  refine ⟨d1, rfl, p1, fun i1 => ?_, fun n1 => e1 n1⟩
  refine ⟨d2, rfl, p2, fun i2 => ?_, fun n2 => e2 i1 n2⟩
  refine ⟨d3, d4, rfl, p3, p4, fun c => e3 i1 i2 c, fun n en hn ne c => e4 i1 i2 n en hn ne c, fun im => ?_⟩
  refine ⟨d5, rfl, p5, fun i5 => ?_, fun n5 => e5 i1 i2 im n5⟩
  obtain ⟨p, q, rfl, hpq⟩ := i1
  obtain ⟨x, rfl, hx⟩ := i2
  obtain ⟨n, l, rfl, rfl, hn, hl⟩ := im
  obtain ⟨w, rfl, hw⟩ := i5
  exact nearest_row_ok hpq hx hn hl hw (h p q x n l w rfl hpq rfl hx rfl rfl hn hl rfl hw)
theorem dlf_inj {a b : Lf} (h : dlf a = dlf b) : a = b := by
  cases a <;> cases b <;> first | rfl | (cases h; done) | (injection h with h; rw [h])
theorem nearest_ok {er : Er} {p q x w : Rat} {n : Nat} {l : Lf} {k : D → Prop} {kx : Addr → Prop} (hpq : Parts p q) (hx : Share x) (hn : n ≤ 40) (hl : Lok n l) (hw : Share w) (h : k (bestD p q x w n l (nearK p q x w n l))) : sp_nearest er [pts p q, fr x, .int (n : Nat), dlf l, fr w] k kx := by
  unfold sp_nearest
  refine ⟨_, _, _, _, _, rfl, ⟨pts_plain p q, fr_plain x, rfl, dlf_plain l, fr_plain w⟩, fun e => absurd ⟨p, q, rfl, hpq⟩ e, fun _ e => absurd ⟨x, rfl, hx⟩ e, fun _ _ e => ?_, fun _ _ m em hm ne e => ?_, fun _ _ _ e => absurd ⟨w, rfl, hw⟩ e, fun p' q' x' n' l' w' e1 _ e2 _ e3 e4 _ _ e5 _ => ?_⟩
  · rw [within_true (by omega) (by omega)] at e; cases e
  · injection em with em
    cases l with
    | none => exact absurd rfl ne
    | some i =>
      have := hl i rfl
      rw [show within (dlf (some i)) 0 (m : Nat) = true from within_true (by omega) (by omega)] at e; cases e
  · obtain ⟨rfl, rfl⟩ := pts_inj e1
    obtain rfl := fr_inj e2
    injection e3 with e3
    have e3 : n = n' := by omega
    subst e3
    obtain rfl := dlf_inj e4
    obtain rfl := fr_inj e5
    exact h
/-! ### near_enough -/
def IsDist (d : D) : Prop := ∃ x, d = fr x ∧ Share x ∧ 0 < x
theorem num_zero_iff {x : Rat} (h : 0 ≤ x) : x.num = 0 ↔ ¬ 0 < x := by
  have h1 := Rat.num_nonneg.mpr h
  constructor
  · intro e c
    have := num_pos c
    omega
  · intro c
    have : x = 0 := Rat.le_antisymm (Rat.not_lt.mp c) h
    rw [this]; rfl
abbrev N_need_distance : List Str := ["distance"]
def t_need_distance (er : Er) : DS :=
  (dIfS (dOr (dNot (dB (dCall sp_is_share (dCons (dVar 0) dNil)))) (dB (dOp dEq (dOp dIx (dVar 0) (dC (.int 0))) (dC (.int 0))))) (dRaise er.NoDistance) dNext)

def sp_need_distance (er : Er) : DSp := fun ds k kx => ∃ (d : D), ds = [d] ∧ d.plain = true ∧ (IsDist d → k .non) ∧ (¬ IsDist d → kx er.NoDistance)
theorem len_need_distance (er : Er) : ∀ ds k kx, sp_need_distance er ds k kx → ds.length = 1 := by
  intro _ _ _ h
  unfold sp_need_distance at h
  obtain ⟨_, rfl, _⟩ := h; rfl
theorem pure_need_distance (er : Er) (ds : List D) (k : D → Prop) (kx : Addr → Prop) (h : sp_need_distance er ds k kx) : t_need_distance er { nx := fun _ => k .non, rt := k, ex := kx } (dstart N_need_distance ds) := by
  obtain ⟨d, rfl, pl, h1, h2⟩ := h
  refine ⟨d, rfl, pl, fun b hb => ?_⟩
  cases b with
  | false => exact h2 fun ⟨x, e, hx, _⟩ => by have := hb.mpr ⟨x, e, hx⟩; cases this
  | true =>
    obtain ⟨x, rfl, hx⟩ := hb.mp rfl
    refine (show dEq (.int x.num) (.int 0) _ from ?_)
    refine eq_int ?_
    refine iteB (fun c => ?_) (fun c => ?_)
    · have c := (num_zero_iff hx.1).mp (of_decide_eq_true c)
      exact h2 fun ⟨y, e, _, hy⟩ => c (by rw [fr_inj e]; exact hy)
    · have c := of_decide_eq_false c
      refine h1 ⟨x, rfl, hx, ?_⟩
      by_cases z : 0 < x
      · exact z
      · exact absurd ((num_zero_iff hx.1).mpr z) c
def nearHit (p q x w d : Rat) (n : Nat) : Option (List Bool) := if d < awK p q x w n none (nearJ p q x w n none) then none else some (numRow n none (nearJ p q x w n none))
def nearE (p q x w d : Rat) (m : Nat) : Option (List Bool) := (List.range m).findSome? (nearHit p q x w d)
abbrev N_near_enough : List Str := ["parts", "share", "wished", "distance", "many", "row", "away"]
def t_near_enough (er : Er) : DS :=
  (dSeq (dDrop (dCall (sp_need_parts er) (dCons (dVar 0) dNil)))
    (dSeq (dDrop (dCall (sp_need_share er) (dCons (dVar 1) dNil)))
    (dSeq (dDrop (dCall (sp_need_share er) (dCons (dVar 2) dNil)))
    (dSeq (dDrop (dCall (sp_need_distance er) (dCons (dVar 3) dNil)))
    (dSeq (dFor (dItR1 (dC (.int 21))) (gN 4)
    (dSeq (dAsg (dCall sp_nearest_row (dCons (dVar 0) (dCons (dVar 1) (dCons (dVar 4) (dCons (dC .non) (dCons (dVar 2) dNil)))))) (gTp 2 (gCn (gN 5) (gCn (gN 6) gNl))))
    (dIfS (dNot (dB (dCall sp_is_less (dCons (dVar 3) (dCons (dVar 6) dNil))))) (dRet (dVar 5)) dNext)))
    (dRet (dC .non)))))))

@[irreducible] def sp_near_enough (er : Er) : DSp := fun ds k kx => ∃ (d1 d2 d3 d4 : D), ds = [d1, d2, d3, d4] ∧ (d1.plain = true ∧ d2.plain = true ∧ d3.plain = true ∧ d4.plain = true) ∧
  (¬ IsParts d1 → kx er.NoParts) ∧ (IsParts d1 → ¬ IsShare d2 → kx er.NoShare) ∧ (IsParts d1 → IsShare d2 → ¬ IsShare d3 → kx er.NoShare) ∧ (IsParts d1 → IsShare d2 → IsShare d3 → ¬ IsDist d4 → kx er.NoDistance) ∧
  ∀ p q x w d, d1 = pts p q → Parts p q → d2 = fr x → Share x → d3 = fr w → Share w → d4 = fr d → Share d → 0 < d → k (orow (nearE p q x w d 21))
theorem len_near_enough (er : Er) : ∀ ds k kx, sp_near_enough er ds k kx → ds.length = 4 := by
  intro _ _ _ h
  unfold sp_near_enough at h
  obtain ⟨_, _, _, _, rfl, _⟩ := h; rfl
theorem pure_near_enough (er : Er) (ds : List D) (k : D → Prop) (kx : Addr → Prop) (h : sp_near_enough er ds k kx) : t_near_enough er { nx := fun _ => k .non, rt := k, ex := kx } (dstart N_near_enough ds) := by
  unfold sp_near_enough at h
  obtain ⟨d1, d2, d3, d4, rfl, ⟨p1, p2, p3, p4⟩, e1, e2, e3, e4, h⟩ := h
  refine ⟨d1, rfl, p1, fun i1 => ?_, fun n1 => e1 n1⟩
  refine ⟨d2, rfl, p2, fun i2 => ?_, fun n2 => e2 i1 n2⟩
  refine ⟨d3, rfl, p3, fun i3 => ?_, fun n3 => e3 i1 i2 n3⟩
  refine ⟨d4, rfl, p4, fun i4 => ?_, fun n4 => e4 i1 i2 i3 n4⟩
  obtain ⟨p, q, rfl, hpq⟩ := i1
  obtain ⟨x, rfl, hx⟩ := i2
  obtain ⟨w, rfl, hw⟩ := i3
  obtain ⟨d, rfl, hd, hd0⟩ := i4
  have h := h p q x w d rfl hpq rfl hx rfl hw rfl hd hd0
  unfold nearE at h
  refine ⟨⟨by decide, by decide⟩, ?_⟩
  refine ⟨fun j δ => ∃ z1 z2 z3, δ = [some (pts p q), some (fr x), some (fr w), some (fr d), z1, z2, z3] ∧ ((List.range 21).take j).findSome? (nearHit p q x w d) = none, ⟨none, none, none, rfl, rfl⟩, ?_, ?_⟩
  · rintro j e δ' he ⟨z1, z2, z3, rfl, h0⟩
    obtain ⟨hj, rfl⟩ := rng_get he
    have hj : j < 21 := hj
    have hjr : (List.range 21)[j]? = some j := List.getElem?_range hj
    refine (show sp_nearest_row [pts p q, fr x, .int (0 + (j : Int)), dlf none, fr w] _ _ from ?_)
    rw [Int.zero_add]
    have hl : Lok j none := fun i e => by cases e
    refine nearest_row_ok hpq hx (by omega) hl hw ?_
    rw [(nearK_eq (cnt_ok hl)).1]
    refine ⟨rfl, ?_⟩
    refine ⟨d, _, rfl, Fit.of (share_U hd).sz, (awK_fit hpq hx hw (by omega) _).mono (by decide), ?_⟩
    show if (!decide (d < awK p q x w j none (nearJ p q x w j none))) = true then _ else _
    by_cases c : d < awK p q x w j none (nearJ p q x w j none)
    · rw [decide_eq_true c]
      have f1 : nearHit p q x w d j = none := by unfold nearHit; rw [if_pos c]
      exact iteF ⟨_, _, _, rfl, fs_next hjr h0 f1⟩
    · rw [decide_eq_false c]
      have f1 : nearHit p q x w d j = some (numRow j none (nearJ p q x w j none)) := by unfold nearHit; rw [if_neg c]
      rw [fs_at hjr h0 f1] at h
      exact iteT h
  · rintro δ' ⟨z1, z2, z3, rfl, h0⟩
    rw [rng_len, show Int.toNat 21 = 21 from rfl, show List.take 21 (List.range 21) = List.range 21 from by rfl] at h0
    rw [h0] at h
    exact h
theorem near_enough_ok {er : Er} {p q x w d : Rat} {k : D → Prop} {kx : Addr → Prop} (hpq : Parts p q) (hx : Share x) (hw : Share w) (hd : Share d) (hd0 : 0 < d) (h : k (orow (nearE p q x w d 21))) : sp_near_enough er [pts p q, fr x, fr w, fr d] k kx := by
  unfold sp_near_enough
  refine ⟨_, _, _, _, rfl, ⟨pts_plain p q, fr_plain x, fr_plain w, fr_plain d⟩, fun e => absurd ⟨p, q, rfl, hpq⟩ e, fun _ e => absurd ⟨x, rfl, hx⟩ e, fun _ _ e => absurd ⟨w, rfl, hw⟩ e, fun _ _ _ e => absurd ⟨d, rfl, hd, hd0⟩ e, fun p' q' x' w' d' e1 _ e2 _ e3 _ e4 _ _ => ?_⟩
  obtain ⟨rfl, rfl⟩ := pts_inj e1
  obtain rfl := fr_inj e2
  obtain rfl := fr_inj e3
  obtain rfl := fr_inj e4
  exact h
end DL
/-! To where a row leads; how many times. -/
namespace DL
open PySem PySem.Spec PyProof.Rows L2 PB
/-! ### powers -/
theorem ltle {a b c : Rat} (h1 : a < b) (h2 : b ≤ c) : a < c := by grind
theorem lelt {a b c : Rat} (h1 : a ≤ b) (h2 : b < c) : a < c := by grind
def pw (x : Rat) : Nat → Rat
  | 0 => 1
  | n + 1 => pw x n * x
theorem pw_pos {x : Rat} (h : 0 < x) : ∀ n, 0 < pw x n
  | 0 => by show (0 : Rat) < 1; decide
  | n + 1 => Rat.mul_pos (pw_pos h n) h
theorem pw_mono {x y : Rat} (h0 : 0 < x) (h : x ≤ y) : ∀ n, pw x n ≤ pw y n
  | 0 => Rat.le_refl
  | n + 1 => Rat.le_trans (Rat.mul_le_mul_of_nonneg_right (pw_mono h0 h n) (Rat.le_of_lt h0)) (Rat.mul_le_mul_of_nonneg_left h (Rat.le_of_lt (pw_pos (ltle h0 h) n)))
theorem pw_add (x : Rat) (n : Nat) : ∀ m, pw x (n + m) = pw x n * pw x m
  | 0 => by show pw x n = pw x n * 1; grind
  | m + 1 => by show pw x (n + m) * x = pw x n * (pw x m * x); rw [pw_add x n m]; grind
theorem pw_mul (x : Rat) (n : Nat) : ∀ m, pw (pw x n) m = pw x (n * m)
  | 0 => rfl
  | m + 1 => by show pw (pw x n) m * pw x n = _; rw [pw_mul x n m, Nat.mul_succ, pw_add]
theorem pw_le1 {x : Rat} (h0 : 0 < x) (h1 : x ≤ 1) : ∀ n, pw x n ≤ 1
  | 0 => Rat.le_refl
  | n + 1 => by
    have a := pw_le1 h0 h1 n
    have := Rat.mul_le_mul_of_nonneg_right a (Rat.le_of_lt h0)
    show pw x n * x ≤ 1
    grind
theorem pw_anti {x : Rat} (h0 : 0 < x) (h1 : x ≤ 1) {n m : Nat} (h : n ≤ m) : pw x m ≤ pw x n := by
  obtain ⟨d, rfl⟩ : ∃ d, m = n + d := ⟨m - n, by omega⟩
  rw [pw_add]
  have := Rat.mul_le_mul_of_nonneg_left (pw_le1 h0 h1 d) (Rat.le_of_lt (pw_pos h0 n))
  grind
abbrev r1112 : Rat := ⟨11, 12, by decide, by decide⟩
abbrev tiny : Rat := ⟨1, 100000000000000000000, by decide, by decide⟩
theorem pw_tiny : pw r1112 531 ≤ tiny := by decide +kernel
/-- a distance is not too small -/
theorem dist_big {d : Rat} (h : Share d) (h0 : 0 < d) : tiny < d := by
  have h1 := num_pos h0
  have h2 := h.2.2
  rw [Rat.lt_iff]
  show (1 : Int) * (d.den : Int) < d.num * 100000000000000000000
  have : (d.den : Int) < 100000000000000000000 := by have h2 : d.den < 100000000000000000000 := h2; omega
  omega
theorem part_least {p : Rat} (h : Part p) : 1 - p ≤ r1112 := by
  have h1 := num_pos h.1
  have h2 := h.2.2
  have e : (⟨1, 12, by decide, by decide⟩ : Rat) ≤ p := by
    rw [Rat.le_iff]
    show (1 : Int) * (p.den : Int) ≤ p.num * 12
    omega
  have e2 : (⟨1, 12, by decide, by decide⟩ : Rat) + r1112 = 1 := by decide +kernel
  grind
theorem fac_le {p q : Rat} (hp : Part p) (hq : Part q) : ∀ r, fac p q r ≤ pw r1112 r.length
  | [] => Rat.le_refl
  | w :: r => by
    have ih := fac_le hp hq r
    have h1 : fac1 p q w ≤ r1112 := by cases w with
      | false => exact part_least hp
      | true => exact part_least hq
    have h0 := fac1_pos hp hq w
    have hf := fac_pos hp hq r
    show fac1 p q w * fac p q r ≤ pw r1112 r.length * r1112
    have a := Rat.mul_le_mul_of_nonneg_right h1 (Rat.le_of_lt hf)
    have b := Rat.mul_le_mul_of_nonneg_left ih (show (0 : Rat) ≤ r1112 by decide +kernel)
    grind
theorem fac_sz {p q : Rat} (hp : Part p) (hq : Part q) : ∀ r, sz (fac p q r) (1 + 4 * r.length)
  | [] => sz_one
  | w :: r => by
    have h1 : sz (fac1 p q w) 4 := by cases w with
      | false => exact part_sz (part_sub hp)
      | true => exact part_sz (part_sub hq)
    exact (sz_mul h1 (fac_sz hp hq r)).mono (by rw [List.length_cons]; omega)
theorem fac_lt1 {p q : Rat} (hp : Part p) (hq : Part q) {r : List Bool} (hr : r ≠ []) : fac p q r < 1 := by
  refine lelt (fac_le hp hq r) ?_
  have hl := List.length_pos_iff.mpr hr
  refine lelt (pw_anti (n := 1) (m := r.length) (by decide +kernel) (by decide +kernel) hl) ?_
  decide +kernel
/-! ### middle -/
theorem U0 : U 0 1 := ⟨Rat.le_refl, by decide, by decide⟩
theorem U1 : U 1 1 := ⟨by decide, Rat.le_refl, by decide⟩
def mid (p q : Rat) (r : List Bool) : Rat := pours p q 0 r / (1 - fac p q r)
theorem mid_sz {p q : Rat} (hpq : Parts p q) {r : List Bool} (hr : r ≠ []) (hl : r.length ≤ 40) : sz (mid p q r) 330 := by
  have h1 := fac_lt1 hpq.1 hpq.2.1 hr
  refine (sz_div (by grind) (U_pours hpq.1 hpq.2.1 r U0).sz (sz_sub sz_one (fac_sz hpq.1 hpq.2.1 r))).mono (by omega)
theorem mid_fix {p q : Rat} (hpq : Parts p q) {r : List Bool} (hr : r ≠ []) : pours p q (mid p q r) r = mid p q r := by
  have h1 := fac_lt1 hpq.1 hpq.2.1 hr
  have hn : 1 - fac p q r ≠ 0 := fun e => by
    have : fac p q r = 1 := by grind
    rw [this] at h1
    exact Rat.lt_irrefl h1
  rw [pours_lin]
  have e : mid p q r * (1 - fac p q r) = pours p q 0 r := Rat.div_mul_cancel hn
  grind
theorem mid_in {p q : Rat} (hpq : Parts p q) {r : List Bool} (hr : r ≠ []) : 0 ≤ mid p q r ∧ mid p q r ≤ 1 := by
  have h1 := fac_lt1 hpq.1 hpq.2.1 hr
  have u0 := U_pours hpq.1 hpq.2.1 r U0
  have u1 := U_pours hpq.1 hpq.2.1 r U1
  have hp : 0 < 1 - fac p q r := by grind
  have e := pours_lin (p := p) (q := q) r 1
  unfold mid
  rw [le_div hp, div_le hp]
  have := u0.1
  have := u1.2.1
  constructor <;> grind
abbrev N_shrinks : List Str := ["parts", "row"]
def t_shrinks : DS :=
  (dRet (dCall sp_minus (dCons (dCall sp_end_of (dCons (dVar 0) (dCons (dTup (dCons (dC (.int 1)) (dCons (dC (.int 1)) dNil))) (dCons (dVar 1) dNil)))) (dCons (dCall sp_end_of (dCons (dVar 0) (dCons (dTup (dCons (dC (.int 0)) (dCons (dC (.int 1)) dNil))) (dCons (dVar 1) dNil)))) dNil))))

def sp_shrinks : DSp := fun ds k _ => ∃ (p q : Rat) (r : List Bool), ds = [pts p q, rw_ r] ∧ Parts p q ∧ r.length ≤ 40 ∧ k (fr (fac p q r))
theorem len_shrinks : ∀ ds k kx, sp_shrinks ds k kx → ds.length = 2 := by
  intro _ _ _ h
  unfold sp_shrinks at h
  obtain ⟨_, _, _, rfl, _⟩ := h; rfl
theorem pure_shrinks (ds : List D) (k : D → Prop) (kx : Addr → Prop) (h : sp_shrinks ds k kx) : t_shrinks { nx := fun _ => k .non, rt := k, ex := kx } (dstart N_shrinks ds) := by
  obtain ⟨p, q, r, rfl, hpq, hr, h⟩ := h
  have u0 := U_pours hpq.1 hpq.2.1 r U0
  have u1 := U_pours hpq.1 hpq.2.1 r U1
  refine end_mk (x := 1) hpq.1 hpq.2.1 U1 (by omega) ?_
  refine end_mk (x := 0) hpq.1 hpq.2.1 U0 (by omega) ?_
  refine ⟨pours p q 1 r, pours p q 0 r, rfl, u1.sz.mono (by omega), u0.sz.mono (by omega), ?_⟩
  rw [pours_diff, show ((1 : Rat) - 0) * fac p q r = fac p q r by grind]
  exact h
abbrev N_middle : List Str := ["parts", "row", "begun"]
def t_middle : DS :=
  (dSeq (dSet 2 (dCall sp_end_of (dCons (dVar 0) (dCons (dTup (dCons (dC (.int 0)) (dCons (dC (.int 1)) dNil))) (dCons (dVar 1) dNil)))))
    (dRet (dCall sp_by (dCons (dVar 2) (dCons (dCall sp_minus (dCons (dTup (dCons (dC (.int 1)) (dCons (dC (.int 1)) dNil))) (dCons (dCall sp_shrinks (dCons (dVar 0) (dCons (dVar 1) dNil))) dNil))) dNil)))))

def sp_middle : DSp := fun ds k _ => ∃ (p q : Rat) (r : List Bool), ds = [pts p q, rw_ r] ∧ Parts p q ∧ r ≠ [] ∧ r.length ≤ 40 ∧ k (fr (mid p q r))
theorem len_middle : ∀ ds k kx, sp_middle ds k kx → ds.length = 2 := by
  intro _ _ _ h
  unfold sp_middle at h
  obtain ⟨_, _, _, rfl, _⟩ := h; rfl
theorem pure_middle (ds : List D) (k : D → Prop) (kx : Addr → Prop) (h : sp_middle ds k kx) : t_middle { nx := fun _ => k .non, rt := k, ex := kx } (dstart N_middle ds) := by
  obtain ⟨p, q, r, rfl, hpq, hne, hr, h⟩ := h
  have u0 := U_pours hpq.1 hpq.2.1 r U0
  have sf := fac_sz hpq.1 hpq.2.1 r
  refine end_mk (x := 0) hpq.1 hpq.2.1 U0 (by omega) ?_
  refine ⟨p, q, r, rfl, hpq, hr, ?_⟩
  refine ⟨1, fac p q r, rfl, Fit.of sz_one, sf.mono (by omega), ?_⟩
  have h1 := fac_lt1 hpq.1 hpq.2.1 hne
  exact ⟨pours p q 0 r, 1 - fac p q r, rfl, u0.sz.mono (by omega), (sz_sub sz_one sf).mono (by omega), by grind, h⟩
abbrev N_need_pours : List Str := ["row"]
def t_need_pours (er : Er) : DS :=
  (dSeq (dDrop (dCall (sp_need_row er) (dCons (dVar 0) dNil)))
    (dIfS (dB (dOp dEq (dVar 0) (dTup dNil))) (dRaise er.NoRow) dNext))

def sp_need_pours (er : Er) : DSp := fun ds k kx => ∃ (d : D), ds = [d] ∧ d.plain = true ∧ short d ∧ (∀ r, d = rw_ r → r.length ≤ 40 → r ≠ [] → k .non) ∧ ((¬ IsRow d ∨ d = rw_ []) → kx er.NoRow)
theorem len_need_pours (er : Er) : ∀ ds k kx, sp_need_pours er ds k kx → ds.length = 1 := by
  intro _ _ _ h
  unfold sp_need_pours at h
  obtain ⟨_, rfl, _⟩ := h; rfl
theorem pure_need_pours (er : Er) (ds : List D) (k : D → Prop) (kx : Addr → Prop) (h : sp_need_pours er ds k kx) : t_need_pours er { nx := fun _ => k .non, rt := k, ex := kx } (dstart N_need_pours ds) := by
  obtain ⟨d, rfl, pl, sh, h1, h2⟩ := h
  refine ⟨d, rfl, pl, sh, fun ir => ?_, fun n => h2 (.inl n)⟩
  obtain ⟨r, rfl, hr⟩ := ir
  refine (show dEq (rw_ r) (rw_ []) _ from ?_)
  refine rw_eqB ?_
  refine iteB (fun c => ?_) (fun c => ?_)
  · rw [of_decide_eq_true c] at h2
    exact h2 (.inr rfl)
  · exact h1 r rfl hr (of_decide_eq_false c)
abbrev N_goes_to : List Str := ["parts", "row"]
def t_goes_to (er : Er) : DS :=
  (dSeq (dDrop (dCall (sp_need_parts er) (dCons (dVar 0) dNil)))
    (dSeq (dDrop (dCall (sp_need_pours er) (dCons (dVar 1) dNil)))
    (dRet (dCall sp_middle (dCons (dVar 0) (dCons (dVar 1) dNil))))))

@[irreducible] def sp_goes_to (er : Er) : DSp := fun ds k kx => ∃ (d1 d2 : D), ds = [d1, d2] ∧ (d1.plain = true ∧ d2.plain = true ∧ short d2) ∧ (¬ IsParts d1 → kx er.NoParts) ∧ (IsParts d1 → (¬ IsRow d2 ∨ d2 = rw_ []) → kx er.NoRow) ∧
  ∀ p q r, d1 = pts p q → Parts p q → d2 = rw_ r → r.length ≤ 40 → r ≠ [] → k (fr (mid p q r))
theorem len_goes_to (er : Er) : ∀ ds k kx, sp_goes_to er ds k kx → ds.length = 2 := by
  intro _ _ _ h
  unfold sp_goes_to at h
  obtain ⟨_, _, rfl, _⟩ := h; rfl
theorem pure_goes_to (er : Er) (ds : List D) (k : D → Prop) (kx : Addr → Prop) (h : sp_goes_to er ds k kx) : t_goes_to er { nx := fun _ => k .non, rt := k, ex := kx } (dstart N_goes_to ds) := by
  unfold sp_goes_to at h
  obtain ⟨d1, d2, rfl, ⟨p1, p2, p2'⟩, e1, e2, h⟩ := h
  refine ⟨d1, rfl, p1, fun i1 => ?_, fun n1 => e1 n1⟩
  refine ⟨d2, rfl, p2, p2', fun r er' hr hne => ?_, fun n2 => e2 i1 n2⟩
  obtain ⟨p, q, rfl, hpq⟩ := i1
  subst er'
  exact ⟨p, q, r, rfl, hpq, hne, hr, h p q r rfl hpq rfl hr hne⟩
theorem goes_to_ok {er : Er} {p q : Rat} {r : List Bool} {k : D → Prop} {kx : Addr → Prop} (hpq : Parts p q) (hr : r.length ≤ 40) (hne : r ≠ []) (h : k (fr (mid p q r))) : sp_goes_to er [pts p q, rw_ r] k kx := by
  unfold sp_goes_to
  refine ⟨_, _, rfl, ⟨pts_plain p q, rw_plain r, short_rw hr⟩, fun e => absurd ⟨p, q, rfl, hpq⟩ e, fun _ e => ?_, fun p' q' r' e1 _ e2 _ _ => ?_⟩
  · rcases e with e | e
    · exact absurd ⟨r, rfl, hr⟩ e
    · exact absurd (rw_inj e) hne
  · obtain ⟨rfl, rfl⟩ := pts_inj e1
    obtain rfl := rw_inj e2
    exact h
end DL
/-! How many times; how far away. -/
namespace DL
open PySem PySem.Spec PyProof.Rows L2 PB
theorem aw_nonneg (x y : Rat) : 0 ≤ aw x y := by unfold aw; split <;> grind
theorem aw_le1 {x y : Rat} (hx : inU x = true) (hy : inU y = true) : aw x y ≤ 1 := by
  obtain ⟨a, b⟩ := inU_iff.mp hx
  obtain ⟨c, d⟩ := inU_iff.mp hy
  unfold aw; split <;> grind
theorem aw_fac {p q x y : Rat} (hpq : Parts p q) (r : List Bool) : aw (pours p q x r) (pours p q y r) = aw x y * fac p q r := by
  have hf := fac_pos hpq.1 hpq.2.1 r
  have e := pours_diff p q r x y
  unfold aw
  by_cases c : x < y
  · have c2 : pours p q x r < pours p q y r := by
      have : 0 < (y - x) * fac p q r := Rat.mul_pos (by grind) hf
      grind
    rw [if_pos c, if_pos c2]; grind
  · have c2 : ¬ pours p q x r < pours p q y r := by
      have : 0 ≤ (x - y) * fac p q r := Rat.mul_nonneg (by grind) (Rat.le_of_lt hf)
      grind
    rw [if_neg c, if_neg c2, e]
theorem pw_bound {p q a d : Rat} {r : List Bool} {k : Nat} (hpq : Parts p q) (ha : a ≤ 1) (hd : tiny < d) (h : d < a * pw (fac p q r) k) : r.length * k ≤ 530 := by
  by_cases c : r.length * k ≤ 530
  · exact c
  · exfalso
    have hf := fac_pos hpq.1 hpq.2.1 r
    have p0 := pw_pos hf k
    have h1 : a * pw (fac p q r) k ≤ pw (fac p q r) k := by
      have := Rat.mul_le_mul_of_nonneg_right ha (Rat.le_of_lt p0)
      grind
    have h2 := pw_mono hf (fac_le hpq.1 hpq.2.1 r) k
    rw [pw_mul] at h2
    have h3 := pw_anti (x := r1112) (n := 531) (m := r.length * k) (by decide +kernel) (by decide +kernel) (by omega)
    have h4 := pw_tiny
    grind
theorem pw_sz {p q : Rat} (hpq : Parts p q) (r : List Bool) : ∀ k, sz (pw (fac p q r) k) (1 + k + 4 * (r.length * k))
  | 0 => sz_one
  | k + 1 => by
    refine (sz_mul (pw_sz hpq r k) (fac_sz hpq.1 hpq.2.1 r)).mono ?_
    rw [Nat.mul_succ]; omega
theorem away_fit {p q a d : Rat} {r : List Bool} {k : Nat} (hpq : Parts p q) (hs : sz a 400) (ha : a ≤ 1) (hd : tiny < d) (hr : r.length ≤ 40) (hne : r ≠ []) (h : ∀ j, j < k → d < a * pw (fac p q r) j) : k ≤ 531 ∧ r.length * k ≤ 570 ∧ sz (a * pw (fac p q r) k) 3300 := by
  have hl := List.length_pos_iff.mpr hne
  have hk : r.length * k ≤ 570 ∧ k ≤ 531 := by
    cases k with
    | zero => exact ⟨by omega, by omega⟩
    | succ k =>
      have := pw_bound hpq ha hd (h k (by omega))
      have h1 : 1 * k ≤ r.length * k := Nat.mul_le_mul_right k hl
      rw [Nat.mul_succ]; omega
  exact ⟨hk.2, hk.1, (sz_mul hs (pw_sz hpq r k)).mono (by omega)⟩
abbrev N_times_till : List Str := ["parts", "share", "row", "distance", "away", "less", "found"]
def t_times_till (er : Er) : DS :=
  (dSeq (dDrop (dCall (sp_need_parts er) (dCons (dVar 0) dNil)))
    (dSeq (dDrop (dCall (sp_need_share er) (dCons (dVar 1) dNil)))
    (dSeq (dDrop (dCall (sp_need_pours er) (dCons (dVar 2) dNil)))
    (dSeq (dDrop (dCall (sp_need_distance er) (dCons (dVar 3) dNil)))
    (dSeq (dPar3 4 5 6 (dCall sp_far (dCons (dVar 1) (dCons (dCall sp_middle (dCons (dVar 0) (dCons (dVar 2) dNil))) dNil))) (dCall sp_shrinks (dCons (dVar 0) (dCons (dVar 2) dNil))) (dC (.int 0)))
    (dSeq (dWhile (dB (dCall sp_is_less (dCons (dVar 3) (dCons (dVar 4) dNil))))
    (dPar 4 6 (dCall sp_times (dCons (dVar 4) (dCons (dVar 5) dNil))) (dAdd (dVar 6) (dC (.int 1)))))
    (dRet (dVar 6))))))))

@[irreducible] def sp_times_till (er : Er) : DSp := fun ds k kx => ∃ (d1 d2 d3 d4 : D), ds = [d1, d2, d3, d4] ∧ (d1.plain = true ∧ d2.plain = true ∧ d3.plain = true ∧ short d3 ∧ d4.plain = true) ∧
  (¬ IsParts d1 → kx er.NoParts) ∧ (IsParts d1 → ¬ IsShare d2 → kx er.NoShare) ∧ (IsParts d1 → IsShare d2 → (¬ IsRow d3 ∨ d3 = rw_ []) → kx er.NoRow) ∧ (IsParts d1 → IsShare d2 → IsRow d3 → d3 ≠ rw_ [] → ¬ IsDist d4 → kx er.NoDistance) ∧
  ∀ p q x r d, d1 = pts p q → Parts p q → d2 = fr x → Share x → d3 = rw_ r → r.length ≤ 40 → r ≠ [] → d4 = fr d → Share d → 0 < d → ∀ N : Nat, (∀ j, j < N → d < aw x (mid p q r) * pw (fac p q r) j) → ¬ d < aw x (mid p q r) * pw (fac p q r) N → k (.int N)
theorem len_times_till (er : Er) : ∀ ds k kx, sp_times_till er ds k kx → ds.length = 4 := by
  intro _ _ _ h
  unfold sp_times_till at h
  obtain ⟨_, _, _, _, rfl, _⟩ := h; rfl
theorem pure_times_till (er : Er) (ds : List D) (k : D → Prop) (kx : Addr → Prop) (h : sp_times_till er ds k kx) : t_times_till er { nx := fun _ => k .non, rt := k, ex := kx } (dstart N_times_till ds) := by
  unfold sp_times_till at h
  obtain ⟨d1, d2, d3, d4, rfl, ⟨p1, p2, p3, p3', p4⟩, e1, e2, e3, e4, h⟩ := h
  refine ⟨d1, rfl, p1, fun i1 => ?_, fun n1 => e1 n1⟩
  refine ⟨d2, rfl, p2, fun i2 => ?_, fun n2 => e2 i1 n2⟩
  refine ⟨d3, rfl, p3, p3', fun r e3r hr hne => ?_, fun n3 => e3 i1 i2 n3⟩
  subst e3r
  refine ⟨d4, rfl, p4, fun i4 => ?_, fun n4 => e4 i1 i2 ⟨r, rfl, hr⟩ (fun z => hne (rw_inj z)) n4⟩
  obtain ⟨p, q, rfl, hpq⟩ := i1
  obtain ⟨x, rfl, hx⟩ := i2
  obtain ⟨d, rfl, hd, hd0⟩ := i4
  have h := h p q x r d rfl hpq rfl hx rfl hr hne rfl hd hd0
  have hm := mid_in hpq hne
  have sm := mid_sz hpq hne hr
  have sa : sz (aw x (mid p q r)) 400 := (aw_sz (share_U hx).sz sm).mono (by decide)
  have ha : aw x (mid p q r) ≤ 1 := aw_le1 (inU_iff.mpr ⟨hx.1, hx.2.1⟩) (inU_iff.mpr hm)
  have hf := fac_sz hpq.1 hpq.2.1 r
  have hb := dist_big hd hd0
  refine ⟨p, q, r, rfl, hpq, hne, hr, ?_⟩
  refine ⟨x, mid p q r, rfl, Fit.of (share_U hx).sz, sm.mono (by decide), ?_⟩
  refine ⟨p, q, r, rfl, hpq, hr, ?_⟩
  generalize aw x (mid p q r) = a at *
  refine ⟨fun m δ => ∃ j : Nat, m + j = 600 ∧ δ = [some (pts p q), some (fr x), some (rw_ r), some (fr d), some (fr (a * pw (fac p q r) j)), some (fr (fac p q r)), some (.int (j : Nat))] ∧ ∀ i, i < j → d < a * pw (fac p q r) i, ⟨600, 0, rfl, ?_, fun i hi => by omega⟩, ?_⟩
  · show _ = [_, _, _, _, some (fr (a * 1)), _, _]
    rw [show a * 1 = a by grind]; rfl
  · rintro m δ' ⟨j, hmj, rfl, hj⟩
    obtain ⟨k1, k2, k3⟩ := away_fit hpq sa ha hb hr hne hj
    refine ⟨d, a * pw (fac p q r) j, rfl, Fit.of (share_U hd).sz, k3.mono (by decide), ?_⟩
    show if decide (d < a * pw (fac p q r) j) = true then _ else _
    refine iteB (fun c => ?_) (fun c => ?_)
    · have c := of_decide_eq_true c
      refine ⟨a * pw (fac p q r) j, fac p q r, rfl, k3.mono (by decide), hf.mono (by omega), m - 1, by omega, j + 1, by omega, ?_, fun i hi => ?_⟩
      · show [_, _, _, _, some (fr (a * pw (fac p q r) j * fac p q r)), _, some (D.int ((j : Int) + 1))] = _
        rw [show a * pw (fac p q r) j * fac p q r = a * pw (fac p q r) (j + 1) by show _ = a * (pw (fac p q r) j * fac p q r); grind]; rfl
      · rcases Nat.lt_or_ge i j with z | z
        · exact hj i z
        · rw [show i = j by omega]; exact c
    · exact h j hj (of_decide_eq_false c)
theorem times_till_ok {er : Er} {p q x d : Rat} {r : List Bool} {k : D → Prop} {kx : Addr → Prop} (hpq : Parts p q) (hx : Share x) (hr : r.length ≤ 40) (hne : r ≠ []) (hd : Share d) (hd0 : 0 < d)
    (h : ∀ N : Nat, (∀ j, j < N → d < aw x (mid p q r) * pw (fac p q r) j) → ¬ d < aw x (mid p q r) * pw (fac p q r) N → k (.int N)) : sp_times_till er [pts p q, fr x, rw_ r, fr d] k kx := by
  unfold sp_times_till
  refine ⟨_, _, _, _, rfl, ⟨pts_plain p q, fr_plain x, rw_plain r, short_rw hr, fr_plain d⟩, fun e => absurd ⟨p, q, rfl, hpq⟩ e, fun _ e => absurd ⟨x, rfl, hx⟩ e, fun _ _ e => ?_, fun _ _ _ _ e => absurd ⟨d, rfl, hd, hd0⟩ e, fun p' q' x' r' d' e1 _ e2 _ e3 _ _ e4 _ _ => ?_⟩
  · rcases e with e | e
    · exact absurd ⟨r, rfl, hr⟩ e
    · exact absurd (rw_inj e) hne
  · obtain ⟨rfl, rfl⟩ := pts_inj e1
    obtain rfl := fr_inj e2
    obtain rfl := rw_inj e3
    obtain rfl := fr_inj e4
    exact h
abbrev N_law_away : List Str := ["one", "other", "gap"]
def t_law_away : DS :=
  (dSeq (dSet 2 (dCall sp_law_minus (dCons (dVar 0) (dCons (dVar 1) dNil))))
    (dRet (dTup (dCons (dC1 cAbs (dOp dIx (dVar 2) (dC (.int 0)))) (dCons (dOp dIx (dVar 2) (dC (.int 1))) dNil)))))

def sp_law_away : DSp := fun ds k _ => ∃ (x y : Rat), ds = [fr x, fr y] ∧ Fit x ∧ Fit y ∧ k (fr (aw x y))
theorem len_law_away : ∀ ds k kx, sp_law_away ds k kx → ds.length = 2 := by
  intro _ _ _ h
  unfold sp_law_away at h
  obtain ⟨_, _, rfl, _⟩ := h; rfl
theorem pure_law_away (ds : List D) (k : D → Prop) (kx : Addr → Prop) (h : sp_law_away ds k kx) : t_law_away { nx := fun _ => k .non, rt := k, ex := kx } (dstart N_law_away ds) := by
  obtain ⟨x, y, rfl, hx, hy, h⟩ := h
  refine ⟨x, y, rfl, hx, hy, ?_⟩
  show k (.tup [.int (if (x - y).num < 0 then -(x - y).num else (x - y).num), .int ((x - y).den : Int)])
  have e : fr (aw x y) = .tup [.int (if (x - y).num < 0 then -(x - y).num else (x - y).num), .int ((x - y).den : Int)] := by
    have hn := num_neg_dec (x - y)
    unfold aw
    by_cases c : x < y
    · have c2 : x - y < 0 := by grind
      rw [decide_eq_true c2] at hn
      rw [if_pos c, if_pos (of_decide_eq_true hn), show y - x = -(x - y) by grind]
      rfl
    · have c2 : ¬ x - y < 0 := by grind
      rw [decide_eq_false c2] at hn
      rw [if_neg c, if_neg (of_decide_eq_false hn)]
      rfl
  rw [e] at h
  exact h
end DL
/-! The ends stand in the order of the numbers; the nearest row. -/
namespace DL
open PySem PySem.Spec PyProof.Rows L2 PB
section
variable {p q x : Rat}
theorem pours_in (h : Parts p q) (hx : inU x = true) (r : List Bool) : 0 ≤ pours p q x r ∧ pours p q x r ≤ 1 := by
  obtain ⟨h0, h1⟩ := inU_iff.mp hx
  obtain ⟨n, hn⟩ : ∃ n, x.den < 2 ^ n := ⟨x.den, Nat.lt_two_pow_self⟩
  have := U_pours h.1 h.2.1 r (⟨h0, h1, hn⟩ : U x n)
  exact ⟨this.1, this.2.1⟩
theorem pours_one (h : Parts p q) (hx : inU x = true) {r : List Bool} (e : pours p q x r = 1) : x = 1 := by
  have h1 := (pours_in h (x := 1) (by decide +kernel) r).2
  have hf := fac_pos h.1 h.2.1 r
  have d := pours_diff p q r 1 x
  have hx1 := (inU_iff.mp hx).2
  by_cases c : x < 1
  · have : 0 < (1 - x) * fac p q r := Rat.mul_pos (by grind) hf
    grind
  · grind
theorem pours_zero (h : Parts p q) (hx : inU x = true) {r : List Bool} (e : pours p q x r = 0) : x = 0 := by
  have h1 := (pours_in h (x := 0) (by decide +kernel) r).1
  have hf := fac_pos h.1 h.2.1 r
  have d := pours_diff p q r x 0
  have hx1 := (inU_iff.mp hx).1
  by_cases c : 0 < x
  · have : 0 < (x - 0) * fac p q r := Rat.mul_pos (by grind) hf
    grind
  · grind
theorem pour_mono (h : Parts p q) {y z : Rat} (w : Bool) (l : y < z) : pour p q y w < pour p q z w := by
  have d := pour_diff p q z y w
  have : 0 < (z - y) * fac1 p q w := Rat.mul_pos (by grind) (fac1_pos h.1 h.2.1 w)
  grind
/-- a pour to the right ends below a pour to the left, as many pours behind the same share -/
theorem cross (h : Parts p q) (hx : inU x = true) (r s : List Bool) : pour p q (pours p q x r) false < pour p q (pours p q x s) true := by
  obtain ⟨a0, a1⟩ := pours_in h hx r
  obtain ⟨b0, b1⟩ := pours_in h hx s
  have hp := (part_sub h.1).1
  have hq := (part_sub h.2.1).1
  have hs := h.2.2
  have ho : pours p q x r = 1 → x = 1 := pours_one h hx
  have hz : pours p q x s = 0 → x = 0 := pours_zero h hx
  generalize pours p q x r = y at *
  generalize pours p q x s = z at *
  show y * (1 - p) < z * (1 - q) + q
  by_cases c : y = 1
  · by_cases c2 : z = 0
    · have e1 := ho c
      have e2 := hz c2
      rw [e1] at e2
      exact absurd e2 (by decide)
    · have : 0 < z * (1 - q) := Rat.mul_pos (by grind) hq
      rw [c]; grind
  · have h1 : 0 < (1 - y) * (1 - p) := Rat.mul_pos (by grind) hp
    have h2 : 0 ≤ z * (1 - q) := Rat.mul_nonneg b0 (Rat.le_of_lt hq)
    grind
theorem ends_lt (h : Parts p q) (hx : inU x = true) (n : Nat) : ∀ (l : Lf) (j k : Nat), j < k → k < cnt n l → endK p q x n l j < endK p q x n l k := by
  unfold endK
  induction n with
  | zero =>
    intro l j k hj hk
    rw [cnt_zero] at hk
    split at hk <;> omega
  | succ n ih =>
    intro l j k hj hk
    rw [cnt_succ] at hk
    unfold numRow
    by_cases c1 : k < cnt n l
    · rw [if_pos c1, if_pos (by omega), pours_snoc, pours_snoc]
      exact pour_mono h false (ih l j k hj c1)
    · by_cases c2 : j < cnt n l
      · rw [if_neg c1, if_pos c2, pours_snoc, pours_snoc]
        exact cross h hx _ _
      · rw [if_neg c1, if_neg c2, pours_snoc, pours_snoc]
        exact pour_mono h true (ih _ _ _ (by omega) (by omega))
theorem near_min (h : Parts p q) (hx : inU x = true) {w : Rat} {n : Nat} {l : Lf} (hc : 0 < cnt n l) : ∀ j, j < cnt n l → awK p q x w n l (nearJ p q x w n l) ≤ awK p q x w n l j ∧ (j < nearJ p q x w n l → awK p q x w n l (nearJ p q x w n l) < awK p q x w n l j) := by
  have hb := leN_le (p := p) (q := q) (x := x) n l w
  have low : ∀ i, i < leN p q x n l w → awK p q x w n l i = w - endK p q x n l i := fun i hi => by
    have := (at_iff h hx n l i w (by omega)).mpr hi
    unfold awK aw endK
    by_cases c : pours p q x (numRow n l i) < w
    · rw [if_pos c]
    · rw [if_neg c]; grind
  have high : ∀ i, leN p q x n l w ≤ i → i < cnt n l → awK p q x w n l i = endK p q x n l i - w := fun i hi hi2 => by
    have : ¬ pours p q x (numRow n l i) ≤ w := fun c => by have := (at_iff h hx n l i w hi2).mp c; omega
    unfold awK aw endK
    rw [if_neg (by grind)]
  have lt := ends_lt h hx n l
  have ek := (nearK_eq (p := p) (q := q) (x := x) (w := w) hc).1
  unfold nearK at ek
  generalize leN p q x n l w = b at *
  generalize nearJ p q x w n l = m at *
  -- below b: b - 1 is the nearest; from b on: b is
  have L : ∀ j, j < b → ∀ i, i + 1 = b → awK p q x w n l i ≤ awK p q x w n l j ∧ (j < i → awK p q x w n l i < awK p q x w n l j) := fun j hj i hi => by
    rw [low j hj, low i (by omega)]
    rcases Nat.lt_or_ge j i with c | c
    · have := lt j i c (by omega)
      exact ⟨by grind, fun _ => by grind⟩
    · have : j = i := by omega
      subst this
      exact ⟨Rat.le_refl, fun z => by omega⟩
  have R : ∀ j, b ≤ j → j < cnt n l → awK p q x w n l b ≤ awK p q x w n l j := fun j hj hj2 => by
    rw [high j hj hj2, high b (Nat.le_refl _) (by omega)]
    rcases Nat.lt_or_ge b j with c | c
    · have := lt b j c hj2
      grind
    · have : j = b := by omega
      subst this
      exact Rat.le_refl
  cases b with
  | zero =>
    have e1 : stepK p q x w n l none (((0 : Nat) : Int) - 1) = none := by unfold stepK; rw [if_neg (by omega)]
    rw [e1] at ek
    unfold stepK at ek
    rw [if_pos (by omega)] at ek
    have em : 0 = m := by simpa using ek
    subst em
    exact fun j hj => ⟨R j (Nat.zero_le _) hj, fun z => by omega⟩
  | succ b =>
    have e1 : stepK p q x w n l none (((b + 1 : Nat) : Int) - 1) = some b := by
      unfold stepK
      rw [if_pos (by omega)]
      show some (((b + 1 : Nat) : Int) - 1).toNat = some b
      congr 1
      omega
    rw [e1] at ek
    unfold stepK at ek
    by_cases c : b + 1 < cnt n l
    · rw [if_pos (by omega)] at ek
      dsimp only at ek
      rw [Int.toNat_natCast] at ek
      by_cases c2 : awK p q x w n l (b + 1) < awK p q x w n l b
      · rw [if_pos c2] at ek
        have em := Option.some.inj ek
        subst em
        intro j hj
        rcases Nat.lt_or_ge j (b + 1) with z | z
        · have := (L j z b rfl).1
          exact ⟨by grind, fun _ => by grind⟩
        · exact ⟨R j z hj, fun z2 => by omega⟩
      · rw [if_neg c2] at ek
        have em := Option.some.inj ek
        subst em
        intro j hj
        rcases Nat.lt_or_ge j (b + 1) with z | z
        · exact L j z b rfl
        · have := R j z hj
          exact ⟨by grind, fun z2 => by omega⟩
    · rw [if_neg (by omega)] at ek
      have em := Option.some.inj ek
      subst em
      intro j hj
      exact L j (by omega) b rfl
end
end DL
/-! Rows numbered: how_many, row_of, number_of, at_most. -/
namespace DL
open PySem PySem.Spec PyProof.Rows L2 PB
/-! ### the number of a row, from the last pour back -/
def numR : List Bool → Lf → Nat
  | [], _ => 0
  | w :: r, l => if w = true then cnt r.length l + numR r (dec l) else numR r l
def fits (r : List Bool) (l : Lf) : Prop := ∀ i, l = some i → i = ((r.count true : Nat) : Int)
theorem fits_none (r : List Bool) : fits r none := fun i e => by cases e
theorem fits_some (r : List Bool) : fits r (some ((r.count true : Nat) : Int)) := fun i e => by cases e; rfl
theorem fits_true {r : List Bool} {l : Lf} (h : fits (true :: r) l) : fits r (dec l) := fun i e => by
  cases l with
  | none => cases e
  | some j =>
    have := h j rfl
    rw [List.count_cons_self] at this
    have e2 : j - 1 = i := Option.some.inj e
    omega
theorem fits_false {r : List Bool} {l : Lf} (h : fits (false :: r) l) : fits r l := fun i e => by
  have := h i e
  rwa [List.count_cons_of_ne (by decide)] at this
theorem numR_lt : ∀ (r : List Bool) (l : Lf), fits r l → numR r l < cnt r.length l
  | [], l, h => by
    show 0 < cnt 0 l
    rw [cnt_zero]
    cases l with
    | none => rw [if_pos (.inl rfl)]; decide
    | some i =>
      have := h i rfl
      have e : i = 0 := this
      rw [e, if_pos (.inr rfl)]; decide
  | true :: r, l, h => by
    have ih := numR_lt r (dec l) (fits_true h)
    rw [List.length_cons, cnt_succ]
    show (if true = true then cnt r.length l + numR r (dec l) else _) < _
    rw [if_pos rfl]; omega
  | false :: r, l, h => by
    have ih := numR_lt r l (fits_false h)
    rw [List.length_cons, cnt_succ]
    show (if false = true then _ else numR r l) < _
    rw [if_neg (by decide)]; omega
theorem numRow_numR : ∀ (r : List Bool) (l : Lf), fits r l → numRow r.length l (numR r l) = r.reverse
  | [], l, h => rfl
  | true :: r, l, h => by
    have ih := numRow_numR r (dec l) (fits_true h)
    show (if numR (true :: r) l < cnt r.length l then _ else numRow r.length (dec l) (numR (true :: r) l - cnt r.length l) ++ [true]) = _
    have e : numR (true :: r) l = cnt r.length l + numR r (dec l) := if_pos rfl
    rw [if_neg (by omega), e, Nat.add_sub_cancel_left, ih, List.reverse_cons]
  | false :: r, l, h => by
    have ih := numRow_numR r l (fits_false h)
    have hl := numR_lt r l (fits_false h)
    show (if numR (false :: r) l < cnt r.length l then numRow r.length l (numR (false :: r) l) ++ [false] else _) = _
    have e : numR (false :: r) l = numR r l := if_neg (by decide)
    rw [if_pos (by omega), e, ih, List.reverse_cons]
theorem numR_numRow : ∀ (n : Nat) (l : Lf) (j : Nat), j < cnt n l → numR (numRow n l j).reverse l = j ∧ fits (numRow n l j) l
  | 0, l, j, h => by
    rw [cnt_zero] at h
    split at h
    · rename_i c
      refine ⟨by show 0 = j; omega, fun i e => ?_⟩
      rcases c with c | c
      · rw [c] at e; cases e
      · rw [c] at e; cases e; rfl
    · omega
  | n + 1, l, j, h => by
    rw [cnt_succ] at h
    show numR (if j < cnt n l then _ else _ : List Bool).reverse l = j ∧ fits (if j < cnt n l then _ else _) l
    by_cases c : j < cnt n l
    · rw [if_pos c, List.reverse_append]
      obtain ⟨h1, h2⟩ := numR_numRow n l j c
      refine ⟨?_, fun i e => ?_⟩
      · show numR (false :: (numRow n l j).reverse) l = j
        rw [show numR (false :: (numRow n l j).reverse) l = numR (numRow n l j).reverse l from if_neg (by decide), h1]
      · rw [h2 i e, List.count_append]; rfl
    · rw [if_neg c, List.reverse_append]
      obtain ⟨h1, h2⟩ := numR_numRow n (dec l) (j - cnt n l) (by omega)
      refine ⟨?_, fun i e => ?_⟩
      · show numR (true :: (numRow n (dec l) (j - cnt n l)).reverse) l = j
        rw [show numR (true :: (numRow n (dec l) (j - cnt n l)).reverse) l = cnt (numRow n (dec l) (j - cnt n l)).reverse.length l + numR (numRow n (dec l) (j - cnt n l)).reverse (dec l) from if_pos rfl, h1, List.length_reverse, numRow_len]
        omega
      · have := h2 (i - 1) (by rw [e]; rfl)
        rw [List.count_append]
        show i = (((numRow n (dec l) (j - cnt n l)).count true + 1 : Nat) : Int)
        omega
def rowNum (r : List Bool) (l : Lf) : Nat := numR r.reverse l
theorem fits_rev {r : List Bool} {l : Lf} (h : fits r l) : fits r.reverse l := fun i e => by rw [List.count_reverse]; exact h i e
theorem rowNum_lt {r : List Bool} {l : Lf} (h : fits r l) : rowNum r l < cnt r.length l := by
  have := numR_lt r.reverse l (fits_rev h)
  rwa [List.length_reverse] at this
theorem numRow_rowNum {r : List Bool} {l : Lf} (h : fits r l) : numRow r.length l (rowNum r l) = r := by
  have := numRow_numR r.reverse l (fits_rev h)
  rwa [List.length_reverse, List.reverse_reverse] at this
theorem rowNum_numRow {n : Nat} {l : Lf} {j : Nat} (h : j < cnt n l) : rowNum (numRow n l j) l = j ∧ fits (numRow n l j) l := numR_numRow n l j h
theorem fits_lok {r : List Bool} {l : Lf} (h : fits r l) : Lok r.length l := fun i e => by
  have := h i e
  have := List.count_le_length (a := true) (l := r)
  omega
/-! ### count of a row -/
def wdS (b : Bool) : Str := if b then "left" else "right"
theorem cnt_wd : ∀ r : List Bool, r.map wd = (r.map wdS).map D.str ∧ cntS "left" (r.map wdS) = r.count true
  | [] => ⟨rfl, rfl⟩
  | b :: r => by
    obtain ⟨h1, h2⟩ := cnt_wd r
    have hl : (("left" : Str).cps.toList == ("left" : Str).cps.toList) = true := beq_self_eq_true _
    have hr : (("right" : Str).cps.toList == ("left" : Str).cps.toList) = false := by decide +kernel
    unfold cntS at h2 ⊢
    cases b with
    | true =>
      refine ⟨by rw [List.map_cons, List.map_cons, List.map_cons, ← h1]; rfl, ?_⟩
      rw [List.map_cons, List.countP_cons_of_pos (p := fun s : Str => s.cps.toList == ("left" : Str).cps.toList) (show (fun s : Str => s.cps.toList == ("left" : Str).cps.toList) (wdS true) = true from hl), h2, List.count_cons_self]
    | false =>
      refine ⟨by rw [List.map_cons, List.map_cons, List.map_cons, ← h1]; rfl, ?_⟩
      rw [List.map_cons, List.countP_cons_of_neg (p := fun s : Str => s.cps.toList == ("left" : Str).cps.toList) (show ¬ (fun s : Str => s.cps.toList == ("left" : Str).cps.toList) (wdS false) = true from fun z => Bool.noConfusion (hr.symm.trans z)), h2, List.count_cons_of_ne (by decide)]
theorem cnt_of {r : List Bool} {k : D → Prop} (h : k (.int ((r.count true : Nat) : Int))) : dCnt (rw_ r) (.str "left") k := by
  obtain ⟨h1, h2⟩ := cnt_wd r
  unfold dCnt
  exact ⟨r.map wdS, h1, by rw [h2]; exact h⟩
/-! ### how_many, row_of -/
abbrev N_how_many : List Str := ["many", "lefts"]
def t_how_many (er : Er) : DS :=
  (dSeq (dDrop (dCall (sp_need_many er) (dCons (dVar 0) (dCons (dVar 1) dNil))))
    (dRet (dCall sp_count (dCons (dVar 0) (dCons (dVar 1) dNil)))))

@[irreducible] def sp_how_many (er : Er) : DSp := fun ds k kx => ∃ (d e : D), ds = [d, e] ∧ d.plain = true ∧ e.plain = true ∧ (within d 0 40 = false → kx er.NoMany) ∧ (∀ n : Nat, d = .int n → n ≤ 40 → e ≠ .non → within e 0 n = false → kx er.NoLefts) ∧
  (∀ (n : Nat) (l : Lf), d = .int n → e = dlf l → n ≤ 40 → Lok n l → k (.int (cnt n l : Nat)))
theorem len_how_many (er : Er) : ∀ ds k kx, sp_how_many er ds k kx → ds.length = 2 := by
  intro _ _ _ h
  unfold sp_how_many at h
  obtain ⟨_, _, rfl, _⟩ := h; rfl
theorem pure_how_many (er : Er) (ds : List D) (k : D → Prop) (kx : Addr → Prop) (h : sp_how_many er ds k kx) : t_how_many er { nx := fun _ => k .non, rt := k, ex := kx } (dstart N_how_many ds) := by
  unfold sp_how_many at h
  obtain ⟨d, e, rfl, hd, he, h1, h2, h3⟩ := h
  refine ⟨d, e, rfl, hd, he, h1, h2, fun im => ?_⟩
  obtain ⟨n, l, rfl, rfl, hn, hl⟩ := im
  exact ⟨n, l, rfl, by omega, h3 n l rfl rfl hn hl⟩
theorem lok_within {n : Nat} {l : Lf} (hl : Lok n l) {m : Nat} (e : (D.int n) = .int (m : Nat)) (ne : dlf l ≠ .non) (c : within (dlf l) 0 m = false) : False := by
  injection e with e
  cases l with
  | none => exact ne rfl
  | some i =>
    have := hl i rfl
    rw [show within (dlf (some i)) 0 (m : Nat) = true from within_true (by omega) (by omega)] at c; cases c
theorem how_many_ok {er : Er} {n : Nat} {l : Lf} {k : D → Prop} {kx : Addr → Prop} (hn : n ≤ 40) (hl : Lok n l) (h : k (.int (cnt n l : Nat))) : sp_how_many er [.int (n : Nat), dlf l] k kx := by
  unfold sp_how_many
  refine ⟨_, _, rfl, rfl, dlf_plain l, fun e => ?_, fun m em hm ne e => (lok_within hl em ne e).elim, fun n' l' e1 e2 _ _ => ?_⟩
  · rw [within_true (by omega) (by omega)] at e; cases e
  · injection e1 with e1
    have e1 : n = n' := by omega
    subst e1
    obtain rfl := dlf_inj e2
    exact h
abbrev N_row_of : List Str := ["many", "lefts", "number"]
def t_row_of (er : Er) : DS :=
  (dSeq (dDrop (dCall (sp_need_many er) (dCons (dVar 0) (dCons (dVar 1) dNil))))
    (dSeq (dIfS (dNot (dB (dCall sp_is_within (dCons (dVar 2) (dCons (dC (.int 0)) (dCons (dSub (dCall sp_count (dCons (dVar 0) (dCons (dVar 1) dNil))) (dC (.int 1))) dNil)))))) (dRaise er.NoNumber) dNext)
    (dRet (dCall sp_numbered (dCons (dVar 0) (dCons (dVar 1) (dCons (dVar 2) dNil)))))))

@[irreducible] def sp_row_of (er : Er) : DSp := fun ds k kx => ∃ (d e f : D), ds = [d, e, f] ∧ d.plain = true ∧ e.plain = true ∧ f.plain = true ∧ (within d 0 40 = false → kx er.NoMany) ∧ (∀ n : Nat, d = .int n → n ≤ 40 → e ≠ .non → within e 0 n = false → kx er.NoLefts) ∧
  (∀ (n : Nat) (l : Lf), d = .int n → e = dlf l → n ≤ 40 → Lok n l → (within f 0 ((cnt n l : Nat) - 1) = false → kx er.NoNumber) ∧ ∀ j : Nat, f = .int j → j < cnt n l → k (rw_ (numRow n l j)))
theorem len_row_of (er : Er) : ∀ ds k kx, sp_row_of er ds k kx → ds.length = 3 := by
  intro _ _ _ h
  unfold sp_row_of at h
  obtain ⟨_, _, _, rfl, _⟩ := h; rfl
theorem pure_row_of (er : Er) (ds : List D) (k : D → Prop) (kx : Addr → Prop) (h : sp_row_of er ds k kx) : t_row_of er { nx := fun _ => k .non, rt := k, ex := kx } (dstart N_row_of ds) := by
  unfold sp_row_of at h
  obtain ⟨d, e, f, rfl, hd, he, hf, h1, h2, h3⟩ := h
  refine ⟨d, e, rfl, hd, he, h1, h2, fun im => ?_⟩
  obtain ⟨n, l, rfl, rfl, hn, hl⟩ := im
  obtain ⟨h4, h5⟩ := h3 n l rfl rfl hn hl
  refine ⟨n, l, rfl, by omega, ?_⟩
  refine ⟨f, 0, (cnt n l : Nat) - 1, rfl, plain_ok hf, ?_⟩
  show if (!within f 0 ((cnt n l : Nat) - 1)) = true then _ else _
  cases c : within f 0 ((cnt n l : Nat) - 1) with
  | false => exact iteT (h4 c)
  | true =>
    refine iteF ?_
    obtain ⟨i, rfl, i0, i1⟩ := within_get c
    obtain ⟨j, rfl⟩ : ∃ j : Nat, i = j := ⟨i.toNat, by omega⟩
    exact ⟨n, l, j, rfl, by omega, h5 j rfl (by omega)⟩
theorem row_of_ok {er : Er} {n : Nat} {l : Lf} {j : Nat} {k : D → Prop} {kx : Addr → Prop} (hn : n ≤ 40) (hl : Lok n l) (hj : j < cnt n l) (h : k (rw_ (numRow n l j))) : sp_row_of er [.int (n : Nat), dlf l, .int (j : Nat)] k kx := by
  unfold sp_row_of
  refine ⟨_, _, _, rfl, rfl, dlf_plain l, rfl, fun e => ?_, fun m em hm ne e => (lok_within hl em ne e).elim, fun n' l' e1 e2 _ _ => ?_⟩
  · rw [within_true (by omega) (by omega)] at e; cases e
  · injection e1 with e1
    have e1 : n = n' := by omega
    subst e1
    obtain rfl := dlf_inj e2
    refine ⟨fun e => ?_, fun j' e3 _ => ?_⟩
    · rw [within_true (by omega) (by omega)] at e; cases e
    · injection e3 with e3
      have e3 : j = j' := by omega
      subst e3
      exact h
/-! ### number_of -/
def lfOf (b : Bool) (r : List Bool) : Lf := if b then none else some ((r.count true : Nat) : Int)
theorem fits_lfOf (b : Bool) (r : List Bool) : fits r (lfOf b r) := by
  cases b with
  | true => exact fits_none r
  | false => exact fits_some r
abbrev N_number_of : List Str := ["row", "any_lefts", "place", "lefts", "found"]
def t_number_of (er : Er) : DS :=
  (dSeq (dDrop (dCall (sp_need_row er) (dCons (dVar 0) dNil)))
    (dSeq (dIfS (dNot (dB (dIsi "bool" (dVar 1)))) (dRaise er.NoLefts) dNext)
    (dSeq (dPar 3 4 (dIf (dB (dVar 1)) (dC .non) (dOp dCnt (dVar 0) (dC (.str "left")))) (dC (.int 0)))
    (dSeq (dFor (dItR3 (dSub (dC1 cLen (dVar 0)) (dC (.int 1))) (dNeg (dC (.int 1))) (dNeg (dC (.int 1)))) (gN 2)
    (dIfS (dB (dOp dEq (dOp dIx (dVar 0) (dVar 2)) (dC (.str "left")))) (dSeq (dSet 4 (dAdd (dVar 4) (dCall sp_count (dCons (dVar 2) (dCons (dVar 3) dNil)))))
    (dSet 3 (dIf (dB (dIsN (dVar 3))) (dC .non) (dSub (dVar 3) (dC (.int 1)))))) dNext))
    (dRet (dVar 4))))))

@[irreducible] def sp_number_of (er : Er) : DSp := fun ds k kx => ∃ (d e : D), ds = [d, e] ∧ d.plain = true ∧ short d ∧ e.plain = true ∧ (¬ IsRow d → kx er.NoRow) ∧ (IsRow d → e.isBl = false → kx er.NoLefts) ∧
  (∀ (r : List Bool) (b : Bool), d = rw_ r → r.length ≤ 40 → e = .bl b → k (.int (rowNum r (lfOf b r) : Nat)))
theorem len_number_of (er : Er) : ∀ ds k kx, sp_number_of er ds k kx → ds.length = 2 := by
  intro _ _ _ h
  unfold sp_number_of at h
  obtain ⟨_, _, rfl, _⟩ := h; rfl
theorem take_rev {r : List Bool} {i : Nat} {w : Bool} (h : r[i]? = some w) : (r.take (i + 1)).reverse = w :: (r.take i).reverse := by
  rw [take_snoc h, List.reverse_append]; rfl
theorem pure_number_of (er : Er) (ds : List D) (k : D → Prop) (kx : Addr → Prop) (h : sp_number_of er ds k kx) : t_number_of er { nx := fun _ => k .non, rt := k, ex := kx } (dstart N_number_of ds) := by
  unfold sp_number_of at h
  obtain ⟨d, e, rfl, hd, hs, he, h1, h2, h3⟩ := h
  refine ⟨d, rfl, hd, hs, fun ir => ?_, h1⟩
  refine dIsi_of (isi_bool (plain_ok he)) ?_
  show if (!e.isBl) = true then _ else _
  cases c : e.isBl with
  | false => exact iteT (h2 ir c)
  | true =>
    refine iteF ?_
    obtain ⟨b, rfl⟩ : ∃ b, e = .bl b := by cases e <;> first | exact ⟨_, rfl⟩ | (cases c; done)
    obtain ⟨r, rfl, hr⟩ := ir
    have h := h3 r b rfl hr rfl
    have key : ∀ δ : Dst, δ = [some (rw_ r), some (.bl b), none, some (dlf (lfOf b r)), some (.int ((0 : Nat) : Int))] → (dSeq (dFor (dItR3 (dSub (dC1 cLen (dVar 0)) (dC (.int 1))) (dNeg (dC (.int 1))) (dNeg (dC (.int 1)))) (gN 2)
        (dIfS (dB (dOp dEq (dOp dIx (dVar 0) (dVar 2)) (dC (.str "left")))) (dSeq (dSet 4 (dAdd (dVar 4) (dCall sp_count (dCons (dVar 2) (dCons (dVar 3) dNil)))))
        (dSet 3 (dIf (dB (dIsN (dVar 3))) (dC .non) (dSub (dVar 3) (dC (.int 1)))))) dNext))
        (dRet (dVar 4))) { nx := fun _ => k .non, rt := k, ex := kx } δ := by
      rintro δ rfl
      have hlen : ((r.map wd).length : Int) = (r.length : Int) := by rw [List.length_map]
      show (_ ∧ _ ≤ (((r.map wd).length : Nat) : Int) - 1 ∧ (((r.map wd).length : Nat) : Int) - 1 < _ ∧ _ ∧ _) ∧ _
      rw [hlen]
      refine ⟨⟨rfl, by omega, by omega, by decide, by decide⟩, ?_⟩
      have en : ((r.length : Int) - 1 - -1).toNat = r.length := by omega
      rw [en]
      refine ⟨fun i δ => i ≤ r.length ∧ ∃ z l' f, δ = [some (rw_ r), some (.bl b), z, some (dlf l'), some (.int (f : Nat))] ∧ f + rowNum (r.take (r.length - i)) l' = rowNum r (lfOf b r), ⟨Nat.zero_le _, none, _, 0, rfl, by rw [Nat.sub_zero, List.take_length]; exact Nat.zero_add _⟩, ?_, ?_⟩
      · rintro i d δ' hd ⟨hi, z, l', f, rfl, hf⟩
        unfold dnD at hd
        obtain ⟨j, hj, rfl⟩ := map_get hd
        have hlt : i < r.length := by
          have := (List.getElem?_eq_some_iff.mp hj).1
          rwa [List.length_range] at this
        rw [List.getElem?_range hlt] at hj
        cases hj
        obtain ⟨m, hm⟩ : ∃ m, m + 1 + i = r.length := ⟨r.length - 1 - i, by omega⟩
        have em : (r.length : Int) - 1 + (i : Int) * -1 = (m : Int) := by omega
        have e1 : r.length - i = m + 1 := by omega
        have e2 : r.length - (i + 1) = m := by omega
        rw [em]
        rw [e1] at hf
        obtain ⟨w, hw⟩ : ∃ w, r[m]? = some w := ⟨r[m], List.getElem?_eq_getElem (by omega)⟩
        have hat : atI (r.map wd) (m : Int) = some (wd w) := atI_nat (by rw [List.getElem?_map, hw]; rfl)
        refine ixT_of hat ?_
        refine eq_of (wd_shp w) str_shpL (wd_eqL w) ?_
        unfold rowNum at hf
        rw [take_rev hw] at hf
        have hl : (r.take m).reverse.length = m := by rw [List.length_reverse, List.length_take]; omega
        cases w with
        | true =>
          refine iteT ?_
          rw [show numR (true :: (r.take m).reverse) l' = cnt (r.take m).reverse.length l' + numR (r.take m).reverse (dec l') from if_pos rfl, hl] at hf
          refine ⟨m, l', rfl, by omega, ?_⟩
          cases l' with
          | none =>
            refine ⟨by omega, _, none, f + cnt m none, rfl, ?_⟩
            rw [e2]; show f + cnt m none + numR _ none = numR _ _; rw [← hf]; show f + cnt m none + numR _ none = f + (cnt m none + numR _ none); omega
          | some l2 =>
            refine ⟨by omega, _, some (l2 - 1), f + cnt m (some l2), rfl, ?_⟩
            rw [e2]; show f + cnt m (some l2) + numR _ (some (l2 - 1)) = numR _ _; rw [← hf]; show f + cnt m (some l2) + numR _ (some (l2 - 1)) = f + (cnt m (some l2) + numR _ (some (l2 - 1))); omega
        | false =>
          refine iteF ⟨by omega, _, l', f, rfl, ?_⟩
          rw [e2]
          exact hf
      · rintro δ' ⟨hi, z, l', f, rfl, hf⟩
        have el : (dnD ((r.length : Int) - 1) r.length).length = r.length := by unfold dnD; rw [List.length_map, List.length_range]
        rw [el, Nat.sub_self, List.take_zero] at hf
        have : f = rowNum r (lfOf b r) := hf
        rw [← this] at h
        exact h
    cases b with
    | true => exact key _ rfl
    | false =>
      show dCnt (rw_ r) (.str "left") _
      refine cnt_of ?_
      exact key _ rfl
theorem number_of_ok {er : Er} {r : List Bool} {b : Bool} {k : D → Prop} {kx : Addr → Prop} (hr : r.length ≤ 40) (h : k (.int (rowNum r (lfOf b r) : Nat))) : sp_number_of er [rw_ r, .bl b] k kx := by
  unfold sp_number_of
  refine ⟨_, _, rfl, rw_plain r, short_rw hr, rfl, fun n => absurd ⟨r, rfl, hr⟩ n, fun _ e => (by cases e), fun r' b' e1 _ e2 => ?_⟩
  obtain rfl := rw_inj e1
  injection e2 with e2
  subst e2
  exact h
/-! ### at_most -/
abbrev N_at_most : List Str := ["parts", "share", "many", "lefts", "wished"]
def t_at_most (er : Er) : DS :=
  (dSeq (dDrop (dCall (sp_need_parts er) (dCons (dVar 0) dNil)))
    (dSeq (dDrop (dCall (sp_need_share er) (dCons (dVar 1) dNil)))
    (dSeq (dDrop (dCall (sp_need_many er) (dCons (dVar 2) (dCons (dVar 3) dNil))))
    (dSeq (dDrop (dCall (sp_need_share er) (dCons (dVar 4) dNil)))
    (dRet (dCall sp_ending_at_most (dCons (dVar 0) (dCons (dVar 1) (dCons (dVar 2) (dCons (dVar 3) (dCons (dVar 4) dNil)))))))))))

@[irreducible] def sp_at_most (er : Er) : DSp := fun ds k kx => ∃ (d1 d2 d3 d4 d5 : D), ds = [d1, d2, d3, d4, d5] ∧ (d1.plain = true ∧ d2.plain = true ∧ d3.plain = true ∧ d4.plain = true ∧ d5.plain = true) ∧
  (¬ IsParts d1 → kx er.NoParts) ∧ (IsParts d1 → ¬ IsShare d2 → kx er.NoShare) ∧ (IsParts d1 → IsShare d2 → within d3 0 40 = false → kx er.NoMany) ∧ (IsParts d1 → IsShare d2 → ∀ n : Nat, d3 = .int n → n ≤ 40 → d4 ≠ .non → within d4 0 n = false → kx er.NoLefts) ∧
  (IsParts d1 → IsShare d2 → IsMany d3 d4 → ¬ IsShare d5 → kx er.NoShare) ∧
  ∀ p q x n l w, d1 = pts p q → Parts p q → d2 = fr x → Share x → d3 = .int (n : Nat) → d4 = dlf l → n ≤ 40 → Lok n l → d5 = fr w → Share w → k (.int (leN p q x n l w : Nat))
theorem len_at_most (er : Er) : ∀ ds k kx, sp_at_most er ds k kx → ds.length = 5 := by
  intro _ _ _ h
  unfold sp_at_most at h
  obtain ⟨_, _, _, _, _, rfl, _⟩ := h; rfl
theorem pure_at_most (er : Er) (ds : List D) (k : D → Prop) (kx : Addr → Prop) (h : sp_at_most er ds k kx) : t_at_most er { nx := fun _ => k .non, rt := k, ex := kx } (dstart N_at_most ds) := by
  unfold sp_at_most at h
  obtain ⟨d1, d2, d3, d4, d5, rfl, ⟨p1, p2, p3, p4, p5⟩, e1, e2, e3, e4, e5, h⟩ := h
  refine ⟨d1, rfl, p1, fun i1 => ?_, fun n1 => e1 n1⟩
  refine ⟨d2, rfl, p2, fun i2 => ?_, fun n2 => e2 i1 n2⟩
  refine ⟨d3, d4, rfl, p3, p4, fun c => e3 i1 i2 c, fun n en hn ne c => e4 i1 i2 n en hn ne c, fun im => ?_⟩
  refine ⟨d5, rfl, p5, fun i5 => ?_, fun n5 => e5 i1 i2 im n5⟩
  obtain ⟨p, q, rfl, hpq⟩ := i1
  obtain ⟨x, rfl, hx⟩ := i2
  obtain ⟨n, l, rfl, rfl, hn, hl⟩ := im
  obtain ⟨w, rfl, hw⟩ := i5
  exact ending_ok hpq hx hn hl hw (h p q x n l w rfl hpq rfl hx rfl rfl hn hl rfl hw)
theorem at_most_ok {er : Er} {p q x w : Rat} {n : Nat} {l : Lf} {k : D → Prop} {kx : Addr → Prop} (hpq : Parts p q) (hx : Share x) (hn : n ≤ 40) (hl : Lok n l) (hw : Share w) (h : k (.int (leN p q x n l w : Nat))) : sp_at_most er [pts p q, fr x, .int (n : Nat), dlf l, fr w] k kx := by
  unfold sp_at_most
  refine ⟨_, _, _, _, _, rfl, ⟨pts_plain p q, fr_plain x, rfl, dlf_plain l, fr_plain w⟩, fun e => absurd ⟨p, q, rfl, hpq⟩ e, fun _ e => absurd ⟨x, rfl, hx⟩ e, fun _ _ e => ?_, fun _ _ m em hm ne e => (lok_within hl em ne e).elim, fun _ _ _ e => absurd ⟨w, rfl, hw⟩ e, fun p' q' x' n' l' w' e1 _ e2 _ e3 e4 _ _ e5 _ => ?_⟩
  · rw [within_true (by omega) (by omega)] at e; cases e
  · obtain ⟨rfl, rfl⟩ := pts_inj e1
    obtain rfl := fr_inj e2
    injection e3 with e3
    have e3 : n = n' := by omega
    subst e3
    obtain rfl := dlf_inj e4
    obtain rfl := fr_inj e5
    exact h
end DL
/-! Kept tubs, read: share, poured. -/
namespace DL
open PySem PySem.Spec PyProof.Rows L2 PB
abbrev N_kept_share : List Str := ["self"]
def t_kept_share (er : Er) : DS :=
  (dRet (dOp dIx (dFld er.Kept "past" (dVar 0)) (dNeg (dC (.int 1)))))

def sp_kept_share (er : Er) : DSp := fun ds k _ => ∃ (d1 d3 : D) (past : List D) (y : D), ds = [.ins er.Kept kF [d1, .lst (past ++ [y]), d3]] ∧ k y
theorem len_kept_share (er : Er) : ∀ ds k kx, sp_kept_share er ds k kx → ds.length = 1 := by
  intro _ _ _ h
  unfold sp_kept_share at h
  obtain ⟨_, _, _, _, rfl, _⟩ := h; rfl
theorem last_at (past : List D) (y : D) : atI (past ++ [y]) (-1) = some y := by
  unfold atI
  have : ixN (past ++ [y]).length (-1) = some past.length := by
    rw [List.length_append]
    show ixN (past.length + 1) (-1) = some past.length
    unfold ixN
    simp
    omega
  rw [this]
  show (past ++ [y])[past.length]? = some y
  rw [List.getElem?_append_right (Nat.le_refl _), Nat.sub_self]; rfl
theorem pure_kept_share (er : Er) (ds : List D) (k : D → Prop) (kx : Addr → Prop) (h : sp_kept_share er ds k kx) : t_kept_share er { nx := fun _ => k .non, rt := k, ex := kx } (dstart N_kept_share ds) := by
  obtain ⟨d1, d3, past, y, rfl, h⟩ := h
  refine ⟨rfl, _, rfl, ?_⟩
  show (match atI (past ++ [y]) (-1) with | some d => k d | none => False)
  rw [last_at]; exact h
def sumA : Rat → List Rat → Rat → Rat
  | _, [], s => s
  | a, b :: r, s => sumA b r (s + aw b a)
abbrev N_kept_poured : List Str := ["self", "found", "one", "other"]
def t_kept_poured (er : Er) : DS :=
  (dSeq (dSet 1 (dTup (dCons (dC (.int 0)) (dCons (dC (.int 1)) dNil))))
    (dSeq (dFor (dItZ (dFld er.Kept "past" (dVar 0)) (dSl (dFld er.Kept "past" (dVar 0)) (dSome (dC (.int 1))) dNo)) (gTp 2 (gCn (gN 2) (gCn (gN 3) gNl)))
    (dSet 1 (dCall sp_plus (dCons (dVar 1) (dCons (dIf (dB (dCall sp_is_less (dCons (dVar 2) (dCons (dVar 3) dNil)))) (dCall sp_minus (dCons (dVar 3) (dCons (dVar 2) dNil))) (dCall sp_minus (dCons (dVar 2) (dCons (dVar 3) dNil)))) dNil)))))
    (dRet (dVar 1))))

def sp_kept_poured (er : Er) : DSp := fun ds k _ => ∃ (d1 d3 : D) (x : Rat) (xs : List Rat), ds = [.ins er.Kept kF [d1, .lst ((x :: xs).map fr), d3]] ∧ xs.length ≤ 10 ∧ (∀ y ∈ x :: xs, sz y 100) ∧ k (fr (sumA x xs 0))
theorem len_kept_poured (er : Er) : ∀ ds k kx, sp_kept_poured er ds k kx → ds.length = 1 := by
  intro _ _ _ h
  unfold sp_kept_poured at h
  obtain ⟨_, _, _, _, rfl, _⟩ := h; rfl
theorem zip_tail {α : Type} (x : α) (xs : List α) {i : Nat} {a b : α} (h1 : (x :: xs)[i]? = some a) (h2 : xs[i]? = some b) : (x :: xs).drop i = a :: b :: xs.drop (i + 1) := by
  have hb : (x :: xs)[i + 1]? = some b := h2
  have l1 : i < (x :: xs).length := (List.getElem?_eq_some_iff.mp h1).1
  have l2 : i + 1 < (x :: xs).length := (List.getElem?_eq_some_iff.mp hb).1
  rw [List.drop_eq_getElem_cons l1, List.drop_eq_getElem_cons l2]
  have e1 : (x :: xs)[i] = a := (List.getElem?_eq_some_iff.mp h1).2
  have e2 : (x :: xs)[i + 1] = b := (List.getElem?_eq_some_iff.mp hb).2
  rw [e1, e2]; rfl
theorem pure_kept_poured (er : Er) (ds : List D) (k : D → Prop) (kx : Addr → Prop) (h : sp_kept_poured er ds k kx) : t_kept_poured er { nx := fun _ => k .non, rt := k, ex := kx } (dstart N_kept_poured ds) := by
  obtain ⟨d1, d3, x, xs, rfl, hl, hs, h⟩ := h
  refine ⟨rfl, _, rfl, rfl, _, rfl, ?_⟩
  have ec : cutD ((x :: xs).map fr) (some 1) none = xs.map fr := by
    rw [show (1 : Int) = ((1 : Nat) : Int) from rfl, cut_drop]; rfl
  show ∃ Pv : Nat → Dst → Prop, Pv 0 _ ∧ (∀ i d δ', (zipD ((x :: xs).map fr) (cutD ((x :: xs).map fr) (some 1) none))[i]? = some d → _) ∧ ∀ δ', Pv (zipD ((x :: xs).map fr) (cutD ((x :: xs).map fr) (some 1) none)).length δ' → _
  rw [ec]
  refine ⟨fun i δ => ∃ (s a : Rat) (z2 z3 : Option D), δ = [some (.ins er.Kept kF [d1, .lst ((x :: xs).map fr), d3]), some (fr s), z2, z3] ∧ sz s (1 + 300 * i) ∧ (x :: xs)[i]? = some a ∧ sumA a (xs.drop i) s = sumA x xs 0, ⟨0, x, none, none, rfl, sz_zero, rfl, rfl⟩, ?_, ?_⟩
  · rintro i d δ' hd ⟨s, a, z2, z3, rfl, h1, h2, h3⟩
    obtain ⟨u, v, hu, hv, rfl⟩ := zipD_get hd
    obtain ⟨a', ha', rfl⟩ := map_get hu
    obtain ⟨b, hb, rfl⟩ := map_get hv
    rw [h2] at ha'
    cases ha'
    have hi : i < xs.length := (List.getElem?_eq_some_iff.mp hb).1
    have sa := hs a (List.mem_of_getElem? h2)
    have sb := hs b (List.mem_cons_of_mem _ (List.mem_of_getElem? hb))
    have fa : Fit a := sa.mono (by decide)
    have fb : Fit b := sb.mono (by decide)
    have sw : sz (aw b a) 201 := by
      unfold aw
      split
      · exact sz_sub sa sb
      · exact sz_sub sb sa
    refine ⟨rfl, a, b, rfl, fa, fb, ?_⟩
    have nxt : (dCall sp_plus (fun δ k kx => k [fr s, fr (aw b a)])) [] (fun d => ∃ (s' a' : Rat) (z2 z3 : Option D), [some (.ins er.Kept kF [d1, .lst ((x :: xs).map fr), d3]), some d, some (fr a), some (fr b)] = [some (.ins er.Kept kF [d1, .lst ((x :: xs).map fr), d3]), some (fr s'), z2, z3] ∧ sz s' (1 + 300 * (i + 1)) ∧ (x :: xs)[i + 1]? = some a' ∧ sumA a' (xs.drop (i + 1)) s' = sumA x xs 0) kx := by
      refine ⟨s, aw b a, rfl, h1.mono (by omega), sw.mono (by decide), s + aw b a, b, _, _, rfl, (sz_add h1 sw).mono (by omega), hb, ?_⟩
      have e : xs.drop i = b :: xs.drop (i + 1) := by
        rw [List.drop_eq_getElem_cons hi]
        rw [(List.getElem?_eq_some_iff.mp hb).2]
      rw [e] at h3
      exact h3
    show if decide (a < b) = true then _ else _
    unfold aw at nxt
    refine iteB (fun c => ?_) (fun c => ?_)
    · have c := of_decide_eq_true c
      rw [if_neg (by grind)] at nxt
      exact ⟨b, a, rfl, fb, fa, nxt⟩
    · have c := of_decide_eq_false c
      by_cases c2 : b < a
      · rw [if_pos c2] at nxt
        exact ⟨a, b, rfl, fa, fb, nxt⟩
      · rw [if_neg c2] at nxt
        have e : a - b = b - a := by grind
        refine ⟨a, b, rfl, fa, fb, ?_⟩
        rw [e]; exact nxt
  · rintro δ' ⟨s, a, z2, z3, rfl, h1, h2, h3⟩
    have el : (zipD ((x :: xs).map fr) (xs.map fr)).length = xs.length := by unfold zipD; simp
    rw [el, List.drop_length] at h3
    have : s = sumA x xs 0 := h3
    rw [← this] at h
    exact h
end DL
namespace DL
open PySem PySem.Spec PyProof.Rows L2 PB
/-! ### numbers by twos -/
def tw (n k : Nat) : List Bool := (List.range n).map fun j => decide (k / 2 ^ j % 2 = 1)
theorem tw_succ (n k : Nat) : tw (n + 1) k = tw n k ++ [decide (k / 2 ^ n % 2 = 1)] := by
  unfold tw; rw [List.range_succ, List.map_append]; rfl
theorem numRow_tw : ∀ (n k : Nat), k < 2 ^ n → numRow n none k = tw n k
  | 0, k, h => rfl
  | n + 1, k, h => by
    rw [tw_succ]
    show (if k < 2 ^ n then numRow n none k ++ [false] else numRow n none (k - 2 ^ n) ++ [true]) = _
    by_cases c : k < 2 ^ n
    · rw [if_pos c, numRow_tw n k c, Nat.div_eq_of_lt c]; rfl
    · have hk : k - 2 ^ n < 2 ^ n := by rw [Nat.pow_succ] at h; omega
      rw [if_neg c, numRow_tw n (k - 2 ^ n) hk]
      have e1 : k / 2 ^ n = 1 := by
        have h1 : k = 2 ^ n * 1 + (k - 2 ^ n) := by omega
        rw [h1, Nat.mul_add_div (Nat.two_pow_pos n), Nat.div_eq_of_lt (by omega)]
      rw [e1]
      congr 1
      unfold tw
      apply List.map_congr_left
      intro j hj
      have hj := List.mem_range.mp hj
      have e2 : 2 ^ n = 2 ^ j * (2 * 2 ^ (n - j - 1)) := by
        rw [← Nat.pow_succ', ← Nat.pow_add]; congr 1; omega
      have e3 : (k - 2 ^ n) / 2 ^ j = k / 2 ^ j - 2 * 2 ^ (n - j - 1) := by rw [e2, Nat.sub_mul_div]
      have e4 : 2 * 2 ^ (n - j - 1) ≤ k / 2 ^ j := by
        rw [Nat.le_div_iff_mul_le (Nat.two_pow_pos j), Nat.mul_comm, ← e2]; omega
      rw [e3]
      congr 1
      have : (k / 2 ^ j - 2 * 2 ^ (n - j - 1)) % 2 = k / 2 ^ j % 2 := by omega
      rw [this]
abbrev N_law_twos : List Str := ["number", "many", "row", "turn"]
def t_law_twos : DS :=
  (dSeq (dSet 2 (dTup dNil))
    (dSeq (dFor (dItR1 (dVar 1)) (gN 3)
    (dSeq (dSet 2 (dOp dCat (dTup (dCons (dOp dIx (dLst (dCons (dC (.str "right")) (dCons (dC (.str "left")) dNil))) (dMod (dVar 0) (dC (.int 2)))) dNil)) (dVar 2)))
    (dSet 0 (dDiv (dVar 0) (dC (.int 2))))))
    (dRet (dRev (dVar 2)))))

def sp_law_twos : DSp := fun ds k _ => ∃ (n m : Nat), ds = [.int (n : Nat), .int (m : Nat)] ∧ n < 2 ^ m ∧ m ≤ 40 ∧ k (rw_ (numRow m none n))
theorem len_law_twos : ∀ ds k kx, sp_law_twos ds k kx → ds.length = 2 := by
  intro _ _ _ h
  unfold sp_law_twos at h
  obtain ⟨_, _, rfl, _⟩ := h; rfl
theorem pick2n {r : Nat} : atI [D.str "right", D.str "left"] ((r : Int) % 2) = some (wd (decide (r % 2 = 1))) := by
  have hr : r % 2 = 0 ∨ r % 2 = 1 := by omega
  have e : (r : Int) % 2 = ((r % 2 : Nat) : Int) := by omega
  rw [e]
  rcases hr with c | c <;> rw [c] <;> rfl
theorem pure_law_twos (ds : List D) (k : D → Prop) (kx : Addr → Prop) (h : sp_law_twos ds k kx) : t_law_twos { nx := fun _ => k .non, rt := k, ex := kx } (dstart N_law_twos ds) := by
  obtain ⟨n, m, rfl, hn, hm, h⟩ := h
  refine ⟨⟨by omega, by omega⟩, ?_⟩
  refine ⟨fun i δ => ∃ z, δ = [some (.int ((n / 2 ^ i : Nat) : Int)), some (.int (m : Nat)), some (rw_ (tw i n).reverse), z], ⟨none, by rw [Nat.pow_zero, Nat.div_one]; rfl⟩, ?_, ?_⟩
  · rintro i d δ' hd ⟨z, rfl⟩
    obtain ⟨hi, rfl⟩ := rng_get hd
    have hl : (tw i n).length = i := by unfold tw; simp
    have hi : i < m := by omega
    refine ⟨(show (0 : Int) < 2 by decide), ix_of pick2n ⟨?_, ?_⟩⟩
    · show 1 + ((tw i n).reverse.map wd).length ≤ 100000
      rw [List.length_map, List.length_reverse, hl]; omega
    · refine ⟨cdiv (by decide) (by decide), some (.int (0 + (i : Int))), ?_⟩
      have e1 : ((n / 2 ^ i : Nat) : Int) / 2 = ((n / 2 ^ (i + 1) : Nat) : Int) := by rw [Nat.pow_succ, ← Nat.div_div_eq_div_mul]; omega
      have e2 : D.tup ([wd (decide (n / 2 ^ i % 2 = 1))] ++ (tw i n).reverse.map wd) = rw_ (tw (i + 1) n).reverse := by
        rw [tw_succ, List.reverse_append]; rfl
      show [some (D.int (((n / 2 ^ i : Nat) : Int) / 2)), some (D.int (m : Nat)), some (D.tup ([wd (decide (n / 2 ^ i % 2 = 1))] ++ (tw i n).reverse.map wd)), some (D.int (0 + (i : Int)))] = _
      rw [e1, e2]
  · rintro δ' ⟨z, rfl⟩
    rw [rng_len, Int.toNat_natCast]
    show k (.tup ((tw m n).reverse.map wd).reverse)
    rw [← List.map_reverse, List.reverse_reverse, ← numRow_tw m n hn]
    exact h
/-! ### halves -/
abbrev hf : Rat := ⟨1, 2, by decide, by decide⟩
theorem hf_parts : Parts hf hf := ⟨⟨by decide +kernel, by decide +kernel, by decide⟩, ⟨by decide +kernel, by decide +kernel, by decide⟩, by decide +kernel⟩
theorem hf_two : hf * 2 = 1 := by decide +kernel
theorem hf_sub : 1 - hf = hf := by decide +kernel
theorem half_end : ∀ (n k : Nat), k < 2 ^ n → pours hf hf 0 (numRow n none k) * ((2 ^ n : Nat) : Rat) = ((k : Nat) : Rat)
  | 0, k, h => by
    have : k = 0 := by omega
    subst this
    show (0 : Rat) * _ = _
    rw [Rat.zero_mul]; rfl
  | n + 1, k, h => by
    show pours hf hf 0 (if k < 2 ^ n then numRow n none k ++ [false] else numRow n none (k - 2 ^ n) ++ [true]) * _ = _
    have e2 : ((2 ^ (n + 1) : Nat) : Rat) = ((2 ^ n : Nat) : Rat) * 2 := by rw [Nat.pow_succ, Rat.natCast_mul]; rfl
    have h2 := hf_two
    have h3 := hf_sub
    by_cases c : k < 2 ^ n
    · rw [if_pos c, pours_snoc]
      have ih := half_end n k c
      show pours hf hf 0 (numRow n none k) * (1 - hf) * _ = _
      rw [h3, e2]
      generalize pours hf hf 0 (numRow n none k) = y at *
      generalize hf = u at *
      grind
    · have hk : k - 2 ^ n < 2 ^ n := by rw [Nat.pow_succ] at h; omega
      rw [if_neg c, pours_snoc]
      have ih := half_end n (k - 2 ^ n) hk
      have e3 : ((k : Nat) : Rat) = ((k - 2 ^ n : Nat) : Rat) + ((2 ^ n : Nat) : Rat) := by rw [← Rat.natCast_add]; congr 1; omega
      show (pours hf hf 0 (numRow n none (k - 2 ^ n)) * (1 - hf) + hf) * _ = _
      rw [h3, e2, e3]
      generalize pours hf hf 0 (numRow n none (k - 2 ^ n)) = y at *
      generalize hf = u at *
      grind
theorem half_mk {n k : Nat} (h : k < 2 ^ n) : pours hf hf 0 (numRow n none k) = mkRat ((k : Nat) : Int) (2 ^ n) := by
  have e := half_end n k h
  rw [Rat.mkRat_eq_div]
  have h0 : ((2 ^ n : Nat) : Rat) ≠ 0 := fun c => by
    have := Rat.natCast_eq_zero_iff.mp c
    have := Nat.two_pow_pos n
    omega
  have e2 : (((k : Nat) : Int) : Rat) = ((k : Nat) : Rat) := rfl
  rw [e2, ← e, Rat.mul_div_cancel h0]
theorem eqD_pair (r s : List Bool) (x y : Rat) : eqD (.tup [rw_ r, fr x]) (.tup [rw_ s, fr y]) = (decide (r = s) && decide (x = y)) := by
  rw [eqD_tup, eqA_cons, eqA_cons, eqA_nil, eqD_rw, eqD_fr, Bool.and_true]
theorem pair_shp (r : List Bool) (x : Rat) : (D.tup [rw_ r, fr x]).shp = true := (sh_tup (n := 1) fun d hd => by
  simp at hd
  rcases hd with rfl | rfl
  · exact sh_rw _ _
  · exact sh_fr _ _).shp
theorem pair_ne {r s : List Bool} {x y : Rat} {k : D → Prop} (e1 : r = s) (e2 : x = y) (h : k (.bl false)) : dNe (.tup [rw_ r, fr x]) (.tup [rw_ s, fr y]) k :=
  ne_of (b := true) (pair_shp r x) (pair_shp s y) ((eqD_pair r s x y).trans (by rw [decide_eq_true e1, decide_eq_true e2]; rfl)) h
theorem aw_self (x : Rat) : aw x x = 0 := by unfold aw; rw [if_neg (Rat.not_lt.mpr Rat.le_refl)]; grind
theorem aw_zero {x y : Rat} (h : aw x y ≤ 0) : x = y := by unfold aw at h; split at h <;> grind
theorem near_hit {p q x : Rat} (h : Parts p q) (hx : inU x = true) {n : Nat} {l : Lf} {j : Nat} (hj : j < cnt n l) : nearJ p q x (endK p q x n l j) n l = j ∧ awK p q x (endK p q x n l j) n l j = 0 := by
  have hc : 0 < cnt n l := by omega
  have e0 : awK p q x (endK p q x n l j) n l j = 0 := aw_self _
  have m := (near_min h hx (w := endK p q x n l j) hc j hj).1
  rw [e0] at m
  have e := aw_zero (show aw (endK p q x n l (nearJ p q x (endK p q x n l j) n l)) (endK p q x n l j) ≤ 0 from m)
  obtain ⟨_, hlt⟩ := nearK_eq (p := p) (q := q) (x := x) (w := endK p q x n l j) hc
  rcases Nat.lt_trichotomy (nearJ p q x (endK p q x n l j) n l) j with c | c | c
  · have := ends_lt h hx n l _ _ c hj
    rw [e] at this
    exact absurd this (Rat.not_lt.mpr Rat.le_refl)
  · exact ⟨c, e0⟩
  · have := ends_lt h hx n l _ _ c hlt
    rw [e] at this
    exact absurd this (Rat.not_lt.mpr Rat.le_refl)
theorem leN_end {p q x : Rat} (h : Parts p q) (hx : inU x = true) {n : Nat} {l : Lf} {j : Nat} (hj : j < cnt n l) : leN p q x n l (endK p q x n l j) = j + 1 := by
  have h1 := (at_iff h hx n l j (endK p q x n l j) hj).mp Rat.le_refl
  have h2 := leN_le (p := p) (q := q) (x := x) n l (endK p q x n l j)
  rcases Nat.lt_or_ge (j + 1) (leN p q x n l (endK p q x n l j)) with c | c
  · have := (at_iff h hx n l (j + 1) (endK p q x n l j) (by omega)).mpr c
    have l1 := ends_lt h hx n l j (j + 1) (by omega) (by omega)
    unfold endK at l1 this
    grind
  · omega
theorem lok_none (n : Nat) : Lok n none := fun i e => by cases e
theorem stt_in {ss : List Stt} {s : Stt} {k : D → Prop} (h : s ∈ ss) (hk : k (.bl true)) : dInD false (stt s) (.lst (ss.map stt)) k := by
  unfold dInD
  refine ⟨(sh_stt s 0).shp, stts_shp ss, ?_⟩
  have e : (ss.map stt).any (fun z => eqD z (stt s)) = true := List.any_eq_true.mpr ⟨stt s, List.mem_map_of_mem h, by rw [eqD_stt]; exact decide_eq_true rfl⟩
  rw [e]; exact hk
theorem backN_has {p q x : Rat} (hp : Part p) (hq : Part q) (hx : inU x = true) (r : List Bool) : (r, x) ∈ backN p q (pours p q x r) r.length := by
  have hg : inU (pours p q x r) = true := by
    obtain ⟨h0, h1⟩ := inU_iff.mp hx
    obtain ⟨n, hn⟩ : ∃ n, x.den < 2 ^ n := ⟨x.den, Nat.lt_two_pow_self⟩
    have := U_pours hp hq r (⟨h0, h1, hn⟩ : U x n)
    exact inU_iff.mpr ⟨this.1, this.2.1⟩
  have eb : begun p q (pours p q x r) r = x := (begun_iff hp hq r).mp rfl
  rw [backN_rows hp hq hg]
  refine List.mem_filterMap.mpr ⟨r, (allRows_mem _ r).mpr rfl, ?_⟩
  unfold toG
  rw [eb, if_pos hx]
abbrev N_law_halves_right : List Str := ["bag", "turn", "number", "few", "half", "many", "whole", "row", "end"]
def t_law_halves_right_r2 (er : Er) : DS :=
  (dSeq (dSet 3 (dCall (sp_fewest_to er) (dCons (dVar 4) (dCons (dTup (dCons (dC (.int 0)) (dCons (dC (.int 1)) dNil))) (dCons (dVar 8) dNil)))))
    (dSeq (dIfS (dOr (dB (dIsN (dVar 3))) (dOr (dB (dOp dNe (dCall sp_law_end (dCons (dVar 4) (dCons (dTup (dCons (dC (.int 0)) (dCons (dC (.int 1)) dNil))) (dCons (dVar 3) dNil)))) (dVar 8))) (dOr (dB (dGt (dC1 cLen (dVar 3)) (dVar 5))) (dAnd (dB (dOp dNe (dVar 3) (dTup dNil))) (dB (dOp dNe (dOp dIx (dVar 3) (dC (.int 0))) (dC (.str "left")))))))) (dRet (dC (.bl false))) dNext)
    (dRet (dOp (dInD false) (dTup (dCons (dVar 7) (dCons (dTup (dCons (dC (.int 0)) (dCons (dC (.int 1)) dNil))) dNil))) (dCall (toD (sp_rows_to er)) (dCons (dVar 4) (dCons (dVar 8) (dCons (dVar 5) dNil))))))))
def t_law_halves_right_r1 (er : Er) : DS :=
  (dSeq (dIfS (dOr (dB (dOp dNe (dCall (sp_at_most er) (dCons (dVar 4) (dCons (dTup (dCons (dC (.int 0)) (dCons (dC (.int 1)) dNil))) (dCons (dVar 5) (dCons (dC .non) (dCons (dVar 8) dNil)))))) (dAdd (dVar 2) (dC (.int 1))))) (dB (dOp dNe (dCall (sp_nearest er) (dCons (dVar 4) (dCons (dTup (dCons (dC (.int 0)) (dCons (dC (.int 1)) dNil))) (dCons (dVar 5) (dCons (dC .non) (dCons (dVar 8) dNil)))))) (dTup (dCons (dVar 7) (dCons (dTup (dCons (dC (.int 0)) (dCons (dC (.int 1)) dNil))) dNil)))))) (dRet (dC (.bl false))) dNext)
    (t_law_halves_right_r2 er))
def t_law_halves_right (er : Er) : DS :=
  (dSeq (dPar3 4 5 6 (dTup (dCons (dTup (dCons (dC (.int 1)) (dCons (dC (.int 2)) dNil))) (dCons (dTup (dCons (dC (.int 1)) (dCons (dC (.int 2)) dNil))) dNil))) (dAdd (dC (.int 1)) (dCall sp_law_take (dCons (dVar 0) (dCons (dC (.int 40)) dNil)))) (dC (.int 1)))
    (dSeq (dFor (dItR1 (dVar 5)) (gN 1)
    (dSet 6 (dMul (dC (.int 2)) (dVar 6))))
    (dSeq (dSet 2 (dCall sp_law_far_draw (dCons (dVar 0) (dCons (dVar 6) dNil))))
    (dSeq (dPar 7 8 (dCall sp_law_twos (dCons (dVar 2) (dCons (dVar 5) dNil))) (dCall sp_law_made (dCons (dVar 2) (dCons (dVar 6) dNil))))
    (dSeq (dIfS (dOr (dB (dOp dNe (dCall (sp_behind er) (dCons (dVar 4) (dCons (dTup (dCons (dC (.int 0)) (dCons (dC (.int 1)) dNil))) (dCons (dVar 7) dNil)))) (dVar 8))) (dOr (dB (dOp dNe (dCall (sp_number_of er) (dCons (dVar 7) (dCons (dC (.bl true)) dNil))) (dVar 2))) (dB (dOp dNe (dCall (sp_row_of er) (dCons (dVar 5) (dCons (dC .non) (dCons (dVar 2) dNil)))) (dVar 7))))) (dRet (dC (.bl false))) dNext)
    (t_law_halves_right_r1 er))))))

@[irreducible] def sp_law_halves_right (er : Er) : DSp := fun ds k _ => ds = [.bag] ∧ k (.bl true)
theorem len_law_halves_right (er : Er) : ∀ ds k kx, sp_law_halves_right er ds k kx → ds.length = 1 := by
  intro _ _ _ h
  unfold sp_law_halves_right at h
  obtain ⟨rfl, _⟩ := h; rfl
theorem pure_law_halves_right (er : Er) (ds : List D) (k : D → Prop) (kx : Addr → Prop) (h : sp_law_halves_right er ds k kx) : t_law_halves_right er { nx := fun _ => k .non, rt := k, ex := kx } (dstart N_law_halves_right ds) := by
  unfold sp_law_halves_right at h
  obtain ⟨rfl, h⟩ := h
  refine ⟨40, rfl, by decide, fun t t0 t1 => ?_⟩
  obtain ⟨m, em⟩ : ∃ m : Nat, 1 + t = m := ⟨(1 + t).toNat, by omega⟩
  have hm1 : 1 ≤ m := by omega
  have hm : m ≤ 40 := by omega
  refine (show (-(2 ^ 62) ≤ 1 + t ∧ 1 + t < 2 ^ 62) ∧ ∃ Pv : Nat → Dst → Prop, Pv 0 [some .bag, none, none, none, some (pts hf hf), some (.int (1 + t)), some (.int 1), none, none] ∧ (∀ i d δ', (rngD 0 (1 + t).toNat)[i]? = some d → _) ∧ ∀ δ', Pv (rngD 0 (1 + t).toNat).length δ' → _ from ?_)
  rw [em]
  refine ⟨⟨by omega, by omega⟩, ?_⟩
  refine ⟨fun i δ => i ≤ 40 ∧ ∃ z, δ = [some .bag, z, none, none, some (pts hf hf), some (.int (m : Nat)), some (.int ((2 ^ i : Nat) : Int)), none, none], ⟨by decide, none, rfl⟩, ?_, ?_⟩
  · rintro i d δ' hd ⟨hi40, z, rfl⟩
    obtain ⟨hi, rfl⟩ := rng_get hd
    have hp := pow40 (n := i) (by omega)
    refine ⟨small_mul (by decide) (small_nat hp), by omega, some (.int (0 + (i : Int))), ?_⟩
    have e : (2 : Int) * ((2 ^ i : Nat) : Int) = ((2 ^ (i + 1) : Nat) : Int) := by rw [Nat.pow_succ, Int.natCast_mul]; omega
    show [some D.bag, some (D.int (0 + (i : Int))), none, none, some (pts hf hf), some (D.int (m : Nat)), some (D.int (2 * ((2 ^ i : Nat) : Int))), none, none] = _
    rw [e]
  · rintro δ' ⟨_, z, rfl⟩
    rw [rng_len, Int.toNat_natCast]
    have hp := pow40 (n := m) (by omega)
    have hp0 := Nat.two_pow_pos m
    refine ⟨((2 ^ m : Nat) : Int), rfl, by omega, by omega, fun o o0 o1 => ?_⟩
    obtain ⟨o, rfl⟩ : ∃ i : Nat, o = i := ⟨o.toNat, by omega⟩
    have ho : o < 2 ^ m := by omega
    refine ⟨o, m, rfl, ho, hm, ?_⟩
    refine ⟨(o : Nat), ((2 ^ m : Nat) : Int), rfl, by omega, small_abs (by omega) (by omega), ?_⟩
    rw [Int.toNat_natCast, ← half_mk ho]
    have hxi : inU 0 = true := by decide +kernel
    have hl := numRow_len m none o
    have sE : Share (pours hf hf 0 (numRow m none o)) := by
      have hu := U_pours hf_parts.1 hf_parts.2.1 (numRow m none o) (share_U share_zero)
      refine ⟨hu.1, hu.2.1, ?_⟩
      rw [half_mk ho]
      refine Nat.lt_of_le_of_lt (mkRat_den_le _ _ hp0) (Nat.lt_of_le_of_lt hp (by decide))
    have ho' : o < cnt m none := ho
    obtain ⟨hn2, hf2⟩ := rowNum_numRow ho'
    refine behind_ok (x := 0) hf_parts share_zero (by omega) ?_
    refine fr_ne rfl (iteF ?_)
    refine number_of_ok (b := true) (by omega) ?_
    refine ne_intT (show ((rowNum (numRow m none o) none : Nat) : Int) = (o : Int) by rw [hn2]) (iteF ?_)
    refine row_of_ok (l := none) hm (lok_none m) ho' ?_
    refine rw_ne rfl (iteF ?_)
    have eE : endK hf hf 0 m none o = pours hf hf 0 (numRow m none o) := rfl
    refine at_most_ok (x := 0) (l := none) hf_parts share_zero hm (lok_none m) sE ?_
    rw [← eE]
    refine ne_intT (by rw [leN_end hf_parts hxi ho']; rfl) (iteF ?_)
    refine nearest_ok (x := 0) (l := none) hf_parts share_zero hm (lok_none m) (by rw [eE]; exact sE) ?_
    obtain ⟨nj, na⟩ := near_hit hf_parts hxi ho'
    rw [(nearK_eq (show 0 < cnt m none by omega)).1, nj]
    refine pair_ne rfl (show awK hf hf 0 (endK hf hf 0 m none o) m none o = 0 from na) (iteF ?_)
    rw [eE]
    refine fewest_to_ok (x := 0) hf_parts share_zero sE ?_
    have hgi : inU (pours hf hf 0 (numRow m none o)) = true := inU_iff.mpr ⟨sE.1, sE.2.1⟩
    rw [few_same hf_parts.1 hf_parts.2.1 hxi hgi]
    obtain ⟨s, es⟩ := few_some (p := hf) (q := hf) (x := 0) (r := numRow m none o) (m := 41) (by omega)
    obtain ⟨g1, g2⟩ := few_spec es
    rw [es]
    have hs := g2 _ rfl
    refine end_mk hf_parts.1 hf_parts.2.1 (share_U share_zero) (by omega) ?_
    refine fr_ne g1 (iteF ?_)
    have ls : (((s.map wd).length : Nat) : Int) = (s.length : Int) := by rw [List.length_map]
    show if decide ((m : Int) < (((s.map wd).length : Nat) : Int)) = true then _ else _
    rw [decide_eq_false (by rw [ls]; omega)]
    refine iteF ?_
    have fin : (dRet (dOp (dInD false) (dTup (dCons (dVar 7) (dCons (dTup (dCons (dC (.int 0)) (dCons (dC (.int 1)) dNil))) dNil))) (dCall (toD (sp_rows_to er)) (dCons (dVar 4) (dCons (dVar 8) (dCons (dVar 5) dNil)))))) { nx := fun _ => k .non, rt := k, ex := kx }
        [some .bag, z, some (.int (o : Nat)), some (rw_ s), some (pts hf hf), some (.int (m : Nat)), some (.int ((2 ^ m : Nat) : Int)), some (rw_ (numRow m none o)), some (fr (pours hf hf 0 (numRow m none o)))] := by
      refine rows_to_ok hf_parts sE hm ?_
      refine stt_in (s := (numRow m none o, 0)) ?_ h
      have := backN_has (x := 0) hf_parts.1 hf_parts.2.1 hxi (numRow m none o)
      rwa [hl] at this
    refine rw_neB (s := []) ?_
    show if (!decide (s = [])) = true then _ else _
    refine iteB (fun c => ?_) (fun c => iteF fin)
    cases s with
    | nil => cases c
    | cons w s =>
      cases w with
      | true =>
        refine ixT_of (ds := (true :: s).map wd) (i := ((0 : Nat) : Int)) (d := wd true) (atI_nat rfl) ?_
        refine ne_of (wd_shp true) str_shpL (wd_eqL true) ?_
        exact fin
      | false =>
        exfalso
        have e0 : pours hf hf 0 (false :: s) = pours hf hf 0 s := by
          show pours hf hf (0 * (1 - hf)) s = _
          rw [Rat.zero_mul]
        have := g2 s (by rw [← e0]; exact g1)
        rw [List.length_cons] at this
        omega
/-! ### the law -/
abbrev th2 : Rat := ⟨2, 3, by decide, by decide⟩
abbrev th1 : Rat := ⟨1, 3, by decide, by decide⟩
abbrev q1 : Rat := ⟨1, 4, by decide, by decide⟩
abbrev q3 : Rat := ⟨3, 4, by decide, by decide⟩
abbrev s37 : Rat := ⟨3, 7, by decide, by decide⟩
abbrev h12 : Rat := ⟨1, 2, by decide, by decide⟩
abbrev s16 : Rat := ⟨1, 6, by decide, by decide⟩
abbrev s17 : Rat := ⟨1, 7, by decide, by decide⟩
abbrev tiny19 : Rat := ⟨1, 10000000000000000000, by decide, by decide +kernel⟩
theorem two_ok : Parts th2 th1 := ⟨⟨by decide +kernel, by decide +kernel, by decide⟩, ⟨by decide +kernel, by decide +kernel, by decide⟩, by decide +kernel⟩
theorem thirds_ok : Parts th2 th2 := ⟨⟨by decide +kernel, by decide +kernel, by decide⟩, ⟨by decide +kernel, by decide +kernel, by decide⟩, by decide +kernel⟩
theorem sh_of (x : Rat) (h0 : 0 ≤ x) (h1 : x ≤ 1) (h : x.den < GREAT) : Share x := ⟨h0, h1, h⟩
theorem thirds_far : ∀ (r : List Bool) (x : Rat), 0 ≤ x → x ≤ 1 → 0 ≤ pours th2 th2 x r ∧ pours th2 th2 x r ≤ 1 := fun r x h0 h1 => pours_in thirds_ok (inU_iff.mpr ⟨h0, h1⟩) r
theorem thirds_off (r : List Bool) (w : Bool) : s17 < aw (pours th2 th2 0 (r ++ [w])) h12 := by
  rw [pours_snoc]
  obtain ⟨h0, h1⟩ := thirds_far r 0 (by decide) (by decide)
  generalize pours th2 th2 0 r = y at *
  have e1 : (1 : Rat) - th2 = th1 := by decide +kernel
  have e2 : th1 + s16 = h12 := by decide +kernel
  have e3 : th2 = h12 + s16 := by decide +kernel
  have e4 : s17 < s16 := by decide +kernel
  have e5 : (0 : Rat) < th1 := by decide +kernel
  cases w with
  | false =>
    show s17 < aw (y * (1 - th2)) h12
    rw [e1]
    have : y * th1 ≤ 1 * th1 := Rat.mul_le_mul_of_nonneg_right h1 (Rat.le_of_lt e5)
    unfold aw
    generalize th1 = a at *
    generalize h12 = b at *
    generalize s16 = c at *
    generalize s17 = d at *
    split <;> grind
  | true =>
    show s17 < aw (y * (1 - th2) + th2) h12
    rw [e1]
    have : 0 ≤ y * th1 := Rat.mul_nonneg h0 (Rat.le_of_lt e5)
    unfold aw
    generalize th2 = a2 at *
    generalize th1 = a at *
    generalize h12 = b at *
    generalize s16 = c at *
    generalize s17 = d at *
    split <;> grind
theorem near_never : nearE th2 th2 0 h12 s17 21 = none := by
  unfold nearE
  refine List.findSome?_eq_none_iff.mpr fun n _ => ?_
  unfold nearHit
  rw [if_pos ?_]
  unfold awK endK
  have hl := numRow_len n none (nearJ th2 th2 0 h12 n none)
  generalize numRow n none (nearJ th2 th2 0 h12 n none) = r at *
  rcases List.eq_nil_or_concat r with e | ⟨r', w, e⟩
  · rw [e]
    show s17 < aw 0 h12
    decide +kernel
  · rw [e, List.concat_eq_append]
    exact thirds_off r' w
abbrev N_law_k12 : List Str := ["script", "bag", "two", "thirds", "kept"]
def t_law_k12_r4 (er : Er) : DS :=
  (dKept er.Kept 4 (dCons (dVar 3) (dCons (dTup (dCons (dC (.int 1)) (dCons (dC (.int 1)) dNil))) dNil)) false true
    (dRet (dAndV (dOp dEq (dMeth0 er.Kept "share" (sp_kept_share er) (dVar 4)) (dTup (dCons (dC (.int 7)) (dCons (dC (.int 9)) dNil)))) (dAndV (dOp dEq (dMeth0 er.Kept "poured" (sp_kept_poured er) (dVar 4)) (dTup (dCons (dC (.int 10)) (dCons (dC (.int 9)) dNil)))) (dIsN (dCall (sp_near_enough er) (dCons (dVar 3) (dCons (dTup (dCons (dC (.int 0)) (dCons (dC (.int 1)) dNil))) (dCons (dTup (dCons (dC (.int 1)) (dCons (dC (.int 2)) dNil))) (dCons (dTup (dCons (dC (.int 1)) (dCons (dC (.int 7)) dNil))) dNil))))))))))
def t_law_k12_r3 (er : Er) : DS :=
  (dSeq (dIfS (dB (dOp dNe (dCall (sp_nearest er) (dCons (dVar 3) (dCons (dTup (dCons (dC (.int 0)) (dCons (dC (.int 1)) dNil))) (dCons (dC (.int 2)) (dCons (dC .non) (dCons (dTup (dCons (dC (.int 1)) (dCons (dC (.int 2)) dNil))) dNil)))))) (dTup (dCons (dTup (dCons (dC (.str "right")) (dCons (dC (.str "left")) dNil))) (dCons (dTup (dCons (dC (.int 1)) (dCons (dC (.int 6)) dNil))) dNil))))) (dRet (dC (.bl false))) dNext)
    (dSeq (dIfS (dB (dOp dNe (dCall (sp_nearest er) (dCons (dVar 3) (dCons (dTup (dCons (dC (.int 0)) (dCons (dC (.int 1)) dNil))) (dCons (dC (.int 0)) (dCons (dC .non) (dCons (dTup (dCons (dC (.int 1)) (dCons (dC (.int 2)) dNil))) dNil)))))) (dTup (dCons (dTup dNil) (dCons (dTup (dCons (dC (.int 1)) (dCons (dC (.int 2)) dNil))) dNil))))) (dRet (dC (.bl false))) dNext)
    (dSeq (dIfS (dB (dOp dNe (dCall (sp_near_enough er) (dCons (dVar 3) (dCons (dTup (dCons (dC (.int 0)) (dCons (dC (.int 1)) dNil))) (dCons (dTup (dCons (dC (.int 1)) (dCons (dC (.int 2)) dNil))) (dCons (dTup (dCons (dC (.int 1)) (dCons (dC (.int 6)) dNil))) dNil))))) (dTup (dCons (dC (.str "left")) dNil)))) (dRet (dC (.bl false))) dNext)
    (t_law_k12_r4 er))))
def t_law_k12_r2 (er : Er) : DS :=
  (dSeq (dIfS (dB (dOp dNe (dCall (toD (sp_rows_to er)) (dCons (dVar 3) (dCons (dTup (dCons (dC (.int 1)) (dCons (dC (.int 4)) dNil))) (dCons (dC (.int 4)) dNil)))) (dLst (dCons (dTup (dCons (dRev (dTup (dCons (dC (.str "right")) (dCons (dC (.str "left")) (dCons (dC (.str "right")) (dCons (dC (.str "left")) dNil)))))) (dCons (dTup (dCons (dC (.int 1)) (dCons (dC (.int 4)) dNil))) dNil))) dNil)))) (dRet (dC (.bl false))) dNext)
    (dSeq (dIfS (dOr (dB (dOp dNe (dCall (sp_goes_to er) (dCons (dVar 3) (dCons (dTup (dCons (dC (.str "left")) (dCons (dC (.str "right")) dNil))) dNil))) (dTup (dCons (dC (.int 1)) (dCons (dC (.int 4)) dNil))))) (dB (dOp dNe (dCall (sp_fewest_to er) (dCons (dVar 3) (dCons (dTup (dCons (dC (.int 1)) (dCons (dC (.int 4)) dNil))) (dCons (dTup (dCons (dC (.int 3)) (dCons (dC (.int 4)) dNil))) dNil)))) (dTup (dCons (dC (.str "left")) dNil))))) (dRet (dC (.bl false))) dNext)
    (dSeq (dIfS (dOr (dB (dOp dNe (dCall (sp_fewest_to er) (dCons (dVar 3) (dCons (dTup (dCons (dC (.int 3)) (dCons (dC (.int 4)) dNil))) (dCons (dTup (dCons (dC (.int 3)) (dCons (dC (.int 4)) dNil))) dNil)))) (dTup dNil))) (dB (dOp dNe (dCall (sp_unseen er) (dCons (dVar 3) (dCons (dTup (dCons (dC (.int 1)) (dCons (dC (.int 4)) dNil))) (dCons (dTup (dCons (dC (.str "right")) dNil)) (dCons (dC (.int 0)) (dCons (dTup (dCons (dC (.int 3)) (dCons (dC (.int 4)) dNil))) dNil)))))) (dC (.str "left"))))) (dRet (dC (.bl false))) dNext)
    (t_law_k12_r3 er))))
def t_law_k12_r1 (er : Er) : DS :=
  (dSeq (dIfS (dOr (dB (dOp dNe (dCall (sp_goes_to er) (dCons (dVar 2) (dCons (dTup (dCons (dC (.str "right")) (dCons (dC (.str "left")) dNil))) dNil))) (dTup (dCons (dC (.int 3)) (dCons (dC (.int 7)) dNil))))) (dB (dOp dNe (dCall (sp_times_till er) (dCons (dVar 2) (dCons (dTup (dCons (dC (.int 3)) (dCons (dC (.int 7)) dNil))) (dCons (dTup (dCons (dC (.str "right")) (dCons (dC (.str "left")) dNil))) (dCons (dTup (dCons (dC (.int 1)) (dCons (dPow (dC (.int 10)) (dC (.int 19))) dNil))) dNil))))) (dC (.int 0))))) (dRet (dC (.bl false))) dNext)
    (dSeq (dSet 3 (dTup (dCons (dTup (dCons (dC (.int 2)) (dCons (dC (.int 3)) dNil))) (dCons (dTup (dCons (dC (.int 2)) (dCons (dC (.int 3)) dNil))) dNil))))
    (t_law_k12_r2 er)))
def t_law_k12 (er : Er) : DS :=
  (dSeq (dBags 5 0 1 8
    (oLift (dIfS (dNot (dB (dCall (sp_law_halves_right er) (dCons (dVar 1) dNil)))) (dRet (dC (.bl false))) dNext)))
    (dSeq (dSet 2 (dTup (dCons (dTup (dCons (dC (.int 2)) (dCons (dC (.int 3)) dNil))) (dCons (dTup (dCons (dC (.int 1)) (dCons (dC (.int 3)) dNil))) dNil))))
    (dSeq (dIfS (dOr (dB (dOp (dIsB true) (dCall sp_are_parts (dCons (dVar 2) dNil)) (dC (.bl true)))) (dB (dOp dNe (dCall (sp_behind er) (dCons (dVar 2) (dCons (dTup (dCons (dC (.int 1)) (dCons (dC (.int 1)) dNil))) (dCons (dTup (dCons (dC (.str "right")) (dCons (dC (.str "left")) dNil))) dNil)))) (dTup (dCons (dC (.int 5)) (dCons (dC (.int 9)) dNil)))))) (dRet (dC (.bl false))) dNext)
    (dSeq (dIfS (dB (dOp dNe (dCall (toD (sp_rows_to er)) (dCons (dVar 2) (dCons (dTup (dCons (dC (.int 1)) (dCons (dC (.int 3)) dNil))) (dCons (dC (.int 2)) dNil)))) (dLst (dCons (dTup (dCons (dTup (dCons (dC (.str "left")) (dCons (dC (.str "right")) dNil))) (dCons (dTup (dCons (dC (.int 1)) (dCons (dC (.int 1)) dNil))) dNil))) (dCons (dTup (dCons (dTup (dCons (dC (.str "right")) (dCons (dC (.str "left")) dNil))) (dCons (dTup (dCons (dC (.int 0)) (dCons (dC (.int 1)) dNil))) dNil))) dNil))))) (dRet (dC (.bl false))) dNext)
    (t_law_k12_r1 er)))))

theorem k12_r4 (er : Er) (ns : List Int) (z2 : Option D) : t_law_k12_r4 er { nx := fun _ => False, rt := fun d => d = .bl true, ex := fun _ => False } [some (.scr ns), none, z2, some (pts th2 th2), none] := by
  refine ⟨th2, th2, 1, rfl, thirds_ok, share_one, (by show 4 < 5; decide), ?_⟩
  have e1 : pour th2 th2 1 false = th1 := by decide +kernel
  have e2 : pour th2 th2 th1 true = ⟨7, 9, by decide, by decide⟩ := by decide +kernel
  rw [e1, e2]
  refine ⟨rfl, by decide, _, _, [fr 1, fr th1], fr ⟨7, 9, by decide, by decide⟩, rfl, ?_⟩
  refine fr_eq (y := ⟨7, 9, by decide, by decide⟩) rfl ?_
  refine ⟨rfl, by decide, _, _, 1, [th1, ⟨7, 9, by decide, by decide⟩], rfl, by simp, fun y hy => ?_, ?_⟩
  · simp at hy
    rcases hy with rfl | rfl | rfl
    · exact sz_one.mono (by decide)
    · exact ⟨by decide, by decide⟩
    · exact ⟨by decide, by decide⟩
  refine fr_eq (y := ⟨10, 9, by decide, by decide⟩) (by decide +kernel) ?_
  refine near_enough_ok (x := 0) (w := h12) (d := s17) thirds_ok share_zero (sh_of _ (by decide +kernel) (by decide +kernel) (by decide)) (sh_of _ (by decide +kernel) (by decide +kernel) (by decide)) (by decide +kernel) ?_
  rw [near_never]
  rfl
theorem k12_r3 (er : Er) (ns : List Int) (z2 : Option D) : t_law_k12_r3 er { nx := fun _ => False, rt := fun d => d = .bl true, ex := fun _ => False } [some (.scr ns), none, z2, some (pts th2 th2), none] := by
  have sh : Share h12 := sh_of _ (by decide +kernel) (by decide +kernel) (by decide)
  refine nearest_ok (x := 0) (n := 2) (l := none) (w := h12) thirds_ok share_zero (by decide) (lok_none 2) sh ?_
  have b2 : nearK th2 th2 0 h12 2 none = some 2 := by decide +kernel
  rw [b2]
  refine pair_ne (r := numRow 2 none 2) (s := [false, true]) rfl (y := s16) (by decide +kernel) (iteF ?_)
  refine nearest_ok (x := 0) (n := 0) (l := none) (w := h12) thirds_ok share_zero (by decide) (lok_none 0) sh ?_
  have b0 : nearK th2 th2 0 h12 0 none = some 0 := by decide +kernel
  rw [b0]
  refine pair_ne (r := numRow 0 none 0) (s := []) rfl (y := h12) (by decide +kernel) (iteF ?_)
  refine near_enough_ok (x := 0) (w := h12) (d := s16) thirds_ok share_zero sh (sh_of _ (by decide +kernel) (by decide +kernel) (by decide)) (by decide +kernel) ?_
  have e : nearE th2 th2 0 h12 s16 21 = some [true] := by decide +kernel
  rw [e]
  refine rw_ne (r := [true]) (s := [true]) rfl (iteF ?_)
  exact k12_r4 er ns z2
theorem k12_r2 (er : Er) (ns : List Int) (z2 : Option D) : t_law_k12_r2 er { nx := fun _ => False, rt := fun d => d = .bl true, ex := fun _ => False } [some (.scr ns), none, z2, some (pts th2 th2), none] := by
  have sq1 : Share q1 := sh_of _ (by decide +kernel) (by decide +kernel) (by decide)
  have sq3 : Share q3 := sh_of _ (by decide +kernel) (by decide +kernel) (by decide)
  refine rows_to_ok (p := th2) (q := th2) (g := q1) (n := 4) thirds_ok sq1 (by decide) ?_
  refine stts_ne (ts := [([true, false, true, false], q1)]) (by decide +kernel) (iteF ?_)
  refine goes_to_ok (p := th2) (q := th2) (r := [true, false]) thirds_ok (by decide) (by decide) ?_
  refine fr_ne (y := q1) (by decide +kernel) (iteF ?_)
  refine fewest_to_ok (p := th2) (q := th2) (x := q1) (g := q3) thirds_ok sq1 sq3 ?_
  have e1 : fewN th2 th2 q1 q3 41 = some [true] := by decide +kernel
  rw [e1]
  refine rw_ne (r := [true]) (s := [true]) rfl (iteF ?_)
  refine fewest_to_ok (p := th2) (q := th2) (x := q3) (g := q3) thirds_ok sq3 sq3 ?_
  have e2 : fewN th2 th2 q3 q3 41 = some [] := by decide +kernel
  rw [e2]
  refine rw_ne (r := []) (s := []) rfl (iteF ?_)
  refine unseen_ok (p := th2) (q := th2) (x := q1) (r := [false]) (i := 0) (g := q3) thirds_ok sq1 (by decide) (by decide) sq3 ?_
  have e3 : unseenW th2 th2 q1 q3 [false] 0 = some true := by decide +kernel
  rw [e3]
  refine ne_of (b := true) (wd_shp true) str_shpL (wd_eqL true) (iteF ?_)
  exact k12_r3 er ns z2
theorem pure_law_k12 (er : Er) (ns : List Int) : t_law_k12 er { nx := fun _ => False, rt := fun d => d = .bl true, ex := fun _ => False } (blank 5 0 ns) := by
  refine ⟨ns, rfl, by decide, by decide, by decide, by decide, by decide, ?_, ?_⟩
  · refine (show sp_law_halves_right er [.bag] _ _ from ?_)
    unfold sp_law_halves_right
    exact ⟨rfl, iteF ⟨rfl, rfl⟩⟩
  · refine ⟨pts th2 th1, rfl, rfl, fun b hb => ?_⟩
    rw [hb.mpr ⟨th2, th1, rfl, two_ok⟩]
    refine behind_ok (p := th2) (q := th1) (x := 1) (r := [false, true]) two_ok share_one (by decide) ?_
    refine fr_ne (y := ⟨5, 9, by decide, by decide⟩) (by decide +kernel) (iteF ?_)
    have s13 : Share th1 := sh_of _ (by decide +kernel) (by decide +kernel) (by decide)
    have ss : Share s37 := sh_of _ (by decide +kernel) (by decide +kernel) (by decide)
    refine rows_to_ok (p := th2) (q := th1) (g := th1) (n := 2) two_ok s13 (by decide) ?_
    refine stts_ne (ts := [([true, false], 1), ([false, true], 0)]) (by decide +kernel) (iteF ?_)
    refine goes_to_ok (p := th2) (q := th1) (r := [false, true]) two_ok (by decide) (by decide) ?_
    refine fr_ne (y := s37) (by decide +kernel) (iteF ⟨⟨by decide, by decide, by decide⟩, ?_⟩)
    refine times_till_ok (p := th2) (q := th1) (x := s37) (r := [false, true]) (d := tiny19) two_ok ss (by decide) (by decide) (sh_of _ (by decide +kernel) (by decide +kernel) (by decide)) (by decide +kernel) fun N h1 h2 => ?_
    have eN : N = 0 := by
      cases N with
      | zero => rfl
      | succ N =>
        have := h1 0 (by omega)
        have e : aw s37 (mid th2 th1 [false, true]) * pw (fac th2 th1 [false, true]) 0 = 0 := by decide +kernel
        rw [e] at this
        exact absurd this (by decide +kernel)
    subst eN
    refine ne_intT rfl (iteF ?_)
    exact k12_r2 er ns _
end DL
namespace Law
open PySem PySem.Spec PyProof.Rows L2 DL
def topS (i : Nat) : Stmt := PySem.Challenge.pw_pourback_k12_whole_written_tubs_at_every.main.body.getD i (.Pass ⟨0, 0, 0, 0⟩)
section
variable {P : Program} {w : World} {K : PySem.W.Frag} {mg : Str → Option Value} {base : Heap} {er : Er}
abbrev s_is_within : Stmt := topS 15
theorem sc_is_within : FnScope N_is_within ["thing", "low", "high"] (defScope s_is_within) := ⟨rfl, rfl, rfl, by decide +kernel, rfl, by decide +kernel, by decide +kernel⟩
theorem ok_is_within (Z : Bl mg) (T : DefT K mg "is_within" s_is_within) : Def P w K mg base 1 "is_within" ["thing", "low", "high"] sp_is_within := by
  exact def_mk T sc_is_within (fun _ _ _ _ _ _ us hl => match us, hl with | [_, _, _], _ => rfl) len_is_within (fun f cdv A outer s H E hr => ⟨t_is_within,
    (b_one (s_ret (d_and (d_isi Z.isinstance Z.int (by decide +kernel) (dv 0)) (d_and (d_not (d_isi Z.isinstance Z.bool (by decide +kernel) (dv 0))) (d_one (d_chain op_le op_le sr_le sr_le (dv 1) (dv 0) (dv 2))))))),
    pure_is_within⟩)

abbrev s_common : Stmt := topS 16
theorem sc_common : FnScope N_common ["one", "other"] (defScope s_common) := ⟨rfl, rfl, rfl, by decide +kernel, rfl, by decide +kernel, by decide +kernel⟩
theorem ok_common (Z : Bl mg) (T : DefT K mg "common" s_common) : Def P w K mg base 1 "common" ["one", "other"] sp_common := by
  exact def_mk T sc_common (fun _ _ _ _ _ _ us hl => match us, hl with | [_, _], _ => rfl) len_common (fun f cdv A outer s H E hr => ⟨t_common,
    (b_cons (s_while passF (t_ne hr.units (dv 1) d_int)
    (b_one (s_par (i := 0) (j := 1) rfl sc_common.nd rfl rfl (by decide) rfl rfl (dv 1) (d_mod (dv 0) (dv 1)))))
    (b_one (s_ret (dv 0)))),
    pure_common⟩)

abbrev s_made : Stmt := topS 17
theorem sc_made : FnScope N_made ["top", "bottom"] (defScope s_made) := ⟨rfl, rfl, rfl, by decide +kernel, rfl, by decide +kernel, by decide +kernel⟩
theorem ok_made (Z : Bl mg) (T : DefT K mg "made" s_made) (D_common : Def P w K mg base 1 "common" ["one", "other"] sp_common) : Def P w K mg base 2 "made" ["top", "bottom"] sp_made := by
  exact def_mk T sc_made (fun _ _ _ _ _ _ us hl => match us, hl with | [_, _], _ => rfl) len_made (fun f cdv A outer s H E hr => ⟨t_made,
    (b_cons (s_set (i := 2) sc_made.nd rfl (Or.inl rfl) (d_fn passO hr D_common (a_cons (d_abs Z.abs (dv 0)) (a_cons (dv 1) a_nil))))
    (b_one (s_ret (d_tup (a_cons (d_div (dv 0) (dv 2)) (a_cons (d_div (dv 1) (dv 2)) a_nil)))))),
    pure_made⟩)

abbrev s_plus : Stmt := topS 18
theorem sc_plus : FnScope N_plus ["one", "other"] (defScope s_plus) := ⟨rfl, rfl, rfl, by decide +kernel, rfl, by decide +kernel, by decide +kernel⟩
theorem ok_plus (Z : Bl mg) (T : DefT K mg "plus" s_plus) (D_made : Def P w K mg base 2 "made" ["top", "bottom"] sp_made) : Def P w K mg base 3 "plus" ["one", "other"] sp_plus := by
  exact def_mk T sc_plus (fun _ _ _ _ _ _ us hl => match us, hl with | [_, _], _ => rfl) len_plus (fun f cdv A outer s H E hr => ⟨t_plus,
    (b_one (s_ret (d_fn passO hr D_made (a_cons (d_add (d_mul (d_ix (dv 0) d_int (fun _ _ => rfl)) (d_ix (dv 1) d_int (fun _ _ => rfl))) (d_mul (d_ix (dv 1) d_int (fun _ _ => rfl)) (d_ix (dv 0) d_int (fun _ _ => rfl)))) (a_cons (d_mul (d_ix (dv 0) d_int (fun _ _ => rfl)) (d_ix (dv 1) d_int (fun _ _ => rfl))) a_nil))))),
    pure_plus⟩)

abbrev s_minus : Stmt := topS 19
theorem sc_minus : FnScope N_minus ["one", "other"] (defScope s_minus) := ⟨rfl, rfl, rfl, by decide +kernel, rfl, by decide +kernel, by decide +kernel⟩
theorem ok_minus (Z : Bl mg) (T : DefT K mg "minus" s_minus) (D_made : Def P w K mg base 2 "made" ["top", "bottom"] sp_made) : Def P w K mg base 3 "minus" ["one", "other"] sp_minus := by
  exact def_mk T sc_minus (fun _ _ _ _ _ _ us hl => match us, hl with | [_, _], _ => rfl) len_minus (fun f cdv A outer s H E hr => ⟨t_minus,
    (b_one (s_ret (d_fn passO hr D_made (a_cons (d_sub (d_mul (d_ix (dv 0) d_int (fun _ _ => rfl)) (d_ix (dv 1) d_int (fun _ _ => rfl))) (d_mul (d_ix (dv 1) d_int (fun _ _ => rfl)) (d_ix (dv 0) d_int (fun _ _ => rfl)))) (a_cons (d_mul (d_ix (dv 0) d_int (fun _ _ => rfl)) (d_ix (dv 1) d_int (fun _ _ => rfl))) a_nil))))),
    pure_minus⟩)

abbrev s_times : Stmt := topS 20
theorem sc_times : FnScope N_times ["one", "other"] (defScope s_times) := ⟨rfl, rfl, rfl, by decide +kernel, rfl, by decide +kernel, by decide +kernel⟩
theorem ok_times (Z : Bl mg) (T : DefT K mg "times" s_times) (D_made : Def P w K mg base 2 "made" ["top", "bottom"] sp_made) : Def P w K mg base 3 "times" ["one", "other"] sp_times := by
  exact def_mk T sc_times (fun _ _ _ _ _ _ us hl => match us, hl with | [_, _], _ => rfl) len_times (fun f cdv A outer s H E hr => ⟨t_times,
    (b_one (s_ret (d_fn passO hr D_made (a_cons (d_mul (d_ix (dv 0) d_int (fun _ _ => rfl)) (d_ix (dv 1) d_int (fun _ _ => rfl))) (a_cons (d_mul (d_ix (dv 0) d_int (fun _ _ => rfl)) (d_ix (dv 1) d_int (fun _ _ => rfl))) a_nil))))),
    pure_times⟩)

abbrev s_by : Stmt := topS 21
theorem sc_by : FnScope N_by ["one", "other"] (defScope s_by) := ⟨rfl, rfl, rfl, by decide +kernel, rfl, by decide +kernel, by decide +kernel⟩
theorem ok_by (Z : Bl mg) (T : DefT K mg "by" s_by) (D_made : Def P w K mg base 2 "made" ["top", "bottom"] sp_made) : Def P w K mg base 3 "by" ["one", "other"] sp_by := by
  exact def_mk T sc_by (fun _ _ _ _ _ _ us hl => match us, hl with | [_, _], _ => rfl) len_by (fun f cdv A outer s H E hr => ⟨t_by,
    (b_one (s_ret (d_fn passO hr D_made (a_cons (d_mul (d_ix (dv 0) d_int (fun _ _ => rfl)) (d_ix (dv 1) d_int (fun _ _ => rfl))) (a_cons (d_mul (d_ix (dv 0) d_int (fun _ _ => rfl)) (d_ix (dv 1) d_int (fun _ _ => rfl))) a_nil))))),
    pure_by⟩)

abbrev s_is_less : Stmt := topS 22
theorem sc_is_less : FnScope N_is_less ["one", "other"] (defScope s_is_less) := ⟨rfl, rfl, rfl, by decide +kernel, rfl, by decide +kernel, by decide +kernel⟩
theorem ok_is_less (Z : Bl mg) (T : DefT K mg "is_less" s_is_less) : Def P w K mg base 1 "is_less" ["one", "other"] sp_is_less := by
  exact def_mk T sc_is_less (fun _ _ _ _ _ _ us hl => match us, hl with | [_, _], _ => rfl) len_is_less (fun f cdv A outer s H E hr => ⟨t_is_less,
    (b_one (s_ret (d_lt (d_mul (d_ix (dv 0) d_int (fun _ _ => rfl)) (d_ix (dv 1) d_int (fun _ _ => rfl))) (d_mul (d_ix (dv 1) d_int (fun _ _ => rfl)) (d_ix (dv 0) d_int (fun _ _ => rfl)))))),
    pure_is_less⟩)

abbrev s_is_share : Stmt := topS 23
theorem sc_is_share : FnScope N_is_share ["thing"] (defScope s_is_share) := ⟨rfl, rfl, rfl, by decide +kernel, rfl, by decide +kernel, by decide +kernel⟩
theorem ok_is_share (Z : Bl mg) (T : DefT K mg "is_share" s_is_share) {t_GREAT : Tok} (c_GREAT : mg "GREAT" = some (.int 100000000000000000000 t_GREAT)) (D_is_within : Def P w K mg base 1 "is_within" ["thing", "low", "high"] sp_is_within) (D_common : Def P w K mg base 1 "common" ["one", "other"] sp_common) : Def P w K mg base 2 "is_share" ["thing"] sp_is_share := by
  exact def_mk T sc_is_share (fun _ _ _ _ _ _ us hl => match us, hl with | [_], _ => rfl) len_is_share (fun f cdv A outer s H E hr => ⟨t_is_share,
    (b_cons (s_if (t_w (w_or (t_not (t_val (d_isi Z.isinstance Z.tuple (by decide +kernel) (dv 0)))) (w_or (t_ne hr.units (d_len Z.len (dv 0)) d_int) (w_or1 (t_not (t_val (d_fn passO hr D_is_within (a_cons (d_ix (dv 0) d_int (fun _ _ => rfl)) (a_cons d_int (a_cons (d_sub (d_gint (by rfl) c_GREAT) d_int) a_nil)))))))))) (b_one (s_ret d_bl)) b_nil)
    (b_one (s_ret (d_and (d_fn passO hr D_is_within (a_cons (d_ix (dv 0) d_int (fun _ _ => rfl)) (a_cons d_int (a_cons (d_ix (dv 0) d_int (fun _ _ => rfl)) a_nil)))) (d_one (d_eq hr.units (d_fn passO hr D_common (a_cons (d_ix (dv 0) d_int (fun _ _ => rfl)) (a_cons (d_ix (dv 0) d_int (fun _ _ => rfl)) a_nil))) d_int)))))),
    pure_is_share⟩)

abbrev s_are_parts : Stmt := topS 24
theorem sc_are_parts : FnScope N_are_parts ["thing"] (defScope s_are_parts) := ⟨rfl, rfl, rfl, by decide +kernel, rfl, by decide +kernel, by decide +kernel⟩
theorem ok_are_parts (Z : Bl mg) (T : DefT K mg "are_parts" s_are_parts) (D_is_share : Def P w K mg base 2 "is_share" ["thing"] sp_is_share) (D_is_less : Def P w K mg base 1 "is_less" ["one", "other"] sp_is_less) (D_plus : Def P w K mg base 3 "plus" ["one", "other"] sp_plus) : Def P w K mg base 4 "are_parts" ["thing"] sp_are_parts := by
  obtain ⟨f_is_share, fd_is_share, F_is_share⟩ := id D_is_share
  exact def_mk T sc_are_parts (fun _ _ _ _ _ _ us hl => match us, hl with | [_], _ => rfl) len_are_parts (fun f cdv A outer s H E hr => ⟨t_are_parts,
    (b_cons (s_if (t_w (w_or (t_not (t_val (d_isi Z.isinstance Z.tuple (by decide +kernel) (dv 0)))) (w_or (t_ne hr.units (d_len Z.len (dv 0)) d_int) (w_or1 (t_not (t_val (d_all rfl Z.all (d_lc (own := [("one", 1)]) rfl sc_are_parts.nd (i_tup (dv 0)) (blkOk_by (own := [("one", 1)]) (N := N_are_parts) (sc := defScope s_are_parts) (by decide +kernel))
      (fun _ _ _ _ _ => pg_name (i := 1) sc_are_parts.nd rfl (Or.inl rfl))
      (fun _ _ _ _ _ => pts_nil)
      (fun _ _ _ _ _ => (pe_call (F_is_share.1.mono (k := 3) (by decide)) hr (by rfl) F_is_share.2.1 F_is_share.2.2.1 F_is_share.2.2.2 .nil passL (pa_cons (pv 1) pa_nil)))
      (sgk_name 1) st_yes (se_call (sa_cons (se_var 1) sa_nil)))))))))) (b_one (s_ret d_bl)) b_nil)
    (b_cons (s_if (t_not (t_val (d_all rfl Z.all (d_lc (own := [("one", 1)]) rfl sc_are_parts.nd (i_tup (dv 0)) (blkOk_by (own := [("one", 1)]) (N := N_are_parts) (sc := defScope s_are_parts) (by decide +kernel))
      (fun _ _ _ _ _ => pg_name (i := 1) sc_are_parts.nd rfl (Or.inl rfl))
      (fun _ _ _ _ _ => pts_nil)
      (fun _ _ _ _ _ => (pe_chain3 op_lt op_lt op_le pe_int (pe_ix ix_seq (pv 1) pe_int (fun _ _ => rfl)) (pe_ix ix_seq (pv 1) pe_int (fun _ _ => rfl)) pe_int))
      (sgk_name 1) st_yes (se_chain3 sr_lt sr_lt sr_le se_int (se_op sr_ix (se_var 1) se_int) (se_op sr_ix (se_var 1) se_int) se_int))))) (b_one (s_ret d_bl)) b_nil)
    (b_one (s_ret (d_not (d_fn passO hr D_is_less (a_cons (d_fn passO hr D_plus (a_cons (d_ix (dv 0) d_int (fun _ _ => rfl)) (a_cons (d_ix (dv 0) d_int (fun _ _ => rfl)) a_nil))) (a_cons (d_tup (a_cons d_int (a_cons d_int a_nil))) a_nil)))))))),
    pure_are_parts⟩)

abbrev s_is_pour : Stmt := topS 25
theorem sc_is_pour : FnScope N_is_pour ["thing"] (defScope s_is_pour) := ⟨rfl, rfl, rfl, by decide +kernel, rfl, by decide +kernel, by decide +kernel⟩
theorem ok_is_pour (Z : Bl mg) (T : DefT K mg "is_pour" s_is_pour) : Def P w K mg base 1 "is_pour" ["thing"] sp_is_pour := by
  exact def_mk T sc_is_pour (fun _ _ _ _ _ _ us hl => match us, hl with | [_], _ => rfl) len_is_pour (fun f cdv A outer s H E hr => ⟨t_is_pour,
    (b_one (s_ret (d_and (d_isi Z.isinstance Z.str (by decide +kernel) (dv 0)) (d_one (d_in (dv 0) (d_tup (a_cons d_str (a_cons d_str a_nil)))))))),
    pure_is_pour⟩)

abbrev s_is_row : Stmt := topS 26
theorem sc_is_row : FnScope N_is_row ["thing"] (defScope s_is_row) := ⟨rfl, rfl, rfl, by decide +kernel, rfl, by decide +kernel, by decide +kernel⟩
theorem ok_is_row (Z : Bl mg) (T : DefT K mg "is_row" s_is_row) (D_is_pour : Def P w K mg base 1 "is_pour" ["thing"] sp_is_pour) : Def P w K mg base 2 "is_row" ["thing"] sp_is_row := by
  obtain ⟨f_is_pour, fd_is_pour, F_is_pour⟩ := id D_is_pour
  exact def_mk T sc_is_row (fun _ _ _ _ _ _ us hl => match us, hl with | [_], _ => rfl) len_is_row (fun f cdv A outer s H E hr => ⟨t_is_row,
    (b_one (s_ret (d_and (d_isi Z.isinstance Z.tuple (by decide +kernel) (dv 0)) (d_and (d_le (d_len Z.len (dv 0)) d_int) (d_one (d_all rfl Z.all (d_lc (own := [("pour", 1)]) rfl sc_is_row.nd (i_tup (dv 0)) (blkOk_by (own := [("pour", 1)]) (N := N_is_row) (sc := defScope s_is_row) (by decide +kernel))
      (fun _ _ _ _ _ => pg_name (i := 1) sc_is_row.nd rfl (Or.inl rfl))
      (fun _ _ _ _ _ => pts_nil)
      (fun _ _ _ _ _ => (pe_call (F_is_pour.1.mono (k := 1) (by decide)) hr (by rfl) F_is_pour.2.1 F_is_pour.2.2.1 F_is_pour.2.2.2 .nil passL (pa_cons (pv 1) pa_nil)))
      (sgk_name 1) st_yes (se_call (sa_cons (se_var 1) sa_nil))))))))),
    pure_is_row⟩)

abbrev s_need_parts : Stmt := topS 27
theorem sc_need_parts : FnScope N_need_parts ["parts"] (defScope s_need_parts) := ⟨rfl, rfl, rfl, by decide +kernel, rfl, by decide +kernel, by decide +kernel⟩
theorem ok_need_parts (Z : Bl mg) (T : DefT K mg "need_parts" s_need_parts) (R_NoParts : Ref K mg "NoParts" er.NoParts) (D_are_parts : Def P w K mg base 4 "are_parts" ["thing"] sp_are_parts) : Def P w K mg base 5 "need_parts" ["parts"] (sp_need_parts er) := by
  exact def_mk T sc_need_parts (fun _ _ _ _ _ _ us hl => match us, hl with | [_], _ => rfl) (len_need_parts er) (fun f cdv A outer s H E hr => ⟨t_need_parts er,
    (b_one (s_if (t_not (t_val (d_fn passO hr D_are_parts (a_cons (dv 0) a_nil)))) (b_one (s_raise R_NoParts)) b_nil)),
    (pure_need_parts er)⟩)

abbrev s_need_share : Stmt := topS 28
theorem sc_need_share : FnScope N_need_share ["share"] (defScope s_need_share) := ⟨rfl, rfl, rfl, by decide +kernel, rfl, by decide +kernel, by decide +kernel⟩
theorem ok_need_share (Z : Bl mg) (T : DefT K mg "need_share" s_need_share) (R_NoShare : Ref K mg "NoShare" er.NoShare) (D_is_share : Def P w K mg base 2 "is_share" ["thing"] sp_is_share) : Def P w K mg base 3 "need_share" ["share"] (sp_need_share er) := by
  exact def_mk T sc_need_share (fun _ _ _ _ _ _ us hl => match us, hl with | [_], _ => rfl) (len_need_share er) (fun f cdv A outer s H E hr => ⟨t_need_share er,
    (b_one (s_if (t_not (t_val (d_fn passO hr D_is_share (a_cons (dv 0) a_nil)))) (b_one (s_raise R_NoShare)) b_nil)),
    (pure_need_share er)⟩)

abbrev s_need_row : Stmt := topS 29
theorem sc_need_row : FnScope N_need_row ["row"] (defScope s_need_row) := ⟨rfl, rfl, rfl, by decide +kernel, rfl, by decide +kernel, by decide +kernel⟩
theorem ok_need_row (Z : Bl mg) (T : DefT K mg "need_row" s_need_row) (R_NoRow : Ref K mg "NoRow" er.NoRow) (D_is_row : Def P w K mg base 2 "is_row" ["thing"] sp_is_row) : Def P w K mg base 3 "need_row" ["row"] (sp_need_row er) := by
  exact def_mk T sc_need_row (fun _ _ _ _ _ _ us hl => match us, hl with | [_], _ => rfl) (len_need_row er) (fun f cdv A outer s H E hr => ⟨t_need_row er,
    (b_one (s_if (t_not (t_val (d_fn passO hr D_is_row (a_cons (dv 0) a_nil)))) (b_one (s_raise R_NoRow)) b_nil)),
    (pure_need_row er)⟩)

abbrev s_poured : Stmt := topS 30
theorem sc_poured : FnScope N_poured ["parts", "share", "pour"] (defScope s_poured) := ⟨rfl, rfl, rfl, by decide +kernel, rfl, by decide +kernel, by decide +kernel⟩
theorem ok_poured (Z : Bl mg) (T : DefT K mg "poured" s_poured) (D_times : Def P w K mg base 3 "times" ["one", "other"] sp_times) (D_minus : Def P w K mg base 3 "minus" ["one", "other"] sp_minus) (D_plus : Def P w K mg base 3 "plus" ["one", "other"] sp_plus) : Def P w K mg base 4 "poured" ["parts", "share", "pour"] sp_poured := by
  exact def_mk T sc_poured (fun _ _ _ _ _ _ us hl => match us, hl with | [_, _, _], _ => rfl) len_poured (fun f cdv A outer s H E hr => ⟨t_poured,
    (b_cons (s_if (t_eq hr.units (dv 2) d_str) (b_one (s_ret (d_fn passO hr D_times (a_cons (dv 1) (a_cons (d_fn passO hr D_minus (a_cons (d_tup (a_cons d_int (a_cons d_int a_nil))) (a_cons (d_ix (dv 0) d_int (fun _ _ => rfl)) a_nil))) a_nil))))) b_nil)
    (b_one (s_ret (d_fn passO hr D_plus (a_cons (d_fn passO hr D_times (a_cons (dv 1) (a_cons (d_fn passO hr D_minus (a_cons (d_tup (a_cons d_int (a_cons d_int a_nil))) (a_cons (d_ix (dv 0) d_int (fun _ _ => rfl)) a_nil))) a_nil))) (a_cons (d_ix (dv 0) d_int (fun _ _ => rfl)) a_nil)))))),
    pure_poured⟩)

abbrev s_unpoured : Stmt := topS 32
theorem sc_unpoured : FnScope N_unpoured ["parts", "share", "pour"] (defScope s_unpoured) := ⟨rfl, rfl, rfl, by decide +kernel, rfl, by decide +kernel, by decide +kernel⟩
theorem ok_unpoured (Z : Bl mg) (T : DefT K mg "unpoured" s_unpoured) (D_by : Def P w K mg base 3 "by" ["one", "other"] sp_by) (D_minus : Def P w K mg base 3 "minus" ["one", "other"] sp_minus) : Def P w K mg base 4 "unpoured" ["parts", "share", "pour"] sp_unpoured := by
  exact def_mk T sc_unpoured (fun _ _ _ _ _ _ us hl => match us, hl with | [_, _, _], _ => rfl) len_unpoured (fun f cdv A outer s H E hr => ⟨t_unpoured,
    (b_cons (s_if (t_eq hr.units (dv 2) d_str) (b_one (s_ret (d_fn passO hr D_by (a_cons (dv 1) (a_cons (d_fn passO hr D_minus (a_cons (d_tup (a_cons d_int (a_cons d_int a_nil))) (a_cons (d_ix (dv 0) d_int (fun _ _ => rfl)) a_nil))) a_nil))))) b_nil)
    (b_one (s_ret (d_fn passO hr D_by (a_cons (d_fn passO hr D_minus (a_cons (dv 1) (a_cons (d_ix (dv 0) d_int (fun _ _ => rfl)) a_nil))) (a_cons (d_fn passO hr D_minus (a_cons (d_tup (a_cons d_int (a_cons d_int a_nil))) (a_cons (d_ix (dv 0) d_int (fun _ _ => rfl)) a_nil))) a_nil)))))),
    pure_unpoured⟩)

abbrev s_end_of : Stmt := topS 33
theorem sc_end_of : FnScope N_end_of ["parts", "share", "row"] (defScope s_end_of) := ⟨rfl, rfl, rfl, by decide +kernel, rfl, by decide +kernel, by decide +kernel⟩
theorem ok_end_of (Z : Bl mg) (T : DefT K mg "end_of" s_end_of) (D_poured_pours : Def P w K mg base 4 "poured_pours" ["parts", "share", "pour"] sp_poured) : Def P w K mg base 5 "end_of" ["parts", "share", "row"] sp_end_of := by
  exact def_mk T sc_end_of (fun _ _ _ _ _ _ us hl => match us, hl with | [_, _, _], _ => rfl) len_end_of (fun f cdv A outer s H E hr => ⟨t_end_of,
    (b_cons (s_for passF rfl (i_tup (dv 2)) (g_name (i := 3) sc_end_of.nd rfl (Or.inl rfl))
    (b_one (s_set (i := 1) sc_end_of.nd rfl (Or.inl rfl) (d_fn passO hr D_poured_pours (a_cons (dv 0) (a_cons (dv 1) (a_cons (dv 3) a_nil)))))))
    (b_one (s_ret (dv 1)))),
    pure_end_of⟩)

abbrev s_behind : Stmt := topS 34
theorem sc_behind : FnScope N_behind ["parts", "share", "row"] (defScope s_behind) := ⟨rfl, rfl, rfl, by decide +kernel, rfl, by decide +kernel, by decide +kernel⟩
theorem ok_behind (Z : Bl mg) (T : DefT K mg "behind" s_behind) (D_need_parts : Def P w K mg base 5 "need_parts" ["parts"] (sp_need_parts er)) (D_need_share : Def P w K mg base 3 "need_share" ["share"] (sp_need_share er)) (D_need_row : Def P w K mg base 3 "need_row" ["row"] (sp_need_row er)) (D_end_of : Def P w K mg base 5 "end_of" ["parts", "share", "row"] sp_end_of) : Def P w K mg base 6 "behind" ["parts", "share", "row"] (sp_behind er) := by
  exact def_mk T sc_behind (fun _ _ _ _ _ _ us hl => match us, hl with | [_, _, _], _ => rfl) (len_behind er) (fun f cdv A outer s H E hr => ⟨t_behind er,
    (b_cons (s_expr (d_fn passO hr D_need_parts (a_cons (dv 0) a_nil)))
    (b_cons (s_expr (d_fn passO hr D_need_share (a_cons (dv 1) a_nil)))
    (b_cons (s_expr (d_fn passO hr D_need_row (a_cons (dv 2) a_nil)))
    (b_one (s_ret (d_fn passO hr D_end_of (a_cons (dv 0) (a_cons (dv 1) (a_cons (dv 2) a_nil))))))))),
    (pure_behind er)⟩)

abbrev s_is_between : Stmt := topS 37
theorem sc_is_between : FnScope N_is_between ["share"] (defScope s_is_between) := ⟨rfl, rfl, rfl, by decide +kernel, rfl, by decide +kernel, by decide +kernel⟩
theorem ok_is_between (Z : Bl mg) (T : DefT K mg "is_between" s_is_between) (D_is_less : Def P w K mg base 1 "is_less" ["one", "other"] sp_is_less) : Def P w K mg base 2 "is_between" ["share"] sp_is_between := by
  exact def_mk T sc_is_between (fun _ _ _ _ _ _ us hl => match us, hl with | [_], _ => rfl) len_is_between (fun f cdv A outer s H E hr => ⟨t_is_between,
    (b_one (s_ret (d_and (d_ge (d_ix (dv 0) d_int (fun _ _ => rfl)) d_int) (d_one (d_not (d_fn passO hr D_is_less (a_cons (d_tup (a_cons d_int (a_cons d_int a_nil))) (a_cons (dv 0) a_nil)))))))),
    pure_is_between⟩)

abbrev s_one_back : Stmt := topS 38
theorem sc_one_back : FnScope N_one_back ["parts", "states"] (defScope s_one_back) := ⟨rfl, rfl, rfl, by decide +kernel, rfl, by decide +kernel, by decide +kernel⟩
theorem ok_one_back (Z : Bl mg) (T : DefT K mg "one_back" s_one_back) (c_WAYS : CTup K mg "WAYS" ["right", "left"]) (D_is_between : Def P w K mg base 2 "is_between" ["share"] sp_is_between) (D_unpoured : Def P w K mg base 4 "unpoured" ["parts", "share", "pour"] sp_unpoured) : DefN P w K mg base 5 "one_back" ["parts", "states"] sp_one_back := by
  exact defN_mk T sc_one_back (fun _ _ _ _ _ _ us hl => match us, hl with | [_, _], _ => rfl) len_one_back (fun f cdv A outer s H E hr => ⟨t_one_back,
    (ob_cons (os_newL (i := 2) sc_one_back.nd rfl (Or.inl rfl) a_nil)
    (ob_cons (os_for passF rfl (i_lst (dv 1)) (g_tup rfl (gs_cons (g_name (i := 3) sc_one_back.nd rfl (Or.inl rfl)) (gs_cons (g_name (i := 4) sc_one_back.nd rfl (Or.inl rfl)) gs_nil)))
    (ob_one (os_for passF rfl (i_tup (d_ctup (ss := ["right", "left"]) (by rfl) c_WAYS)) (g_name (i := 5) sc_one_back.nd rfl (Or.inl rfl))
    (ob_cons (os_lift (s_set (i := 6) sc_one_back.nd rfl (Or.inl rfl) (d_fn passO hr D_unpoured (a_cons (dv 0) (a_cons (dv 4) (a_cons (dv 5) a_nil))))))
    (ob_one (os_if (t_val (d_fn passO hr D_is_between (a_cons (dv 6) a_nil))) (ob_one (os_app (i := 2) (d_tup (a_cons (d_cat (d_tup (a_cons (dv 5) a_nil)) (dv 3)) (a_cons (dv 6) a_nil))))) ob_nil))))))
    (ob_one (os_retN (i := 2))))),
    pure_one_back⟩)

abbrev s_rows_to : Stmt := topS 39
theorem sc_rows_to : FnScope N_rows_to ["parts", "share", "many"] (defScope s_rows_to) := ⟨rfl, rfl, rfl, by decide +kernel, rfl, by decide +kernel, by decide +kernel⟩
theorem ok_rows_to (Z : Bl mg) (T : DefT K mg "rows_to" s_rows_to) (R_NoMany : Ref K mg "NoMany" er.NoMany) (D_one_back : DefN P w K mg base 5 "one_back" ["parts", "states"] sp_one_back) (D_is_within : Def P w K mg base 1 "is_within" ["thing", "low", "high"] sp_is_within) (D_need_share : Def P w K mg base 3 "need_share" ["share"] (sp_need_share er)) (D_need_parts : Def P w K mg base 5 "need_parts" ["parts"] (sp_need_parts er)) : DefN P w K mg base 6 "rows_to" ["parts", "share", "many"] (sp_rows_to er) := by
  exact defN_mk T sc_rows_to (fun _ _ _ _ _ _ us hl => match us, hl with | [_, _, _], _ => rfl) (len_rows_to er) (fun f cdv A outer s H E hr => ⟨t_rows_to er,
    (ob_cons (os_lift (s_expr (d_fn passO hr D_need_parts (a_cons (dv 0) a_nil))))
    (ob_cons (os_lift (s_expr (d_fn passO hr D_need_share (a_cons (dv 1) a_nil))))
    (ob_cons (os_lift (s_if (t_not (t_val (d_fn passO hr D_is_within (a_cons (dv 2) (a_cons d_int (a_cons d_int a_nil)))))) (b_one (s_raise R_NoMany)) b_nil))
    (ob_cons (os_newL (i := 3) sc_rows_to.nd rfl (Or.inl rfl) (a_cons (d_tup (a_cons (d_tup a_nil) (a_cons (dv 1) a_nil))) a_nil))
    (ob_cons (os_for passF rfl (i_rng1 Z.range (dv 2)) (g_name (i := 4) sc_rows_to.nd rfl (Or.inl rfl))
    (ob_frz 3 (ob_one (os_setN (i := 3) passO hr D_one_back sc_rows_to.nd rfl (Or.inl rfl) (a_cons (dv 0) (a_cons (dv 3) a_nil))))))
    (ob_one (os_retN (i := 3)))))))),
    (pure_rows_to er)⟩)

abbrev s_fewest_to : Stmt := topS 40
theorem sc_fewest_to : FnScope N_fewest_to ["parts", "share", "other"] (defScope s_fewest_to) := ⟨rfl, rfl, rfl, by decide +kernel, rfl, by decide +kernel, by decide +kernel⟩
theorem ok_fewest_to (Z : Bl mg) (T : DefT K mg "fewest_to" s_fewest_to) (D_need_parts : Def P w K mg base 5 "need_parts" ["parts"] (sp_need_parts er)) (D_need_share : Def P w K mg base 3 "need_share" ["share"] (sp_need_share er)) (D_one_back : DefN P w K mg base 5 "one_back" ["parts", "states"] sp_one_back) : Def P w K mg base 6 "fewest_to" ["parts", "share", "other"] (sp_fewest_to er) := by
  exact def_mk T sc_fewest_to (fun _ _ _ _ _ _ us hl => match us, hl with | [_, _, _], _ => rfl) (len_fewest_to er) (fun f cdv A outer s H E hr => ⟨t_fewest_to er,
    (b_cons (s_expr (d_fn passO hr D_need_parts (a_cons (dv 0) a_nil)))
    (b_cons (s_expr (d_fn passO hr D_need_share (a_cons (dv 1) a_nil)))
    (b_cons (s_expr (d_fn passO hr D_need_share (a_cons (dv 2) a_nil)))
    (b_cons (s_set (i := 3) sc_fewest_to.nd rfl (Or.inl rfl) (d_lst (a_cons (d_tup (a_cons (d_tup a_nil) (a_cons (dv 2) a_nil))) a_nil)))
    (b_cons (s_for passF rfl (i_rng1 Z.range d_int) (g_name (i := 4) sc_fewest_to.nd rfl (Or.inl rfl))
    (b_cons (s_for passF rfl (i_lst (dv 3)) (g_tup rfl (gs_cons (g_name (i := 5) sc_fewest_to.nd rfl (Or.inl rfl)) (gs_cons (g_name (i := 6) sc_fewest_to.nd rfl (Or.inl rfl)) gs_nil)))
    (b_one (s_if (t_eq hr.units (dv 6) (dv 1)) (b_one (s_ret (dv 5))) b_nil)))
    (b_one (s_set (i := 3) sc_fewest_to.nd rfl (Or.inl rfl) (d_fn passO hr (D_one_back).toDef (a_cons (dv 0) (a_cons (dv 3) a_nil)))))))
    (b_one (s_ret d_non))))))),
    (pure_fewest_to er)⟩)

abbrev s_unseen : Stmt := topS 41
theorem sc_unseen : FnScope N_unseen ["parts", "share", "row", "place", "other"] (defScope s_unseen) := ⟨rfl, rfl, rfl, by decide +kernel, rfl, by decide +kernel, by decide +kernel⟩
theorem ok_unseen (Z : Bl mg) (T : DefT K mg "unseen" s_unseen) (c_WAYS : CTup K mg "WAYS" ["right", "left"]) (R_NoPlace : Ref K mg "NoPlace" er.NoPlace) (D_need_parts : Def P w K mg base 5 "need_parts" ["parts"] (sp_need_parts er)) (D_need_share : Def P w K mg base 3 "need_share" ["share"] (sp_need_share er)) (D_need_row : Def P w K mg base 3 "need_row" ["row"] (sp_need_row er)) (D_is_within : Def P w K mg base 1 "is_within" ["thing", "low", "high"] sp_is_within) (D_end_of : Def P w K mg base 5 "end_of" ["parts", "share", "row"] sp_end_of) (D_poured_pours : Def P w K mg base 4 "poured_pours" ["parts", "share", "pour"] sp_poured) : Def P w K mg base 6 "unseen" ["parts", "share", "row", "place", "other"] (sp_unseen er) := by
  exact def_mk T sc_unseen (fun _ _ _ _ _ _ us hl => match us, hl with | [_, _, _, _, _], _ => rfl) (len_unseen er) (fun f cdv A outer s H E hr => ⟨t_unseen er,
    (b_cons (s_expr (d_fn passO hr D_need_parts (a_cons (dv 0) a_nil)))
    (b_cons (s_expr (d_fn passO hr D_need_share (a_cons (dv 1) a_nil)))
    (b_cons (s_expr (d_fn passO hr D_need_row (a_cons (dv 2) a_nil)))
    (b_cons (s_if (t_not (t_val (d_fn passO hr D_is_within (a_cons (dv 3) (a_cons d_int (a_cons (d_sub (d_len Z.len (dv 2)) d_int) a_nil)))))) (b_one (s_raise R_NoPlace)) b_nil)
    (b_cons (s_expr (d_fn passO hr D_need_share (a_cons (dv 4) a_nil)))
    (b_cons (s_set (i := 5) sc_unseen.nd rfl (Or.inl rfl) (d_fn passO hr D_end_of (a_cons (dv 0) (a_cons (dv 1) (a_cons (d_slT (dv 2) o_none (o_some (dv 3))) a_nil)))))
    (b_cons (s_for passF rfl (i_tup (d_ctup (ss := ["right", "left"]) (by rfl) c_WAYS)) (g_name (i := 6) sc_unseen.nd rfl (Or.inl rfl))
    (b_one (s_if (t_eq hr.units (d_fn passO hr D_end_of (a_cons (dv 0) (a_cons (d_fn passO hr D_poured_pours (a_cons (dv 0) (a_cons (dv 5) (a_cons (dv 6) a_nil)))) (a_cons (d_slT (dv 2) (o_some (d_add (dv 3) d_int)) o_none) a_nil)))) (dv 4)) (b_one (s_ret (dv 6))) b_nil)))
    (b_one (s_ret d_non))))))))),
    (pure_unseen er)⟩)

abbrev s_ways : Stmt := topS 43
theorem sc_ways : FnScope N_ways ["many", "some"] (defScope s_ways) := ⟨rfl, rfl, rfl, by decide +kernel, rfl, by decide +kernel, by decide +kernel⟩
theorem ok_ways (Z : Bl mg) (T : DefT K mg "ways" s_ways) : Def P w K mg base 1 "ways" ["many", "some"] sp_ways := by
  exact def_mk T sc_ways (fun _ _ _ _ _ _ us hl => match us, hl with | [_, _], _ => rfl) len_ways (fun f cdv A outer s H E hr => ⟨t_ways,
    (b_cons (s_set (i := 2) sc_ways.nd rfl (Or.inl rfl) d_int)
    (b_cons (s_for passF rfl (i_rng1 Z.range (dv 0)) (g_name (i := 3) sc_ways.nd rfl (Or.inl rfl))
    (b_one (s_set (i := 2) sc_ways.nd rfl (Or.inl rfl) (d_div (d_mul (dv 2) (d_sub (dv 1) (dv 3))) (d_add (dv 3) d_int)))))
    (b_one (s_ret (dv 2))))),
    pure_ways⟩)

abbrev s_count : Stmt := topS 44
theorem sc_count : FnScope N_count ["many", "lefts"] (defScope s_count) := ⟨rfl, rfl, rfl, by decide +kernel, rfl, by decide +kernel, by decide +kernel⟩
theorem ok_count (Z : Bl mg) (T : DefT K mg "count" s_count) (D_ways : Def P w K mg base 1 "ways" ["many", "some"] sp_ways) : Def P w K mg base 2 "count" ["many", "lefts"] sp_count := by
  exact def_mk T sc_count (fun _ _ _ _ _ _ us hl => match us, hl with | [_, _], _ => rfl) len_count (fun f cdv A outer s H E hr => ⟨t_count,
    (b_cons (s_if (t_isN (dv 1)) (b_cons (s_set (i := 2) sc_count.nd rfl (Or.inl rfl) d_int)
    (b_cons (s_for passF rfl (i_rng1 Z.range (dv 0)) (g_name (i := 3) sc_count.nd rfl (Or.inl rfl))
    (b_one (s_set (i := 2) sc_count.nd rfl (Or.inl rfl) (d_mul d_int (dv 2)))))
    (b_one (s_ret (dv 2))))) b_nil)
    (b_one (s_ret (d_if (t_chain op_le op_le sr_le sr_le d_int (dv 1) (dv 0)) (d_fn passO hr D_ways (a_cons (dv 1) (a_cons (dv 0) a_nil))) d_int)))),
    pure_count⟩)

abbrev s_need_many : Stmt := topS 45
theorem sc_need_many : FnScope N_need_many ["many", "lefts"] (defScope s_need_many) := ⟨rfl, rfl, rfl, by decide +kernel, rfl, by decide +kernel, by decide +kernel⟩
theorem ok_need_many (Z : Bl mg) (T : DefT K mg "need_many" s_need_many) (R_NoMany : Ref K mg "NoMany" er.NoMany) (R_NoLefts : Ref K mg "NoLefts" er.NoLefts) (D_is_within : Def P w K mg base 1 "is_within" ["thing", "low", "high"] sp_is_within) : Def P w K mg base 2 "need_many" ["many", "lefts"] (sp_need_many er) := by
  exact def_mk T sc_need_many (fun _ _ _ _ _ _ us hl => match us, hl with | [_, _], _ => rfl) (len_need_many er) (fun f cdv A outer s H E hr => ⟨t_need_many er,
    (b_cons (s_if (t_not (t_val (d_fn passO hr D_is_within (a_cons (dv 0) (a_cons d_int (a_cons d_int a_nil)))))) (b_one (s_raise R_NoMany)) b_nil)
    (b_one (s_if (t_w (w_and (t_notN (dv 1)) (w_and1 (t_not (t_val (d_fn passO hr D_is_within (a_cons (dv 1) (a_cons d_int (a_cons (dv 0) a_nil))))))))) (b_one (s_raise R_NoLefts)) b_nil))),
    (pure_need_many er)⟩)

abbrev s_numbered : Stmt := topS 46
theorem sc_numbered : FnScope N_numbered ["many", "lefts", "number"] (defScope s_numbered) := ⟨rfl, rfl, rfl, by decide +kernel, rfl, by decide +kernel, by decide +kernel⟩
theorem ok_numbered (Z : Bl mg) (T : DefT K mg "numbered" s_numbered) (D_count : Def P w K mg base 2 "count" ["many", "lefts"] sp_count) : Def P w K mg base 3 "numbered" ["many", "lefts", "number"] sp_numbered := by
  exact def_mk T sc_numbered (fun _ _ _ _ _ _ us hl => match us, hl with | [_, _, _], _ => rfl) len_numbered (fun f cdv A outer s H E hr => ⟨t_numbered,
    (b_cons (s_set (i := 3) sc_numbered.nd rfl (Or.inl rfl) (d_tup a_nil))
    (b_cons (s_while passF (t_gt (dv 0) d_int)
    (b_cons (s_set (i := 0) sc_numbered.nd rfl (Or.inl rfl) (d_sub (dv 0) d_int))
    (b_cons (s_set (i := 4) sc_numbered.nd rfl (Or.inl rfl) (d_fn passO hr D_count (a_cons (dv 0) (a_cons (dv 1) a_nil))))
    (b_one (s_if (t_lt (dv 2) (dv 4)) (b_one (s_set (i := 3) sc_numbered.nd rfl (Or.inl rfl) (d_cat (d_tup (a_cons d_str a_nil)) (dv 3)))) (b_cons (s_set (i := 2) sc_numbered.nd rfl (Or.inl rfl) (d_sub (dv 2) (dv 4)))
    (b_cons (s_set (i := 3) sc_numbered.nd rfl (Or.inl rfl) (d_cat (d_tup (a_cons d_str a_nil)) (dv 3)))
    (b_one (s_set (i := 1) sc_numbered.nd rfl (Or.inl rfl) (d_if (t_isN (dv 1)) d_non (d_sub (dv 1) d_int)))))))))))
    (b_one (s_ret (dv 3))))),
    pure_numbered⟩)

abbrev s_row_of : Stmt := topS 47
theorem sc_row_of : FnScope N_row_of ["many", "lefts", "number"] (defScope s_row_of) := ⟨rfl, rfl, rfl, by decide +kernel, rfl, by decide +kernel, by decide +kernel⟩
theorem ok_row_of (Z : Bl mg) (T : DefT K mg "row_of" s_row_of) (R_NoNumber : Ref K mg "NoNumber" er.NoNumber) (D_need_many : Def P w K mg base 2 "need_many" ["many", "lefts"] (sp_need_many er)) (D_is_within : Def P w K mg base 1 "is_within" ["thing", "low", "high"] sp_is_within) (D_count : Def P w K mg base 2 "count" ["many", "lefts"] sp_count) (D_numbered : Def P w K mg base 3 "numbered" ["many", "lefts", "number"] sp_numbered) : Def P w K mg base 4 "row_of" ["many", "lefts", "number"] (sp_row_of er) := by
  exact def_mk T sc_row_of (fun _ _ _ _ _ _ us hl => match us, hl with | [_, _, _], _ => rfl) (len_row_of er) (fun f cdv A outer s H E hr => ⟨t_row_of er,
    (b_cons (s_expr (d_fn passO hr D_need_many (a_cons (dv 0) (a_cons (dv 1) a_nil))))
    (b_cons (s_if (t_not (t_val (d_fn passO hr D_is_within (a_cons (dv 2) (a_cons d_int (a_cons (d_sub (d_fn passO hr D_count (a_cons (dv 0) (a_cons (dv 1) a_nil))) d_int) a_nil)))))) (b_one (s_raise R_NoNumber)) b_nil)
    (b_one (s_ret (d_fn passO hr D_numbered (a_cons (dv 0) (a_cons (dv 1) (a_cons (dv 2) a_nil)))))))),
    (pure_row_of er)⟩)

abbrev s_number_of : Stmt := topS 48
theorem sc_number_of : FnScope N_number_of ["row", "any_lefts"] (defScope s_number_of) := ⟨rfl, rfl, rfl, by decide +kernel, rfl, by decide +kernel, by decide +kernel⟩
theorem ok_number_of (Z : Bl mg) (T : DefT K mg "number_of" s_number_of) (R_NoLefts : Ref K mg "NoLefts" er.NoLefts) (D_need_row : Def P w K mg base 3 "need_row" ["row"] (sp_need_row er)) (D_count : Def P w K mg base 2 "count" ["many", "lefts"] sp_count) : Def P w K mg base 4 "number_of" ["row", "any_lefts"] (sp_number_of er) := by
  exact def_mk T sc_number_of (fun _ _ _ _ _ _ us hl => match us, hl with | [_, _], _ => rfl) (len_number_of er) (fun f cdv A outer s H E hr => ⟨t_number_of er,
    (b_cons (s_expr (d_fn passO hr D_need_row (a_cons (dv 0) a_nil)))
    (b_cons (s_if (t_not (t_val (d_isi Z.isinstance Z.bool (by decide +kernel) (dv 1)))) (b_one (s_raise R_NoLefts)) b_nil)
    (b_cons (s_par (i := 3) (j := 4) rfl sc_number_of.nd rfl rfl (by decide) rfl rfl (d_if (t_val (dv 1)) d_non (d_cnt (dv 0))) d_int)
    (b_cons (s_for passF rfl (i_rng3 Z.range (d_sub (d_len Z.len (dv 0)) d_int) (d_neg d_int) (d_neg d_int)) (g_name (i := 2) sc_number_of.nd rfl (Or.inl rfl))
    (b_one (s_if (t_eq hr.units (d_ix (dv 0) (dv 2) (fun _ _ => rfl)) d_str) (b_cons (s_set (i := 4) sc_number_of.nd rfl (Or.inl rfl) (d_add (dv 4) (d_fn passO hr D_count (a_cons (dv 2) (a_cons (dv 3) a_nil)))))
    (b_one (s_set (i := 3) sc_number_of.nd rfl (Or.inl rfl) (d_if (t_isN (dv 3)) d_non (d_sub (dv 3) d_int))))) b_nil)))
    (b_one (s_ret (dv 4))))))),
    (pure_number_of er)⟩)

abbrev s_ending_at_most : Stmt := topS 49
theorem sc_ending_at_most : FnScope N_ending_at_most ["parts", "share", "many", "lefts", "wished"] (defScope s_ending_at_most) := ⟨rfl, rfl, rfl, by decide +kernel, rfl, by decide +kernel, by decide +kernel⟩
theorem ok_ending_at_most (Z : Bl mg) (T : DefT K mg "ending_at_most" s_ending_at_most) (D_unpoured : Def P w K mg base 4 "unpoured" ["parts", "share", "pour"] sp_unpoured) (D_is_less : Def P w K mg base 1 "is_less" ["one", "other"] sp_is_less) (D_count : Def P w K mg base 2 "count" ["many", "lefts"] sp_count) : Def P w K mg base 5 "ending_at_most" ["parts", "share", "many", "lefts", "wished"] sp_ending_at_most := by
  exact def_mk T sc_ending_at_most (fun _ _ _ _ _ _ us hl => match us, hl with | [_, _, _, _, _], _ => rfl) len_ending_at_most (fun f cdv A outer s H E hr => ⟨t_ending_at_most,
    (b_cons (s_set (i := 5) sc_ending_at_most.nd rfl (Or.inl rfl) d_int)
    (b_cons (s_while passF (t_gt (dv 2) d_int)
    (b_cons (s_set (i := 2) sc_ending_at_most.nd rfl (Or.inl rfl) (d_sub (dv 2) d_int))
    (b_cons (s_set (i := 6) sc_ending_at_most.nd rfl (Or.inl rfl) (d_fn passO hr D_unpoured (a_cons (dv 0) (a_cons (dv 4) (a_cons d_str a_nil)))))
    (b_cut (s_if (t_val (d_fn passO hr D_is_less (a_cons (dv 6) (a_cons (d_tup (a_cons d_int (a_cons d_int a_nil))) a_nil)))) (b_one (s_set (i := 4) sc_ending_at_most.nd rfl (Or.inl rfl) (dv 6))) (b_cons (s_set (i := 5) sc_ending_at_most.nd rfl (Or.inl rfl) (d_add (dv 5) (d_fn passO hr D_count (a_cons (dv 2) (a_cons (dv 3) a_nil)))))
    (b_cons (s_set (i := 4) sc_ending_at_most.nd rfl (Or.inl rfl) (d_fn passO hr D_unpoured (a_cons (dv 0) (a_cons (dv 4) (a_cons d_str a_nil)))))
    (b_one (s_set (i := 3) sc_ending_at_most.nd rfl (Or.inl rfl) (d_if (t_isN (dv 3)) d_non (d_sub (dv 3) d_int)))))))
    (b_cons (s_if (t_w (w_or (t_lt (d_ix (dv 4) d_int (fun _ _ => rfl)) d_int) (w_or1 (t_w (w_and (t_notN (dv 3)) (w_and1 (t_lt (dv 3) d_int))))))) (b_one (s_ret (dv 5))) b_nil)
    (b_one (s_if (t_not (t_val (d_fn passO hr D_is_less (a_cons (dv 4) (a_cons (d_tup (a_cons d_int (a_cons d_int a_nil))) a_nil))))) (b_one (s_ret (d_add (dv 5) (d_fn passO hr D_count (a_cons (dv 2) (a_cons (dv 3) a_nil)))))) b_nil)))))))
    (b_one (s_ret (d_add (dv 5) (d_intb Z.int (d_and (d_not (d_fn passO hr D_is_less (a_cons (dv 4) (a_cons (dv 1) a_nil)))) (d_one (d_in (dv 3) (d_tup (a_cons d_non (a_cons d_int a_nil)))))))))))),
    pure_ending_at_most⟩)

abbrev s_at_most : Stmt := topS 50
theorem sc_at_most : FnScope N_at_most ["parts", "share", "many", "lefts", "wished"] (defScope s_at_most) := ⟨rfl, rfl, rfl, by decide +kernel, rfl, by decide +kernel, by decide +kernel⟩
theorem ok_at_most (Z : Bl mg) (T : DefT K mg "at_most" s_at_most) (D_need_parts : Def P w K mg base 5 "need_parts" ["parts"] (sp_need_parts er)) (D_need_share : Def P w K mg base 3 "need_share" ["share"] (sp_need_share er)) (D_need_many : Def P w K mg base 2 "need_many" ["many", "lefts"] (sp_need_many er)) (D_ending_at_most : Def P w K mg base 5 "ending_at_most" ["parts", "share", "many", "lefts", "wished"] sp_ending_at_most) : Def P w K mg base 6 "at_most" ["parts", "share", "many", "lefts", "wished"] (sp_at_most er) := by
  exact def_mk T sc_at_most (fun _ _ _ _ _ _ us hl => match us, hl with | [_, _, _, _, _], _ => rfl) (len_at_most er) (fun f cdv A outer s H E hr => ⟨t_at_most er,
    (b_cons (s_expr (d_fn passO hr D_need_parts (a_cons (dv 0) a_nil)))
    (b_cons (s_expr (d_fn passO hr D_need_share (a_cons (dv 1) a_nil)))
    (b_cons (s_expr (d_fn passO hr D_need_many (a_cons (dv 2) (a_cons (dv 3) a_nil))))
    (b_cons (s_expr (d_fn passO hr D_need_share (a_cons (dv 4) a_nil)))
    (b_one (s_ret (d_fn passO hr D_ending_at_most (a_cons (dv 0) (a_cons (dv 1) (a_cons (dv 2) (a_cons (dv 3) (a_cons (dv 4) a_nil)))))))))))),
    (pure_at_most er)⟩)

abbrev s_far : Stmt := topS 51
theorem sc_far : FnScope N_far ["one", "other"] (defScope s_far) := ⟨rfl, rfl, rfl, by decide +kernel, rfl, by decide +kernel, by decide +kernel⟩
theorem ok_far (Z : Bl mg) (T : DefT K mg "far" s_far) (D_is_less : Def P w K mg base 1 "is_less" ["one", "other"] sp_is_less) (D_minus : Def P w K mg base 3 "minus" ["one", "other"] sp_minus) : Def P w K mg base 4 "far" ["one", "other"] sp_far := by
  exact def_mk T sc_far (fun _ _ _ _ _ _ us hl => match us, hl with | [_, _], _ => rfl) len_far (fun f cdv A outer s H E hr => ⟨t_far,
    (b_one (s_ret (d_if (t_val (d_fn passO hr D_is_less (a_cons (dv 0) (a_cons (dv 1) a_nil)))) (d_fn passO hr D_minus (a_cons (dv 1) (a_cons (dv 0) a_nil))) (d_fn passO hr D_minus (a_cons (dv 0) (a_cons (dv 1) a_nil)))))),
    pure_far⟩)

abbrev s_nearest_row : Stmt := topS 52
theorem sc_nearest_row : FnScope N_nearest_row ["parts", "share", "many", "lefts", "wished"] (defScope s_nearest_row) := ⟨rfl, rfl, rfl, by decide +kernel, rfl, by decide +kernel, by decide +kernel⟩
theorem ok_nearest_row (Z : Bl mg) (T : DefT K mg "nearest_row" s_nearest_row) (D_ending_at_most : Def P w K mg base 5 "ending_at_most" ["parts", "share", "many", "lefts", "wished"] sp_ending_at_most) (D_count : Def P w K mg base 2 "count" ["many", "lefts"] sp_count) (D_numbered : Def P w K mg base 3 "numbered" ["many", "lefts", "number"] sp_numbered) (D_far : Def P w K mg base 4 "far" ["one", "other"] sp_far) (D_end_of : Def P w K mg base 5 "end_of" ["parts", "share", "row"] sp_end_of) (D_is_less : Def P w K mg base 1 "is_less" ["one", "other"] sp_is_less) : Def P w K mg base 6 "nearest_row" ["parts", "share", "many", "lefts", "wished"] sp_nearest_row := by
  exact def_mk T sc_nearest_row (fun _ _ _ _ _ _ us hl => match us, hl with | [_, _, _, _, _], _ => rfl) len_nearest_row (fun f cdv A outer s H E hr => ⟨t_nearest_row,
    (b_cons (s_par (i := 6) (j := 7) rfl sc_nearest_row.nd rfl rfl (by decide) rfl rfl (d_fn passO hr D_ending_at_most (a_cons (dv 0) (a_cons (dv 1) (a_cons (dv 2) (a_cons (dv 3) (a_cons (dv 4) a_nil)))))) d_non)
    (b_cons (s_for passF rfl (i_tup (d_tup (a_cons (d_sub (dv 6) d_int) (a_cons (dv 6) a_nil)))) (g_name (i := 5) sc_nearest_row.nd rfl (Or.inl rfl))
    (b_one (s_if (t_chain op_le op_lt sr_le sr_lt d_int (dv 5) (d_fn passO hr D_count (a_cons (dv 2) (a_cons (dv 3) a_nil)))) (b_cons (s_set (i := 8) sc_nearest_row.nd rfl (Or.inl rfl) (d_fn passO hr D_numbered (a_cons (dv 2) (a_cons (dv 3) (a_cons (dv 5) a_nil)))))
    (b_cons (s_set (i := 9) sc_nearest_row.nd rfl (Or.inl rfl) (d_fn passO hr D_far (a_cons (d_fn passO hr D_end_of (a_cons (dv 0) (a_cons (dv 1) (a_cons (dv 8) a_nil)))) (a_cons (dv 4) a_nil))))
    (b_one (s_if (t_w (w_or (t_isN (dv 7)) (w_or1 (t_val (d_fn passO hr D_is_less (a_cons (dv 9) (a_cons (d_ix (dv 7) d_int (fun _ _ => rfl)) a_nil))))))) (b_one (s_set (i := 7) sc_nearest_row.nd rfl (Or.inl rfl) (d_tup (a_cons (dv 8) (a_cons (dv 9) a_nil))))) b_nil)))) b_nil)))
    (b_one (s_ret (dv 7))))),
    pure_nearest_row⟩)

abbrev s_nearest : Stmt := topS 53
theorem sc_nearest : FnScope N_nearest ["parts", "share", "many", "lefts", "wished"] (defScope s_nearest) := ⟨rfl, rfl, rfl, by decide +kernel, rfl, by decide +kernel, by decide +kernel⟩
theorem ok_nearest (Z : Bl mg) (T : DefT K mg "nearest" s_nearest) (D_need_parts : Def P w K mg base 5 "need_parts" ["parts"] (sp_need_parts er)) (D_need_share : Def P w K mg base 3 "need_share" ["share"] (sp_need_share er)) (D_need_many : Def P w K mg base 2 "need_many" ["many", "lefts"] (sp_need_many er)) (D_nearest_row : Def P w K mg base 6 "nearest_row" ["parts", "share", "many", "lefts", "wished"] sp_nearest_row) : Def P w K mg base 7 "nearest" ["parts", "share", "many", "lefts", "wished"] (sp_nearest er) := by
  exact def_mk T sc_nearest (fun _ _ _ _ _ _ us hl => match us, hl with | [_, _, _, _, _], _ => rfl) (len_nearest er) (fun f cdv A outer s H E hr => ⟨t_nearest er,
    (b_cons (s_expr (d_fn passO hr D_need_parts (a_cons (dv 0) a_nil)))
    (b_cons (s_expr (d_fn passO hr D_need_share (a_cons (dv 1) a_nil)))
    (b_cons (s_expr (d_fn passO hr D_need_many (a_cons (dv 2) (a_cons (dv 3) a_nil))))
    (b_cons (s_expr (d_fn passO hr D_need_share (a_cons (dv 4) a_nil)))
    (b_one (s_ret (d_fn passO hr D_nearest_row (a_cons (dv 0) (a_cons (dv 1) (a_cons (dv 2) (a_cons (dv 3) (a_cons (dv 4) a_nil)))))))))))),
    (pure_nearest er)⟩)

abbrev s_need_distance : Stmt := topS 55
theorem sc_need_distance : FnScope N_need_distance ["distance"] (defScope s_need_distance) := ⟨rfl, rfl, rfl, by decide +kernel, rfl, by decide +kernel, by decide +kernel⟩
theorem ok_need_distance (Z : Bl mg) (T : DefT K mg "need_distance" s_need_distance) (R_NoDistance : Ref K mg "NoDistance" er.NoDistance) (D_is_share : Def P w K mg base 2 "is_share" ["thing"] sp_is_share) : Def P w K mg base 3 "need_distance" ["distance"] (sp_need_distance er) := by
  exact def_mk T sc_need_distance (fun _ _ _ _ _ _ us hl => match us, hl with | [_], _ => rfl) (len_need_distance er) (fun f cdv A outer s H E hr => ⟨t_need_distance er,
    (b_one (s_if (t_w (w_or (t_not (t_val (d_fn passO hr D_is_share (a_cons (dv 0) a_nil)))) (w_or1 (t_eq hr.units (d_ix (dv 0) d_int (fun _ _ => rfl)) d_int)))) (b_one (s_raise R_NoDistance)) b_nil)),
    (pure_need_distance er)⟩)

abbrev s_near_enough : Stmt := topS 56
theorem sc_near_enough : FnScope N_near_enough ["parts", "share", "wished", "distance"] (defScope s_near_enough) := ⟨rfl, rfl, rfl, by decide +kernel, rfl, by decide +kernel, by decide +kernel⟩
theorem ok_near_enough (Z : Bl mg) (T : DefT K mg "near_enough" s_near_enough) (D_need_parts : Def P w K mg base 5 "need_parts" ["parts"] (sp_need_parts er)) (D_need_share : Def P w K mg base 3 "need_share" ["share"] (sp_need_share er)) (D_need_distance : Def P w K mg base 3 "need_distance" ["distance"] (sp_need_distance er)) (D_nearest_row : Def P w K mg base 6 "nearest_row" ["parts", "share", "many", "lefts", "wished"] sp_nearest_row) (D_is_less : Def P w K mg base 1 "is_less" ["one", "other"] sp_is_less) : Def P w K mg base 7 "near_enough" ["parts", "share", "wished", "distance"] (sp_near_enough er) := by
  exact def_mk T sc_near_enough (fun _ _ _ _ _ _ us hl => match us, hl with | [_, _, _, _], _ => rfl) (len_near_enough er) (fun f cdv A outer s H E hr => ⟨t_near_enough er,
    (b_cons (s_expr (d_fn passO hr D_need_parts (a_cons (dv 0) a_nil)))
    (b_cons (s_expr (d_fn passO hr D_need_share (a_cons (dv 1) a_nil)))
    (b_cons (s_expr (d_fn passO hr D_need_share (a_cons (dv 2) a_nil)))
    (b_cons (s_expr (d_fn passO hr D_need_distance (a_cons (dv 3) a_nil)))
    (b_cons (s_for passF rfl (i_rng1 Z.range d_int) (g_name (i := 4) sc_near_enough.nd rfl (Or.inl rfl))
    (b_cons (s_asg (d_fn passO hr D_nearest_row (a_cons (dv 0) (a_cons (dv 1) (a_cons (dv 4) (a_cons d_non (a_cons (dv 2) a_nil)))))) (g_tup rfl (gs_cons (g_name (i := 5) sc_near_enough.nd rfl (Or.inl rfl)) (gs_cons (g_name (i := 6) sc_near_enough.nd rfl (Or.inl rfl)) gs_nil))))
    (b_one (s_if (t_not (t_val (d_fn passO hr D_is_less (a_cons (dv 3) (a_cons (dv 6) a_nil))))) (b_one (s_ret (dv 5))) b_nil))))
    (b_one (s_ret d_non))))))),
    (pure_near_enough er)⟩)

abbrev s_need_pours : Stmt := topS 57
theorem sc_need_pours : FnScope N_need_pours ["row"] (defScope s_need_pours) := ⟨rfl, rfl, rfl, by decide +kernel, rfl, by decide +kernel, by decide +kernel⟩
theorem ok_need_pours (Z : Bl mg) (T : DefT K mg "need_pours" s_need_pours) (R_NoRow : Ref K mg "NoRow" er.NoRow) (D_need_row : Def P w K mg base 3 "need_row" ["row"] (sp_need_row er)) : Def P w K mg base 4 "need_pours" ["row"] (sp_need_pours er) := by
  exact def_mk T sc_need_pours (fun _ _ _ _ _ _ us hl => match us, hl with | [_], _ => rfl) (len_need_pours er) (fun f cdv A outer s H E hr => ⟨t_need_pours er,
    (b_cons (s_expr (d_fn passO hr D_need_row (a_cons (dv 0) a_nil)))
    (b_one (s_if (t_eq hr.units (dv 0) (d_tup a_nil)) (b_one (s_raise R_NoRow)) b_nil))),
    (pure_need_pours er)⟩)

abbrev s_middle : Stmt := topS 58
theorem sc_middle : FnScope N_middle ["parts", "row"] (defScope s_middle) := ⟨rfl, rfl, rfl, by decide +kernel, rfl, by decide +kernel, by decide +kernel⟩
theorem ok_middle (Z : Bl mg) (T : DefT K mg "middle" s_middle) (D_end_of : Def P w K mg base 5 "end_of" ["parts", "share", "row"] sp_end_of) (D_by : Def P w K mg base 3 "by" ["one", "other"] sp_by) (D_minus : Def P w K mg base 3 "minus" ["one", "other"] sp_minus) (D_shrinks : Def P w K mg base 6 "shrinks" ["parts", "row"] sp_shrinks) : Def P w K mg base 7 "middle" ["parts", "row"] sp_middle := by
  exact def_mk T sc_middle (fun _ _ _ _ _ _ us hl => match us, hl with | [_, _], _ => rfl) len_middle (fun f cdv A outer s H E hr => ⟨t_middle,
    (b_cons (s_set (i := 2) sc_middle.nd rfl (Or.inl rfl) (d_fn passO hr D_end_of (a_cons (dv 0) (a_cons (d_tup (a_cons d_int (a_cons d_int a_nil))) (a_cons (dv 1) a_nil)))))
    (b_one (s_ret (d_fn passO hr D_by (a_cons (dv 2) (a_cons (d_fn passO hr D_minus (a_cons (d_tup (a_cons d_int (a_cons d_int a_nil))) (a_cons (d_fn passO hr D_shrinks (a_cons (dv 0) (a_cons (dv 1) a_nil))) a_nil))) a_nil)))))),
    pure_middle⟩)

abbrev s_shrinks : Stmt := topS 59
theorem sc_shrinks : FnScope N_shrinks ["parts", "row"] (defScope s_shrinks) := ⟨rfl, rfl, rfl, by decide +kernel, rfl, by decide +kernel, by decide +kernel⟩
theorem ok_shrinks (Z : Bl mg) (T : DefT K mg "shrinks" s_shrinks) (D_minus : Def P w K mg base 3 "minus" ["one", "other"] sp_minus) (D_end_of : Def P w K mg base 5 "end_of" ["parts", "share", "row"] sp_end_of) : Def P w K mg base 6 "shrinks" ["parts", "row"] sp_shrinks := by
  exact def_mk T sc_shrinks (fun _ _ _ _ _ _ us hl => match us, hl with | [_, _], _ => rfl) len_shrinks (fun f cdv A outer s H E hr => ⟨t_shrinks,
    (b_one (s_ret (d_fn passO hr D_minus (a_cons (d_fn passO hr D_end_of (a_cons (dv 0) (a_cons (d_tup (a_cons d_int (a_cons d_int a_nil))) (a_cons (dv 1) a_nil)))) (a_cons (d_fn passO hr D_end_of (a_cons (dv 0) (a_cons (d_tup (a_cons d_int (a_cons d_int a_nil))) (a_cons (dv 1) a_nil)))) a_nil))))),
    pure_shrinks⟩)

abbrev s_goes_to : Stmt := topS 60
theorem sc_goes_to : FnScope N_goes_to ["parts", "row"] (defScope s_goes_to) := ⟨rfl, rfl, rfl, by decide +kernel, rfl, by decide +kernel, by decide +kernel⟩
theorem ok_goes_to (Z : Bl mg) (T : DefT K mg "goes_to" s_goes_to) (D_need_parts : Def P w K mg base 5 "need_parts" ["parts"] (sp_need_parts er)) (D_need_pours : Def P w K mg base 4 "need_pours" ["row"] (sp_need_pours er)) (D_middle : Def P w K mg base 7 "middle" ["parts", "row"] sp_middle) : Def P w K mg base 8 "goes_to" ["parts", "row"] (sp_goes_to er) := by
  exact def_mk T sc_goes_to (fun _ _ _ _ _ _ us hl => match us, hl with | [_, _], _ => rfl) (len_goes_to er) (fun f cdv A outer s H E hr => ⟨t_goes_to er,
    (b_cons (s_expr (d_fn passO hr D_need_parts (a_cons (dv 0) a_nil)))
    (b_cons (s_expr (d_fn passO hr D_need_pours (a_cons (dv 1) a_nil)))
    (b_one (s_ret (d_fn passO hr D_middle (a_cons (dv 0) (a_cons (dv 1) a_nil))))))),
    (pure_goes_to er)⟩)

abbrev s_times_till : Stmt := topS 61
theorem sc_times_till : FnScope N_times_till ["parts", "share", "row", "distance"] (defScope s_times_till) := ⟨rfl, rfl, rfl, by decide +kernel, rfl, by decide +kernel, by decide +kernel⟩
theorem ok_times_till (Z : Bl mg) (T : DefT K mg "times_till" s_times_till) (D_need_parts : Def P w K mg base 5 "need_parts" ["parts"] (sp_need_parts er)) (D_need_share : Def P w K mg base 3 "need_share" ["share"] (sp_need_share er)) (D_need_pours : Def P w K mg base 4 "need_pours" ["row"] (sp_need_pours er)) (D_need_distance : Def P w K mg base 3 "need_distance" ["distance"] (sp_need_distance er)) (D_far : Def P w K mg base 4 "far" ["one", "other"] sp_far) (D_middle : Def P w K mg base 7 "middle" ["parts", "row"] sp_middle) (D_shrinks : Def P w K mg base 6 "shrinks" ["parts", "row"] sp_shrinks) (D_is_less : Def P w K mg base 1 "is_less" ["one", "other"] sp_is_less) (D_times : Def P w K mg base 3 "times" ["one", "other"] sp_times) : Def P w K mg base 8 "times_till" ["parts", "share", "row", "distance"] (sp_times_till er) := by
  exact def_mk T sc_times_till (fun _ _ _ _ _ _ us hl => match us, hl with | [_, _, _, _], _ => rfl) (len_times_till er) (fun f cdv A outer s H E hr => ⟨t_times_till er,
    (b_cons (s_expr (d_fn passO hr D_need_parts (a_cons (dv 0) a_nil)))
    (b_cons (s_expr (d_fn passO hr D_need_share (a_cons (dv 1) a_nil)))
    (b_cons (s_expr (d_fn passO hr D_need_pours (a_cons (dv 2) a_nil)))
    (b_cons (s_expr (d_fn passO hr D_need_distance (a_cons (dv 3) a_nil)))
    (b_cons (s_par3 (i := 4) (j := 5) (m := 6) rfl sc_times_till.nd rfl rfl rfl (by decide) (by decide) (by decide) rfl rfl rfl (d_fn passO hr D_far (a_cons (dv 1) (a_cons (d_fn passO hr D_middle (a_cons (dv 0) (a_cons (dv 2) a_nil))) a_nil))) (d_fn passO hr D_shrinks (a_cons (dv 0) (a_cons (dv 2) a_nil))) d_int)
    (b_cons (s_while passF (t_val (d_fn passO hr D_is_less (a_cons (dv 3) (a_cons (dv 4) a_nil))))
    (b_one (s_par (i := 4) (j := 6) rfl sc_times_till.nd rfl rfl (by decide) rfl rfl (d_fn passO hr D_times (a_cons (dv 4) (a_cons (dv 5) a_nil))) (d_add (dv 6) d_int))))
    (b_one (s_ret (dv 6))))))))),
    (pure_times_till er)⟩)

abbrev s_law_cell_at : Stmt := topS 66
theorem sc_law_cell_at : FnScope N_law_cell_at ["script", "k"] (defScope s_law_cell_at) := ⟨rfl, rfl, rfl, by decide +kernel, rfl, by decide +kernel, by decide +kernel⟩
theorem ok_law_cell_at (Z : Bl mg) (T : DefT K mg "_law_cell_at" s_law_cell_at) : Def P w K mg base 1 "_law_cell_at" ["script", "k"] sp_law_cell_at := by
  exact def_mk T sc_law_cell_at (fun _ _ _ _ _ _ us hl => match us, hl with | [_, _], _ => rfl) len_law_cell_at (fun f cdv A outer s H E hr => ⟨t_law_cell_at,
    (b_cons (s_if (t_lt (dv 1) (d_len Z.len (dv 0))) (b_one (s_ret (d_ix (dv 0) (dv 1) (fun _ _ => rfl)))) b_nil)
    (b_one (s_ret d_int))),
    pure_law_cell_at⟩)

abbrev s_law_draws : Stmt := topS 67
theorem sc_law_draws : FnScope N_law_draws ["cell", "many", "size"] (defScope s_law_draws) := ⟨rfl, rfl, rfl, by decide +kernel, rfl, by decide +kernel, by decide +kernel⟩
theorem ok_law_draws (Z : Bl mg) (T : DefT K mg "_law_draws" s_law_draws) : DefN P w K mg base 1 "_law_draws" ["cell", "many", "size"] sp_law_draws := by
  exact defN_mk T sc_law_draws (fun _ _ _ _ _ _ us hl => match us, hl with | [_, _, _], _ => rfl) len_law_draws (fun f cdv A outer s H E hr => ⟨t_law_draws,
    (ob_cons (os_newL (i := 3) sc_law_draws.nd rfl (Or.inl rfl) a_nil)
    (ob_cons (os_lift (s_set (i := 4) sc_law_draws.nd rfl (Or.inl rfl) (d_mulS (dv 0) (d_intb Z.int (d_ge (dv 0) (d_pow d_int d_int))))))
    (ob_cons (os_lift (s_set (i := 5) sc_law_draws.nd rfl (Or.inl rfl) (d_mod (dv 0) d_int)))
    (ob_cons (os_for passF rfl (i_rng1 Z.range (d_add (dv 1) d_int)) (g_name (i := 6) sc_law_draws.nd rfl (Or.inl rfl))
    (ob_cons (os_lift (s_set (i := 5) sc_law_draws.nd rfl (Or.inl rfl) (d_mod (d_add (d_add (d_add (d_mul (dv 5) (dv 5)) (d_mul d_int (dv 5))) (dv 6)) d_int) d_int)))
    (ob_one (os_if (t_w (w_and (t_gt (dv 6) d_int) (w_and1 (t_gt (dv 4) d_int)))) (ob_cons (os_app (i := 3) (d_mod (dv 4) (dv 2)))
    (ob_one (os_lift (s_set (i := 4) sc_law_draws.nd rfl (Or.inl rfl) (d_div (dv 4) (dv 2)))))) (ob_one (os_if (t_gt (dv 6) d_int) (ob_one (os_app (i := 3) (d_mod (d_div (dv 5) d_int) (dv 2)))) ob_nil))))))
    (ob_one (os_retN (i := 3))))))),
    pure_law_draws⟩)

abbrev s_law_bag : Stmt := topS 68
theorem sc_law_bag : FnScope ["script", "k"] ["script", "k"] (defScope s_law_bag) := ⟨rfl, rfl, rfl, by decide +kernel, rfl, by decide +kernel, by decide +kernel⟩
theorem ok_law_bag (T : DefT K mg "_law_bag" s_law_bag) (D_law_draws : DefN P w K mg base 1 "_law_draws" ["cell", "many", "size"] sp_law_draws) (D_law_cell_at : Def P w K mg base 1 "_law_cell_at" ["script", "k"] sp_law_cell_at) : DefBag P w K mg base 2 := by
  obtain ⟨f, fd, F, hm⟩ := T
  obtain ⟨f1, fd1, F1, m1, k1, b1⟩ := D_law_draws
  obtain ⟨f2, fd2, F2, m2, k2, b2⟩ := D_law_cell_at
  refine ⟨f, fd, F.okX sc_law_bag (fun vs H Q E h => ?_) (fun cdv A outer s H vs Q E hr h => ⟨t_bag K E, ?_, read_bag h⟩), hm, F.kp, F.binds fun _ _ _ _ _ _ us hl => match us, hl with | [_, _], _ => rfl⟩
  · obtain ⟨a, xs, i, rfl, _⟩ := h; rfl
  · exact pss_one (ps_ret (pe_lst (pa_cons (pe_call F1 hr (by rfl) m1 k1 b1 .nil passO (pa_cons (pe_call F2 hr (by rfl) m2 k2 b2 .nil passO (pa_cons (pv 0) (pa_cons (pv 1) pa_nil))) (pa_cons pe_int (pa_cons pe_int pa_nil)))) (pa_cons pe_int pa_nil))))

abbrev s_law_bags : Stmt := topS 69
theorem sc_law_bags : FnScope N_law_bags ["script", "limit"] (defScope s_law_bags) := ⟨rfl, rfl, rfl, by decide +kernel, rfl, by decide +kernel, by decide +kernel⟩
theorem ok_law_bags (Z : Bl mg) (T : DefT K mg "_law_bags" s_law_bags) (DB : DefBag P w K mg base 2) : DefBags P w K mg base 3 := by
  obtain ⟨f, fd, F, hm⟩ := T
  obtain ⟨f1, fd1, F1, m1, k1, b1⟩ := DB
  refine ⟨f, fd, F.okX sc_law_bags (fun vs H Q E h => ?_) (fun cdv A outer s H vs Q E hr h => ?_), hm, F.kp, F.binds fun _ _ _ _ _ _ us hl => match us, hl with | [_, _], _ => rfl⟩
  · obtain ⟨a, xs, i, rfl, _⟩ := h; rfl
  · obtain ⟨wi, p1, q1⟩ : PDI (cxOf (L2.CX P w) P w K mg base N_law_bags "_law_bags" (defScope s_law_bags) f cdv A outer s H E) E _ _ di_bags := (i_rng1 (pos := _) Z.range (d_max rfl Z.max d_int (d_min rfl Z.min (dv 1) (d_len Z.len (dv 0)))))
    exact ⟨_, pss_one (ps_ret (pe_lc (own := [("k", 2)]) rfl sc_law_bags.nd p1 (blkOk_by (own := [("k", 2)]) (N := N_law_bags) (sc := defScope s_law_bags) (by decide +kernel)) (fun _ _ _ _ _ => pg_name (i := 2) sc_law_bags.nd rfl (Or.inl rfl)) (fun _ _ _ _ _ => pts_nil)
      (fun _ _ _ _ _ => pe_call F1 hr (by rfl) m1 k1 b1 .nil passL (pa_cons (pv 0) (pa_cons (pv 2) pa_nil))))), read_bags q1 h⟩

abbrev s_law_take : Stmt := topS 70
theorem sc_law_take : FnScope N_law_take ["bag", "many"] (defScope s_law_take) := ⟨rfl, rfl, rfl, by decide +kernel, rfl, by decide +kernel, by decide +kernel⟩
theorem ok_law_take (Z : Bl mg) (T : DefT K mg "_law_take" s_law_take) : Def P w K mg base 1 "_law_take" ["bag", "many"] sp_law_take := by
  obtain ⟨f, fd, F, hm⟩ := T
  refine ⟨f, fd, F.okX sc_law_take (fun vs H Q E h => ?_) (fun cdv A outer s H vs Q E hr h => ⟨t_take K, ?_, read_take h⟩), hm, F.kp, F.binds fun _ _ _ _ _ _ us hl => match us, hl with | [_, _], _ => rfl⟩
  · obtain ⟨B, M, ds, k, kx, _, r, hd, _⟩ := h
    rw [RDs.len r]; exact len_law_take _ _ _ hd
  · exact pss_cons (ps_asg (pe_op op_add (pe_ix ix_list (pv 0) pe_int (fun _ _ => rfl)) pe_int) (pg_sub (pv 0) pe_int set_list))
      (pss_one (ps_ret (pe_op op_mod (pe_ix ix_list (pe_ix ix_list (pv 0) pe_int (fun _ _ => rfl)) (pe_op op_mod (pe_ix ix_list (pv 0) pe_int (fun _ _ => rfl)) (pe_callB call_len_seq (by rfl) Z.len (by decide +kernel) (pa_cons (pe_ix ix_list (pv 0) pe_int (fun _ _ => rfl)) pa_nil))) (fun _ _ => rfl)) (pv 1))))

abbrev s_law_far_draw : Stmt := topS 71
theorem sc_law_far_draw : FnScope N_law_far_draw ["bag", "many"] (defScope s_law_far_draw) := ⟨rfl, rfl, rfl, by decide +kernel, rfl, by decide +kernel, by decide +kernel⟩
theorem ok_law_far_draw (Z : Bl mg) (T : DefT K mg "_law_far_draw" s_law_far_draw) (D_law_take : Def P w K mg base 1 "_law_take" ["bag", "many"] sp_law_take) : Def P w K mg base 2 "_law_far_draw" ["bag", "many"] sp_law_far_draw := by
  exact def_mk T sc_law_far_draw (fun _ _ _ _ _ _ us hl => match us, hl with | [_, _], _ => rfl) len_law_far_draw (fun f cdv A outer s H E hr => ⟨t_law_far_draw,
    (b_cons (s_par (i := 2) (j := 3) rfl sc_law_far_draw.nd rfl rfl (by decide) rfl rfl d_int (dv 1))
    (b_cons (s_while passF (t_gt (dv 3) d_int)
    (b_one (s_par (i := 2) (j := 3) rfl sc_law_far_draw.nd rfl rfl (by decide) rfl rfl (d_add (d_mulS d_int (dv 2)) (d_fn passO hr D_law_take (a_cons (dv 0) (a_cons d_int a_nil)))) (d_div (dv 3) d_int))))
    (b_one (s_ret (d_ix (d_lst (a_cons (d_mod (dv 2) (dv 1)) (a_cons d_int (a_cons (d_sub (dv 1) d_int) (a_cons (d_mod (dv 2) (dv 1)) a_nil))))) (d_fn passO hr D_law_take (a_cons (dv 0) (a_cons d_int a_nil))) (fun _ _ => rfl)))))),
    pure_law_far_draw⟩)

abbrev s_law_common : Stmt := topS 72
theorem sc_law_common : FnScope N_law_common ["one", "other"] (defScope s_law_common) := ⟨rfl, rfl, rfl, by decide +kernel, rfl, by decide +kernel, by decide +kernel⟩
theorem ok_law_common (Z : Bl mg) (T : DefT K mg "_law_common" s_law_common) : Def P w K mg base 1 "_law_common" ["one", "other"] sp_law_common := by
  exact def_mk T sc_law_common (fun _ _ _ _ _ _ us hl => match us, hl with | [_, _], _ => rfl) len_law_common (fun f cdv A outer s H E hr => ⟨t_law_common,
    (b_cons (s_while passF (t_ne hr.units (dv 1) d_int)
    (b_one (s_par (i := 0) (j := 1) rfl sc_law_common.nd rfl rfl (by decide) rfl rfl (dv 1) (d_mod (dv 0) (dv 1)))))
    (b_one (s_ret (dv 0)))),
    pure_law_common⟩)

abbrev s_law_made : Stmt := topS 73
theorem sc_law_made : FnScope N_law_made ["top", "bottom"] (defScope s_law_made) := ⟨rfl, rfl, rfl, by decide +kernel, rfl, by decide +kernel, by decide +kernel⟩
theorem ok_law_made (Z : Bl mg) (T : DefT K mg "_law_made" s_law_made) (D_law_common : Def P w K mg base 1 "_law_common" ["one", "other"] sp_law_common) : Def P w K mg base 2 "_law_made" ["top", "bottom"] sp_law_made := by
  exact def_mk T sc_law_made (fun _ _ _ _ _ _ us hl => match us, hl with | [_, _], _ => rfl) len_law_made (fun f cdv A outer s H E hr => ⟨t_law_made,
    (b_cons (s_set (i := 2) sc_law_made.nd rfl (Or.inl rfl) (d_fn passO hr D_law_common (a_cons (d_abs Z.abs (dv 0)) (a_cons (dv 1) a_nil))))
    (b_one (s_ret (d_tup (a_cons (d_div (dv 0) (dv 2)) (a_cons (d_div (dv 1) (dv 2)) a_nil)))))),
    pure_law_made⟩)

abbrev s_law_plus : Stmt := topS 74
theorem sc_law_plus : FnScope N_law_plus ["one", "other"] (defScope s_law_plus) := ⟨rfl, rfl, rfl, by decide +kernel, rfl, by decide +kernel, by decide +kernel⟩
theorem ok_law_plus (Z : Bl mg) (T : DefT K mg "_law_plus" s_law_plus) (D_law_made : Def P w K mg base 2 "_law_made" ["top", "bottom"] sp_law_made) : Def P w K mg base 3 "_law_plus" ["one", "other"] sp_law_plus := by
  exact def_mk T sc_law_plus (fun _ _ _ _ _ _ us hl => match us, hl with | [_, _], _ => rfl) len_law_plus (fun f cdv A outer s H E hr => ⟨t_law_plus,
    (b_one (s_ret (d_fn passO hr D_law_made (a_cons (d_add (d_mul (d_ix (dv 0) d_int (fun _ _ => rfl)) (d_ix (dv 1) d_int (fun _ _ => rfl))) (d_mul (d_ix (dv 1) d_int (fun _ _ => rfl)) (d_ix (dv 0) d_int (fun _ _ => rfl)))) (a_cons (d_mul (d_ix (dv 0) d_int (fun _ _ => rfl)) (d_ix (dv 1) d_int (fun _ _ => rfl))) a_nil))))),
    pure_law_plus⟩)

abbrev s_law_minus : Stmt := topS 75
theorem sc_law_minus : FnScope N_law_minus ["one", "other"] (defScope s_law_minus) := ⟨rfl, rfl, rfl, by decide +kernel, rfl, by decide +kernel, by decide +kernel⟩
theorem ok_law_minus (Z : Bl mg) (T : DefT K mg "_law_minus" s_law_minus) (D_law_made : Def P w K mg base 2 "_law_made" ["top", "bottom"] sp_law_made) : Def P w K mg base 3 "_law_minus" ["one", "other"] sp_law_minus := by
  exact def_mk T sc_law_minus (fun _ _ _ _ _ _ us hl => match us, hl with | [_, _], _ => rfl) len_law_minus (fun f cdv A outer s H E hr => ⟨t_law_minus,
    (b_one (s_ret (d_fn passO hr D_law_made (a_cons (d_sub (d_mul (d_ix (dv 0) d_int (fun _ _ => rfl)) (d_ix (dv 1) d_int (fun _ _ => rfl))) (d_mul (d_ix (dv 1) d_int (fun _ _ => rfl)) (d_ix (dv 0) d_int (fun _ _ => rfl)))) (a_cons (d_mul (d_ix (dv 0) d_int (fun _ _ => rfl)) (d_ix (dv 1) d_int (fun _ _ => rfl))) a_nil))))),
    pure_law_minus⟩)

abbrev s_law_times : Stmt := topS 76
theorem sc_law_times : FnScope N_law_times ["one", "other"] (defScope s_law_times) := ⟨rfl, rfl, rfl, by decide +kernel, rfl, by decide +kernel, by decide +kernel⟩
theorem ok_law_times (Z : Bl mg) (T : DefT K mg "_law_times" s_law_times) (D_law_made : Def P w K mg base 2 "_law_made" ["top", "bottom"] sp_law_made) : Def P w K mg base 3 "_law_times" ["one", "other"] sp_law_times := by
  exact def_mk T sc_law_times (fun _ _ _ _ _ _ us hl => match us, hl with | [_, _], _ => rfl) len_law_times (fun f cdv A outer s H E hr => ⟨t_law_times,
    (b_one (s_ret (d_fn passO hr D_law_made (a_cons (d_mul (d_ix (dv 0) d_int (fun _ _ => rfl)) (d_ix (dv 1) d_int (fun _ _ => rfl))) (a_cons (d_mul (d_ix (dv 0) d_int (fun _ _ => rfl)) (d_ix (dv 1) d_int (fun _ _ => rfl))) a_nil))))),
    pure_law_times⟩)

abbrev s_law_end : Stmt := topS 77
theorem sc_law_end : FnScope N_law_end ["parts", "share", "row"] (defScope s_law_end) := ⟨rfl, rfl, rfl, by decide +kernel, rfl, by decide +kernel, by decide +kernel⟩
theorem ok_law_end (Z : Bl mg) (T : DefT K mg "_law_end" s_law_end) (D_law_minus : Def P w K mg base 3 "_law_minus" ["one", "other"] sp_law_minus) (D_law_times : Def P w K mg base 3 "_law_times" ["one", "other"] sp_law_times) (D_law_plus : Def P w K mg base 3 "_law_plus" ["one", "other"] sp_law_plus) : Def P w K mg base 4 "_law_end" ["parts", "share", "row"] sp_law_end := by
  exact def_mk T sc_law_end (fun _ _ _ _ _ _ us hl => match us, hl with | [_, _, _], _ => rfl) len_law_end (fun f cdv A outer s H E hr => ⟨t_law_end,
    (b_cons (s_par (i := 4) (j := 5) rfl sc_law_end.nd rfl rfl (by decide) rfl rfl (dv 1) (d_fn passO hr D_law_minus (a_cons (d_tup (a_cons d_int (a_cons d_int a_nil))) (a_cons (dv 1) a_nil))))
    (b_cons (s_for passF rfl (i_tup (dv 2)) (g_name (i := 3) sc_law_end.nd rfl (Or.inl rfl))
    (b_one (s_if (t_eq hr.units (dv 3) d_str) (b_cons (s_set (i := 6) sc_law_end.nd rfl (Or.inl rfl) (d_fn passO hr D_law_times (a_cons (dv 4) (a_cons (d_ix (dv 0) d_int (fun _ _ => rfl)) a_nil))))
    (b_one (s_par (i := 4) (j := 5) rfl sc_law_end.nd rfl rfl (by decide) rfl rfl (d_fn passO hr D_law_minus (a_cons (dv 4) (a_cons (dv 6) a_nil))) (d_fn passO hr D_law_plus (a_cons (dv 5) (a_cons (dv 6) a_nil)))))) (b_cons (s_set (i := 6) sc_law_end.nd rfl (Or.inl rfl) (d_fn passO hr D_law_times (a_cons (dv 5) (a_cons (d_ix (dv 0) d_int (fun _ _ => rfl)) a_nil))))
    (b_one (s_par (i := 4) (j := 5) rfl sc_law_end.nd rfl rfl (by decide) rfl rfl (d_fn passO hr D_law_plus (a_cons (dv 4) (a_cons (dv 6) a_nil))) (d_fn passO hr D_law_minus (a_cons (dv 5) (a_cons (dv 6) a_nil)))))))))
    (b_one (s_ret (dv 4))))),
    pure_law_end⟩)

abbrev s_law_twos : Stmt := topS 78
theorem sc_law_twos : FnScope N_law_twos ["number", "many"] (defScope s_law_twos) := ⟨rfl, rfl, rfl, by decide +kernel, rfl, by decide +kernel, by decide +kernel⟩
theorem ok_law_twos (Z : Bl mg) (T : DefT K mg "_law_twos" s_law_twos) : Def P w K mg base 1 "_law_twos" ["number", "many"] sp_law_twos := by
  exact def_mk T sc_law_twos (fun _ _ _ _ _ _ us hl => match us, hl with | [_, _], _ => rfl) len_law_twos (fun f cdv A outer s H E hr => ⟨t_law_twos,
    (b_cons (s_set (i := 2) sc_law_twos.nd rfl (Or.inl rfl) (d_tup a_nil))
    (b_cons (s_for passF rfl (i_rng1 Z.range (dv 1)) (g_name (i := 3) sc_law_twos.nd rfl (Or.inl rfl))
    (b_cons (s_set (i := 2) sc_law_twos.nd rfl (Or.inl rfl) (d_cat (d_tup (a_cons (d_ix (d_lst (a_cons d_str (a_cons d_str a_nil))) (d_mod (dv 0) d_int) (fun _ _ => rfl)) a_nil)) (dv 2)))
    (b_one (s_set (i := 0) sc_law_twos.nd rfl (Or.inl rfl) (d_div (dv 0) d_int)))))
    (b_one (s_ret (d_rev (dv 2)))))),
    pure_law_twos⟩)

abbrev s_law_halves_right : Stmt := topS 79
theorem sc_law_halves_right : FnScope N_law_halves_right ["bag"] (defScope s_law_halves_right) := ⟨rfl, rfl, rfl, by decide +kernel, rfl, by decide +kernel, by decide +kernel⟩
theorem ok_law_halves_right (Z : Bl mg) (T : DefT K mg "_law_halves_right" s_law_halves_right) (D_law_take : Def P w K mg base 1 "_law_take" ["bag", "many"] sp_law_take) (D_law_far_draw : Def P w K mg base 2 "_law_far_draw" ["bag", "many"] sp_law_far_draw) (D_law_twos : Def P w K mg base 1 "_law_twos" ["number", "many"] sp_law_twos) (D_law_made : Def P w K mg base 2 "_law_made" ["top", "bottom"] sp_law_made) (D_row_of : Def P w K mg base 4 "row_of" ["many", "lefts", "number"] (sp_row_of er)) (D_number_of : Def P w K mg base 4 "number_of" ["row", "any_lefts"] (sp_number_of er)) (D_behind : Def P w K mg base 6 "behind" ["parts", "share", "row"] (sp_behind er)) (D_nearest : Def P w K mg base 7 "nearest" ["parts", "share", "many", "lefts", "wished"] (sp_nearest er)) (D_at_most : Def P w K mg base 6 "at_most" ["parts", "share", "many", "lefts", "wished"] (sp_at_most er)) (D_fewest_to : Def P w K mg base 6 "fewest_to" ["parts", "share", "other"] (sp_fewest_to er)) (D_law_end : Def P w K mg base 4 "_law_end" ["parts", "share", "row"] sp_law_end) (D_rows_to : DefN P w K mg base 6 "rows_to" ["parts", "share", "many"] (sp_rows_to er)) : Def P w K mg base 8 "_law_halves_right" ["bag"] (sp_law_halves_right er) := by
  exact def_mk T sc_law_halves_right (fun _ _ _ _ _ _ us hl => match us, hl with | [_], _ => rfl) (len_law_halves_right er) (fun f cdv A outer s H E hr => ⟨t_law_halves_right er,
    (b_cons (s_par3 (i := 4) (j := 5) (m := 6) rfl sc_law_halves_right.nd rfl rfl rfl (by decide) (by decide) (by decide) rfl rfl rfl (d_tup (a_cons (d_tup (a_cons d_int (a_cons d_int a_nil))) (a_cons (d_tup (a_cons d_int (a_cons d_int a_nil))) a_nil))) (d_add d_int (d_fn passO hr D_law_take (a_cons (dv 0) (a_cons d_int a_nil)))) d_int)
    (b_cons (s_for passF rfl (i_rng1 Z.range (dv 5)) (g_name (i := 1) sc_law_halves_right.nd rfl (Or.inl rfl))
    (b_one (s_set (i := 6) sc_law_halves_right.nd rfl (Or.inl rfl) (d_mul d_int (dv 6)))))
    (b_cons (s_set (i := 2) sc_law_halves_right.nd rfl (Or.inl rfl) (d_fn passO hr D_law_far_draw (a_cons (dv 0) (a_cons (dv 6) a_nil))))
    (b_cons (s_par (i := 7) (j := 8) rfl sc_law_halves_right.nd rfl rfl (by decide) rfl rfl (d_fn passO hr D_law_twos (a_cons (dv 2) (a_cons (dv 5) a_nil))) (d_fn passO hr D_law_made (a_cons (dv 2) (a_cons (dv 6) a_nil))))
    (b_cons (s_if (t_w (w_or (t_ne hr.units (d_fn passO hr D_behind (a_cons (dv 4) (a_cons (d_tup (a_cons d_int (a_cons d_int a_nil))) (a_cons (dv 7) a_nil)))) (dv 8)) (w_or (t_ne hr.units (d_fn passO hr D_number_of (a_cons (dv 7) (a_cons d_bl a_nil))) (dv 2)) (w_or1 (t_ne hr.units (d_fn passO hr D_row_of (a_cons (dv 5) (a_cons d_non (a_cons (dv 2) a_nil)))) (dv 7)))))) (b_one (s_ret d_bl)) b_nil)
    (b_cons (s_if (t_w (w_or (t_ne hr.units (d_fn passO hr D_at_most (a_cons (dv 4) (a_cons (d_tup (a_cons d_int (a_cons d_int a_nil))) (a_cons (dv 5) (a_cons d_non (a_cons (dv 8) a_nil)))))) (d_add (dv 2) d_int)) (w_or1 (t_ne hr.units (d_fn passO hr D_nearest (a_cons (dv 4) (a_cons (d_tup (a_cons d_int (a_cons d_int a_nil))) (a_cons (dv 5) (a_cons d_non (a_cons (dv 8) a_nil)))))) (d_tup (a_cons (dv 7) (a_cons (d_tup (a_cons d_int (a_cons d_int a_nil))) a_nil))))))) (b_one (s_ret d_bl)) b_nil)
    (b_cons (s_set (i := 3) sc_law_halves_right.nd rfl (Or.inl rfl) (d_fn passO hr D_fewest_to (a_cons (dv 4) (a_cons (d_tup (a_cons d_int (a_cons d_int a_nil))) (a_cons (dv 8) a_nil)))))
    (b_cons (s_if (t_w (w_or (t_isN (dv 3)) (w_or (t_ne hr.units (d_fn passO hr D_law_end (a_cons (dv 4) (a_cons (d_tup (a_cons d_int (a_cons d_int a_nil))) (a_cons (dv 3) a_nil)))) (dv 8)) (w_or (t_gt (d_len Z.len (dv 3)) (dv 5)) (w_or1 (t_w (w_and (t_ne hr.units (dv 3) (d_tup a_nil)) (w_and1 (t_ne hr.units (d_ix (dv 3) d_int (fun _ _ => rfl)) d_str))))))))) (b_one (s_ret d_bl)) b_nil)
    (b_one (s_ret (d_inD (units5 hr) (d_tup (a_cons (dv 7) (a_cons (d_tup (a_cons d_int (a_cons d_int a_nil))) a_nil))) (d_fn passO hr (D_rows_to).toDef (a_cons (dv 4) (a_cons (dv 8) (a_cons (dv 5) a_nil))))))))))))))),
    (pure_law_halves_right er)⟩)

abbrev s_kept_init : Stmt := inClass (topS 64) 0
theorem sc_kept_init : FnScope ["self", "parts", "share"] ["self", "parts", "share"] (defScope s_kept_init) := ⟨rfl, rfl, rfl, by decide +kernel, rfl, by decide +kernel, by decide +kernel⟩
theorem ok_kept_init {f : Addr} {fd : FuncData} (T : KCls K mg er.Kept) (F : Fun K "__init__" "Kept.__init__" s_kept_init f fd) (D_need_parts : Def P w K mg base 5 "need_parts" ["parts"] (sp_need_parts er)) (D_need_share : Def P w K mg base 3 "need_share" ["share"] (sp_need_share er)) :
    FnOk P w K mg base (L2.CX P w) 6 f fd ["self", "parts", "share"] (spKInit K er.Kept) := by
  refine F.okX sc_kept_init (fun vs H Q E h => ?_) (fun cdv A outer s H vs Q E hr h => ?_)
  · obtain ⟨B, M, x, dx, v1, v2, d1, d2, rfl, _⟩ := h; rfl
  · obtain ⟨t1, p1, q1⟩ : PDS (cxOf (L2.CX P w) P w K mg base ["self", "parts", "share"] "Kept.__init__" (defScope s_kept_init) f cdv A outer s H E) E ((defBody s_kept_init).getD 0 (.Pass ⟨0, 0, 0, 0⟩)) (dDrop (dCall (sp_need_parts er) (dCons (dVar 1) dNil))) := (s_expr (d_fn passO hr D_need_parts (a_cons (dv 1) a_nil)))
    obtain ⟨t2, p2, q2⟩ : PDS (cxOf (L2.CX P w) P w K mg base ["self", "parts", "share"] "Kept.__init__" (defScope s_kept_init) f cdv A outer s H E) E ((defBody s_kept_init).getD 1 (.Pass ⟨0, 0, 0, 0⟩)) (dDrop (dCall (sp_need_share er) (dCons (dVar 2) dNil))) := (s_expr (d_fn passO hr D_need_share (a_cons (dv 2) a_nil)))
    exact ⟨_, pss_cons p1 (pss_cons p2 (pss_cons (ps_fld (pv 0) (pv 1) rfl) (pss_cons (ps_fld (pv 0) (pe_lst (pa_cons (pv 2) pa_nil)) rfl) (pss_one (ps_fld (pv 0) (pe_tupN pa_nil) rfl))))), kinit_read T h q1 q2⟩

abbrev s_kept_pour : Stmt := inClass (topS 64) 1
theorem sc_kept_pour : FnScope ["self", "pour"] ["self", "pour"] (defScope s_kept_pour) := ⟨rfl, rfl, rfl, by decide +kernel, rfl, by decide +kernel, by decide +kernel⟩
def exprAt : List Stmt → Nat → Expr := fun ss i => match ss.getD i (.Pass ⟨0, 0, 0, 0⟩) with
  | .If c _ _ _ => c
  | .Expr (.Call _ (e :: _) _ _) _ => e
  | .Assign _ e _ => e
  | _ => .Constant .none 0 ⟨0, 0, 0, 0⟩
def bodyAt : List Stmt → Nat → List Stmt := fun ss i => match ss.getD i (.Pass ⟨0, 0, 0, 0⟩) with
  | .If _ b _ _ => b
  | _ => []
theorem ok_kept_pour {f : Addr} {fd : FuncData} (Z : Bl mg) (T : KCls K mg er.Kept) (F : Fun K "pour" "Kept.pour" s_kept_pour f fd) (hM : Meth K er.Kept "pour" f) {t_MOST : Tok} (c_MOST : mg "MOST" = some (.int 100 t_MOST)) (R_NoPour : Ref K mg "NoPour" er.NoPour) (R_Full : Ref K mg "Full" er.Full) (D_is_pour : Def P w K mg base 1 "is_pour" ["thing"] sp_is_pour) (D_poured_pours : Def P w K mg base 4 "poured_pours" ["parts", "share", "pour"] sp_poured) :
    DefS P w K mg base 5 er.Kept "pour" ["self", "pour"] (spKPour K er.Kept) := by
  refine ⟨f, fd, F.okX sc_kept_pour (fun vs H Q E h => ?_) (fun cdv A outer s H vs Q E hr h => ?_), hM, F.binds fun _ _ _ _ _ _ us hl => match us, hl with | [_, _], _ => rfl⟩
  · obtain ⟨B, M, x, pa, v, p, q, y, r, w, past, rfl, _⟩ := h; rfl
  · obtain ⟨t1, p1, q1⟩ : PDT (cxOf (L2.CX P w) P w K mg base ["self", "pour"] "Kept.pour" (defScope s_kept_pour) f cdv A outer s H E) E (exprAt (defBody s_kept_pour) 0) (dNot (dB (dCall sp_is_pour (dCons (dVar 1) dNil)))) := (t_not (t_val (d_fn passO hr D_is_pour (a_cons (dv 1) a_nil))))
    obtain ⟨u1, pu1, _⟩ : PDB (cxOf (L2.CX P w) P w K mg base ["self", "pour"] "Kept.pour" (defScope s_kept_pour) f cdv A outer s H E) E (bodyAt (defBody s_kept_pour) 0) (dRaise er.NoPour) := (b_one (s_raise R_NoPour))
    obtain ⟨t2, p2, q2⟩ : PDT (cxOf (L2.CX P w) P w K mg base ["self", "pour"] "Kept.pour" (defScope s_kept_pour) f cdv A outer s H E) E (exprAt (defBody s_kept_pour) 1) (dB (dOp dEq (dC1 cLen (dFld er.Kept "made" (dVar 0))) (dC (.int 100)))) := (t_eq hr.units (DL.d_len Z.len (d_fld T.cl T.n3 (dv 0))) (d_gint (by rfl) c_MOST))
    obtain ⟨u2, pu2, _⟩ : PDB (cxOf (L2.CX P w) P w K mg base ["self", "pour"] "Kept.pour" (defScope s_kept_pour) f cdv A outer s H E) E (bodyAt (defBody s_kept_pour) 1) (dRaise er.Full) := (b_one (s_raise R_Full))
    obtain ⟨ta, p3, qa⟩ : PD (cxOf (L2.CX P w) P w K mg base ["self", "pour"] "Kept.pour" (defScope s_kept_pour) f cdv A outer s H E) E (exprAt (defBody s_kept_pour) 2) (dCall sp_poured (dCons (dFld er.Kept "parts" (dVar 0)) (dCons (dOp dIx (dFld er.Kept "past" (dVar 0)) (dNeg (dC (.int 1)))) (dCons (dVar 1) dNil)))) :=
      (d_fn passO hr D_poured_pours (a_cons (d_fld T.cl T.n1 (dv 0)) (a_cons (d_ix (d_fld T.cl T.n2 (dv 0)) (d_neg d_int) (fun _ _ => rfl)) (a_cons (dv 1) a_nil))))
    obtain ⟨tv, p4, qv⟩ : PD (cxOf (L2.CX P w) P w K mg base ["self", "pour"] "Kept.pour" (defScope s_kept_pour) f cdv A outer s H E) E (exprAt (defBody s_kept_pour) 3) (dOp dCat (dFld er.Kept "made" (dVar 0)) (dTup (dCons (dVar 1) dNil))) := (d_cat (d_fld T.cl T.n3 (dv 0)) (d_tup (a_cons (dv 1) a_nil)))
    exact ⟨_, pss_cons (ps_if p1 pu1 pss_nil) (pss_cons (ps_if p2 pu2 pss_nil) (pss_cons (ps_expr (pe_bm PySem.F.plainAttrs_list PySem.F.slot_list_append PySem.F.type_list_append mt_append (pe_fld (pv 0) rfl) (pa_cons p3 pa_nil))) (pss_one (ps_fld (pv 0) p4 rfl)))), kpour_read T h q1 q2 qa qv⟩

abbrev s_kept_share : Stmt := inClass (topS 64) 3
theorem sc_kept_share : FnScope N_kept_share ["self"] (defScope s_kept_share) := ⟨rfl, rfl, rfl, by decide +kernel, rfl, by decide +kernel, by decide +kernel⟩
theorem ok_kept_share (Z : Bl mg) {f : Addr} {fd : FuncData} (F : Fun K "share" "Kept.share" s_kept_share f fd) (hM : Meth K er.Kept "share" f) (T_Kept : KCls K mg er.Kept) : DefM P w K mg base 1 er.Kept "share" ["self"] (sp_kept_share er) := by
  exact defM_mk F hM sc_kept_share (fun _ _ _ _ _ _ us hl => match us, hl with | [_], _ => rfl) (len_kept_share er) (fun cdv A outer s H E hr => ⟨t_kept_share er,
    (b_one (s_ret (d_ix (d_fld T_Kept.cl T_Kept.n2 (dv 0)) (d_neg d_int) (fun _ _ => rfl)))),
    pure_kept_share er⟩)

abbrev s_kept_poured : Stmt := inClass (topS 64) 5
theorem sc_kept_poured : FnScope N_kept_poured ["self"] (defScope s_kept_poured) := ⟨rfl, rfl, rfl, by decide +kernel, rfl, by decide +kernel, by decide +kernel⟩
theorem ok_kept_poured (Z : Bl mg) {f : Addr} {fd : FuncData} (F : Fun K "poured" "Kept.poured" s_kept_poured f fd) (hM : Meth K er.Kept "poured" f) (T_Kept : KCls K mg er.Kept) (D_plus : Def P w K mg base 3 "plus" ["one", "other"] sp_plus) (D_is_less : Def P w K mg base 1 "is_less" ["one", "other"] sp_is_less) (D_minus : Def P w K mg base 3 "minus" ["one", "other"] sp_minus) : DefM P w K mg base 4 er.Kept "poured" ["self"] (sp_kept_poured er) := by
  exact defM_mk F hM sc_kept_poured (fun _ _ _ _ _ _ us hl => match us, hl with | [_], _ => rfl) (len_kept_poured er) (fun cdv A outer s H E hr => ⟨t_kept_poured er,
    (b_cons (s_set (i := 1) sc_kept_poured.nd rfl (Or.inl rfl) (d_tup (a_cons d_int (a_cons d_int a_nil))))
    (b_cons (s_forG passF rfl (i_zip Z.zip rfl (d_fld T_Kept.cl T_Kept.n2 (dv 0)) (d_slT (d_fld T_Kept.cl T_Kept.n2 (dv 0)) (o_some d_int) o_none) (g_name (i := 2) sc_kept_poured.nd rfl (Or.inl rfl)) (g_name (i := 3) sc_kept_poured.nd rfl (Or.inl rfl)))
    (b_one (s_set (i := 1) sc_kept_poured.nd rfl (Or.inl rfl) (d_fn passO hr D_plus (a_cons (dv 1) (a_cons (d_if (t_val (d_fn passO hr D_is_less (a_cons (dv 2) (a_cons (dv 3) a_nil)))) (d_fn passO hr D_minus (a_cons (dv 3) (a_cons (dv 2) a_nil))) (d_fn passO hr D_minus (a_cons (dv 2) (a_cons (dv 3) a_nil)))) a_nil))))))
    (b_one (s_ret (dv 1))))),
    pure_kept_poured er⟩)

abbrev s_law : Stmt := topS 80
theorem sc_law_k12 : FnScope N_law_k12 ["script"] (defScope s_law) := ⟨rfl, rfl, rfl, by decide +kernel, rfl, by decide +kernel, by decide +kernel⟩
theorem ok_law {f : Addr} {fd : FuncData} (F : Fun K "law" "law" s_law f fd) (Z : Bl mg) (D_law_bags : DefBags P w K mg base 3) (T_Kept : KCls K mg er.Kept) (D_law_halves_right : Def P w K mg base 8 "_law_halves_right" ["bag"] (sp_law_halves_right er)) (D_near_enough : Def P w K mg base 7 "near_enough" ["parts", "share", "wished", "distance"] (sp_near_enough er)) (D_kept_poured : DefM P w K mg base 4 er.Kept "poured" ["self"] (sp_kept_poured er)) (D_kept_share : DefM P w K mg base 1 er.Kept "share" ["self"] (sp_kept_share er)) {f_kept_init : Addr} {fd_kept_init : FuncData} (M_Kept : Mk K er.Kept f_kept_init) (F_kept_init : FnOk P w K mg base (L2.CX P w) 6 f_kept_init fd_kept_init ["self", "parts", "share"] (spKInit K er.Kept)) (B_kept_init : Binds K fd_kept_init ["self", "parts", "share"] []) (D_kept_pour : DefS P w K mg base 5 er.Kept "pour" ["self", "pour"] (spKPour K er.Kept)) (D_nearest : Def P w K mg base 7 "nearest" ["parts", "share", "many", "lefts", "wished"] (sp_nearest er)) (D_unseen : Def P w K mg base 6 "unseen" ["parts", "share", "row", "place", "other"] (sp_unseen er)) (D_fewest_to : Def P w K mg base 6 "fewest_to" ["parts", "share", "other"] (sp_fewest_to er)) (D_goes_to : Def P w K mg base 8 "goes_to" ["parts", "row"] (sp_goes_to er)) (D_rows_to : DefN P w K mg base 6 "rows_to" ["parts", "share", "many"] (sp_rows_to er)) (D_times_till : Def P w K mg base 8 "times_till" ["parts", "share", "row", "distance"] (sp_times_till er)) (D_behind : Def P w K mg base 6 "behind" ["parts", "share", "row"] (sp_behind er)) (D_are_parts : Def P w K mg base 4 "are_parts" ["thing"] sp_are_parts) : FnOk P w K mg base (L2.CX P w) 9 f fd ["script"] (spLaw K) := by
  refine F.okX sc_law_k12 (fun vs H Q E h => ?_) (fun cdv A outer s H vs Q E hr h => ?_)
  · obtain ⟨a, ns, rfl, _⟩ := h; rfl
  · obtain ⟨ts, p1, q1⟩ : PDB0 (cxOf (L2.CX P w) P w K mg base N_law_k12 "law" (defScope s_law) f cdv A outer s H E) E (defBody s_law) (t_law_k12 er) :=
      (b0_cons (s0_bags (n := 5) (is := 0) (ib := 1) passO passF hr D_law_bags
    (ob_lift (b_one (s_if (t_not (t_val (d_fn passO hr D_law_halves_right (a_cons (dv 1) a_nil)))) (b_one (s_ret d_bl)) b_nil))) sc_law_k12.nd rfl rfl)
    (b0_lift (b_cons (s_set (i := 2) sc_law_k12.nd rfl (Or.inl rfl) (d_tup (a_cons (d_tup (a_cons d_int (a_cons d_int a_nil))) (a_cons (d_tup (a_cons d_int (a_cons d_int a_nil))) a_nil))))
    (b_cons (s_if (t_w (w_or (t_isnotB (d_fn passO hr D_are_parts (a_cons (dv 2) a_nil)) d_bl) (w_or1 (t_ne hr.units (d_fn passO hr D_behind (a_cons (dv 2) (a_cons (d_tup (a_cons d_int (a_cons d_int a_nil))) (a_cons (d_tup (a_cons d_str (a_cons d_str a_nil))) a_nil)))) (d_tup (a_cons d_int (a_cons d_int a_nil))))))) (b_one (s_ret d_bl)) b_nil)
    (b_cons (s_if (t_ne hr.units (d_fn passO hr (D_rows_to).toDef (a_cons (dv 2) (a_cons (d_tup (a_cons d_int (a_cons d_int a_nil))) (a_cons d_int a_nil)))) (d_lst (a_cons (d_tup (a_cons (d_tup (a_cons d_str (a_cons d_str a_nil))) (a_cons (d_tup (a_cons d_int (a_cons d_int a_nil))) a_nil))) (a_cons (d_tup (a_cons (d_tup (a_cons d_str (a_cons d_str a_nil))) (a_cons (d_tup (a_cons d_int (a_cons d_int a_nil))) a_nil))) a_nil)))) (b_one (s_ret d_bl)) b_nil)
    (b_cons (s_if (t_w (w_or (t_ne hr.units (d_fn passO hr D_goes_to (a_cons (dv 2) (a_cons (d_tup (a_cons d_str (a_cons d_str a_nil))) a_nil))) (d_tup (a_cons d_int (a_cons d_int a_nil)))) (w_or1 (t_ne hr.units (d_fn passO hr D_times_till (a_cons (dv 2) (a_cons (d_tup (a_cons d_int (a_cons d_int a_nil))) (a_cons (d_tup (a_cons d_str (a_cons d_str a_nil))) (a_cons (d_tup (a_cons d_int (a_cons (d_pow d_int d_int) a_nil))) a_nil))))) d_int)))) (b_one (s_ret d_bl)) b_nil)
    (b_cons (s_set (i := 3) sc_law_k12.nd rfl (Or.inl rfl) (d_tup (a_cons (d_tup (a_cons d_int (a_cons d_int a_nil))) (a_cons (d_tup (a_cons d_int (a_cons d_int a_nil))) a_nil))))
    (b_cons (s_if (t_ne hr.units (d_fn passO hr (D_rows_to).toDef (a_cons (dv 3) (a_cons (d_tup (a_cons d_int (a_cons d_int a_nil))) (a_cons d_int a_nil)))) (d_lst (a_cons (d_tup (a_cons (d_rev (d_tup (a_cons d_str (a_cons d_str (a_cons d_str (a_cons d_str a_nil)))))) (a_cons (d_tup (a_cons d_int (a_cons d_int a_nil))) a_nil))) a_nil))) (b_one (s_ret d_bl)) b_nil)
    (b_cons (s_if (t_w (w_or (t_ne hr.units (d_fn passO hr D_goes_to (a_cons (dv 3) (a_cons (d_tup (a_cons d_str (a_cons d_str a_nil))) a_nil))) (d_tup (a_cons d_int (a_cons d_int a_nil)))) (w_or1 (t_ne hr.units (d_fn passO hr D_fewest_to (a_cons (dv 3) (a_cons (d_tup (a_cons d_int (a_cons d_int a_nil))) (a_cons (d_tup (a_cons d_int (a_cons d_int a_nil))) a_nil)))) (d_tup (a_cons d_str a_nil)))))) (b_one (s_ret d_bl)) b_nil)
    (b_cons (s_if (t_w (w_or (t_ne hr.units (d_fn passO hr D_fewest_to (a_cons (dv 3) (a_cons (d_tup (a_cons d_int (a_cons d_int a_nil))) (a_cons (d_tup (a_cons d_int (a_cons d_int a_nil))) a_nil)))) (d_tup a_nil)) (w_or1 (t_ne hr.units (d_fn passO hr D_unseen (a_cons (dv 3) (a_cons (d_tup (a_cons d_int (a_cons d_int a_nil))) (a_cons (d_tup (a_cons d_str a_nil)) (a_cons d_int (a_cons (d_tup (a_cons d_int (a_cons d_int a_nil))) a_nil)))))) d_str)))) (b_one (s_ret d_bl)) b_nil)
    (b_cons (s_if (t_ne hr.units (d_fn passO hr D_nearest (a_cons (dv 3) (a_cons (d_tup (a_cons d_int (a_cons d_int a_nil))) (a_cons d_int (a_cons d_non (a_cons (d_tup (a_cons d_int (a_cons d_int a_nil))) a_nil)))))) (d_tup (a_cons (d_tup (a_cons d_str (a_cons d_str a_nil))) (a_cons (d_tup (a_cons d_int (a_cons d_int a_nil))) a_nil)))) (b_one (s_ret d_bl)) b_nil)
    (b_cons (s_if (t_ne hr.units (d_fn passO hr D_nearest (a_cons (dv 3) (a_cons (d_tup (a_cons d_int (a_cons d_int a_nil))) (a_cons d_int (a_cons d_non (a_cons (d_tup (a_cons d_int (a_cons d_int a_nil))) a_nil)))))) (d_tup (a_cons (d_tup a_nil) (a_cons (d_tup (a_cons d_int (a_cons d_int a_nil))) a_nil)))) (b_one (s_ret d_bl)) b_nil)
    (b_cons (s_if (t_ne hr.units (d_fn passO hr D_near_enough (a_cons (dv 3) (a_cons (d_tup (a_cons d_int (a_cons d_int a_nil))) (a_cons (d_tup (a_cons d_int (a_cons d_int a_nil))) (a_cons (d_tup (a_cons d_int (a_cons d_int a_nil))) a_nil))))) (d_tup (a_cons d_str a_nil))) (b_one (s_ret d_bl)) b_nil)
    (b_kept (i := 4) (w1 := false) (w2 := true) T_Kept passO hr M_Kept F_kept_init B_kept_init D_kept_pour (a_cons (dv 3) (a_cons (d_tup (a_cons d_int (a_cons d_int a_nil))) a_nil)) rfl rfl sc_law_k12.nd rfl (Or.inl rfl)
    (b_one (s_ret (d_and (d_eq hr.units (d_meth0 passO hr T_Kept.cl D_kept_share (dv 4)) (d_tup (a_cons d_int (a_cons d_int a_nil)))) (d_and (d_eq hr.units (d_meth0 passO hr T_Kept.cl D_kept_poured (dv 4)) (d_tup (a_cons d_int (a_cons d_int a_nil)))) (d_one (d_isN (d_fn passO hr D_near_enough (a_cons (dv 3) (a_cons (d_tup (a_cons d_int (a_cons d_int a_nil))) (a_cons (d_tup (a_cons d_int (a_cons d_int a_nil))) (a_cons (d_tup (a_cons d_int (a_cons d_int a_nil))) a_nil)))))))))))))))))))))))))
    exact ⟨ts, p1, read_law q1 (by decide) h (pure_law_k12 er)⟩

end
theorem all_mk {l : PySem.W.OpenLaw} {w : World} {K : PySem.W.Frag} {h : Heap} {mg : Str → Option Value} {fa : Addr} (X : K.In h) (G : h.Ns mainGlobals mg) (hfa : mg "law" = some (.ref fa))
    {od0 an0 : Option Addr} {sl0 : Array (Option Value)} {oc0 kV0 dc0 pm0 cd0 ct0 : Value} {f0 : Addr} {od1 an1 : Option Addr} {sl1 : Array (Option Value)} {oc1 kV1 dc1 pm1 cd1 ct1 : Value} {f1 : Addr} {od2 an2 : Option Addr} {sl2 : Array (Option Value)} {oc2 kV2 dc2 pm2 cd2 ct2 : Value} {f2 : Addr} {od3 an3 : Option Addr} {sl3 : Array (Option Value)} {oc3 kV3 dc3 pm3 cd3 ct3 : Value} {f3 : Addr} {od4 an4 : Option Addr} {sl4 : Array (Option Value)} {oc4 kV4 dc4 pm4 cd4 ct4 : Value} {f4 : Addr} {od5 an5 : Option Addr} {sl5 : Array (Option Value)} {oc5 kV5 dc5 pm5 cd5 ct5 : Value} {f5 : Addr} {od6 an6 : Option Addr} {sl6 : Array (Option Value)} {oc6 kV6 dc6 pm6 cd6 ct6 : Value} {f6 : Addr} {od7 an7 : Option Addr} {sl7 : Array (Option Value)} {oc7 kV7 dc7 pm7 cd7 ct7 : Value} {f7 : Addr} {od8 an8 : Option Addr} {sl8 : Array (Option Value)} {oc8 kV8 dc8 pm8 cd8 ct8 : Value} {f8 : Addr} {od9 an9 : Option Addr} {sl9 : Array (Option Value)} {oc9 kV9 dc9 pm9 cd9 ct9 : Value} {f9 : Addr} {od10 an10 : Option Addr} {sl10 : Array (Option Value)} {oc10 kV10 dc10 pm10 cd10 ct10 : Value} {f10 : Addr} {od11 an11 : Option Addr} {sl11 : Array (Option Value)} {oc11 kV11 dc11 pm11 cd11 ct11 : Value} {f11 : Addr} {od12 an12 : Option Addr} {sl12 : Array (Option Value)} {oc12 kV12 dc12 pm12 cd12 ct12 : Value} {f12 : Addr} {od13 an13 : Option Addr} {sl13 : Array (Option Value)} {oc13 kV13 dc13 pm13 cd13 ct13 : Value} {f13 : Addr} {od14 an14 : Option Addr} {sl14 : Array (Option Value)} {oc14 kV14 dc14 pm14 cd14 ct14 : Value} {f14 : Addr} {od15 an15 : Option Addr} {sl15 : Array (Option Value)} {oc15 kV15 dc15 pm15 cd15 ct15 : Value} {f15 : Addr} {od16 an16 : Option Addr} {sl16 : Array (Option Value)} {oc16 kV16 dc16 pm16 cd16 ct16 : Value} {f16 : Addr} {od17 an17 : Option Addr} {sl17 : Array (Option Value)} {oc17 kV17 dc17 pm17 cd17 ct17 : Value} {f17 : Addr} {od18 an18 : Option Addr} {sl18 : Array (Option Value)} {oc18 kV18 dc18 pm18 cd18 ct18 : Value} {f18 : Addr} {od19 an19 : Option Addr} {sl19 : Array (Option Value)} {oc19 kV19 dc19 pm19 cd19 ct19 : Value} {f19 : Addr} {od20 an20 : Option Addr} {sl20 : Array (Option Value)} {oc20 kV20 dc20 pm20 cd20 ct20 : Value} {f20 : Addr} {od21 an21 : Option Addr} {sl21 : Array (Option Value)} {oc21 kV21 dc21 pm21 cd21 ct21 : Value} {f21 : Addr} {od22 an22 : Option Addr} {sl22 : Array (Option Value)} {oc22 kV22 dc22 pm22 cd22 ct22 : Value} {f22 : Addr} {od23 an23 : Option Addr} {sl23 : Array (Option Value)} {oc23 kV23 dc23 pm23 cd23 ct23 : Value} {f23 : Addr} {od24 an24 : Option Addr} {sl24 : Array (Option Value)} {oc24 kV24 dc24 pm24 cd24 ct24 : Value} {f24 : Addr} {od25 an25 : Option Addr} {sl25 : Array (Option Value)} {oc25 kV25 dc25 pm25 cd25 ct25 : Value} {f25 : Addr} {od26 an26 : Option Addr} {sl26 : Array (Option Value)} {oc26 kV26 dc26 pm26 cd26 ct26 : Value} {f26 : Addr} {od27 an27 : Option Addr} {sl27 : Array (Option Value)} {oc27 kV27 dc27 pm27 cd27 ct27 : Value} {f27 : Addr} {od28 an28 : Option Addr} {sl28 : Array (Option Value)} {oc28 kV28 dc28 pm28 cd28 ct28 : Value} {f28 : Addr} {od29 an29 : Option Addr} {sl29 : Array (Option Value)} {oc29 kV29 dc29 pm29 cd29 ct29 : Value} {f29 : Addr} {od30 an30 : Option Addr} {sl30 : Array (Option Value)} {oc30 kV30 dc30 pm30 cd30 ct30 : Value} {f30 : Addr} {od31 an31 : Option Addr} {sl31 : Array (Option Value)} {oc31 kV31 dc31 pm31 cd31 ct31 : Value} {f31 : Addr} {od32 an32 : Option Addr} {sl32 : Array (Option Value)} {oc32 kV32 dc32 pm32 cd32 ct32 : Value} {f32 : Addr} {od33 an33 : Option Addr} {sl33 : Array (Option Value)} {oc33 kV33 dc33 pm33 cd33 ct33 : Value} {f33 : Addr} {od34 an34 : Option Addr} {sl34 : Array (Option Value)} {oc34 kV34 dc34 pm34 cd34 ct34 : Value} {f34 : Addr} {od35 an35 : Option Addr} {sl35 : Array (Option Value)} {oc35 kV35 dc35 pm35 cd35 ct35 : Value} {f35 : Addr} {od36 an36 : Option Addr} {sl36 : Array (Option Value)} {oc36 kV36 dc36 pm36 cd36 ct36 : Value} {f36 : Addr} {od37 an37 : Option Addr} {sl37 : Array (Option Value)} {oc37 kV37 dc37 pm37 cd37 ct37 : Value} {f37 : Addr} {od38 an38 : Option Addr} {sl38 : Array (Option Value)} {oc38 kV38 dc38 pm38 cd38 ct38 : Value} {f38 : Addr} {od39 an39 : Option Addr} {sl39 : Array (Option Value)} {oc39 kV39 dc39 pm39 cd39 ct39 : Value} {f39 : Addr} {od40 an40 : Option Addr} {sl40 : Array (Option Value)} {oc40 kV40 dc40 pm40 cd40 ct40 : Value} {f40 : Addr} {od41 an41 : Option Addr} {sl41 : Array (Option Value)} {oc41 kV41 dc41 pm41 cd41 ct41 : Value} {f41 : Addr} {od42 an42 : Option Addr} {sl42 : Array (Option Value)} {oc42 kV42 dc42 pm42 cd42 ct42 : Value} {f42 : Addr} {od43 an43 : Option Addr} {sl43 : Array (Option Value)} {oc43 kV43 dc43 pm43 cd43 ct43 : Value} {f43 : Addr} {od44 an44 : Option Addr} {sl44 : Array (Option Value)} {oc44 kV44 dc44 pm44 cd44 ct44 : Value} {f44 : Addr} {od45 an45 : Option Addr} {sl45 : Array (Option Value)} {oc45 kV45 dc45 pm45 cd45 ct45 : Value} {f45 : Addr} {od46 an46 : Option Addr} {sl46 : Array (Option Value)} {oc46 kV46 dc46 pm46 cd46 ct46 : Value} {f46 : Addr} {od47 an47 : Option Addr} {sl47 : Array (Option Value)} {oc47 kV47 dc47 pm47 cd47 ct47 : Value} {f47 : Addr} {od48 an48 : Option Addr} {sl48 : Array (Option Value)} {oc48 kV48 dc48 pm48 cd48 ct48 : Value} {f48 : Addr} {od49 an49 : Option Addr} {sl49 : Array (Option Value)} {oc49 kV49 dc49 pm49 cd49 ct49 : Value} {f49 : Addr} {od50 an50 : Option Addr} {sl50 : Array (Option Value)} {oc50 kV50 dc50 pm50 cd50 ct50 : Value} {f50 : Addr} {od51 an51 : Option Addr} {sl51 : Array (Option Value)} {oc51 kV51 dc51 pm51 cd51 ct51 : Value} {f51 : Addr} {od52 an52 : Option Addr} {sl52 : Array (Option Value)} {oc52 kV52 dc52 pm52 cd52 ct52 : Value} {f52 : Addr} {od53 an53 : Option Addr} {sl53 : Array (Option Value)} {oc53 kV53 dc53 pm53 cd53 ct53 : Value} {f53 : Addr} {od54 an54 : Option Addr} {sl54 : Array (Option Value)} {oc54 kV54 dc54 pm54 cd54 ct54 : Value} {f54 : Addr} {od55 an55 : Option Addr} {sl55 : Array (Option Value)} {oc55 kV55 dc55 pm55 cd55 ct55 : Value} {f55 : Addr} {od56 an56 : Option Addr} {sl56 : Array (Option Value)} {oc56 kV56 dc56 pm56 cd56 ct56 : Value} {f56 : Addr} {t_GREAT : Tok} {t_MOST : Tok} {p_WAYS : Addr} {s_WAYS : Array (Option Value)} {m_WAYS : Nat} {t0_WAYS t1_WAYS : Tok} {C_Kept : Addr} {f_kept_init : Addr} {od_kept_init an_kept_init : Option Addr} {sl_kept_init : Array (Option Value)} {oc_kept_init kV_kept_init dc_kept_init pm_kept_init cd_kept_init ct_kept_init : Value} {f_kept_pour : Addr} {od_kept_pour an_kept_pour : Option Addr} {sl_kept_pour : Array (Option Value)} {oc_kept_pour kV_kept_pour dc_kept_pour pm_kept_pour cd_kept_pour ct_kept_pour : Value} {f_kept_share : Addr} {od_kept_share an_kept_share : Option Addr} {sl_kept_share : Array (Option Value)} {oc_kept_share kV_kept_share dc_kept_share pm_kept_share cd_kept_share ct_kept_share : Value} {f_kept_poured : Addr} {od_kept_poured an_kept_poured : Option Addr} {sl_kept_poured : Array (Option Value)} {oc_kept_poured kV_kept_poured dc_kept_poured pm_kept_poured cd_kept_poured ct_kept_poured : Value} {C_PourError : Addr} {C_NoParts : Addr} {C_NoShare : Addr} {C_NoRow : Addr} {C_NoMany : Addr} {C_NoLefts : Addr} {C_NoPlace : Addr} {C_NoNumber : Addr} {C_NoDistance : Addr} {C_NoPour : Addr} {C_Full : Addr} {C_NothingLeft : Addr}
    (a0 : PySem.W.nsIn K mainGlobals "is_within" = some (some (.ref f0)))
    (l0 : K.lookup f0 = some ⟨oc0, od0, .func (PySem.W.fnOf "is_within" "is_within" (defArgs s_is_within) (defBody s_is_within) (defScope s_is_within) .none kV0 dc0 pm0 an0 cd0 ct0), sl0⟩)
    (c0 : PySem.W.codeIn K cd0 "is_within" = true)
    (k0 : PySem.W.keepIn K (.ref f0) = true)
    (a1 : PySem.W.nsIn K mainGlobals "common" = some (some (.ref f1)))
    (l1 : K.lookup f1 = some ⟨oc1, od1, .func (PySem.W.fnOf "common" "common" (defArgs s_common) (defBody s_common) (defScope s_common) .none kV1 dc1 pm1 an1 cd1 ct1), sl1⟩)
    (c1 : PySem.W.codeIn K cd1 "common" = true)
    (k1 : PySem.W.keepIn K (.ref f1) = true)
    (a2 : PySem.W.nsIn K mainGlobals "made" = some (some (.ref f2)))
    (l2 : K.lookup f2 = some ⟨oc2, od2, .func (PySem.W.fnOf "made" "made" (defArgs s_made) (defBody s_made) (defScope s_made) .none kV2 dc2 pm2 an2 cd2 ct2), sl2⟩)
    (c2 : PySem.W.codeIn K cd2 "made" = true)
    (k2 : PySem.W.keepIn K (.ref f2) = true)
    (a3 : PySem.W.nsIn K mainGlobals "plus" = some (some (.ref f3)))
    (l3 : K.lookup f3 = some ⟨oc3, od3, .func (PySem.W.fnOf "plus" "plus" (defArgs s_plus) (defBody s_plus) (defScope s_plus) .none kV3 dc3 pm3 an3 cd3 ct3), sl3⟩)
    (c3 : PySem.W.codeIn K cd3 "plus" = true)
    (k3 : PySem.W.keepIn K (.ref f3) = true)
    (a4 : PySem.W.nsIn K mainGlobals "minus" = some (some (.ref f4)))
    (l4 : K.lookup f4 = some ⟨oc4, od4, .func (PySem.W.fnOf "minus" "minus" (defArgs s_minus) (defBody s_minus) (defScope s_minus) .none kV4 dc4 pm4 an4 cd4 ct4), sl4⟩)
    (c4 : PySem.W.codeIn K cd4 "minus" = true)
    (k4 : PySem.W.keepIn K (.ref f4) = true)
    (a5 : PySem.W.nsIn K mainGlobals "times" = some (some (.ref f5)))
    (l5 : K.lookup f5 = some ⟨oc5, od5, .func (PySem.W.fnOf "times" "times" (defArgs s_times) (defBody s_times) (defScope s_times) .none kV5 dc5 pm5 an5 cd5 ct5), sl5⟩)
    (c5 : PySem.W.codeIn K cd5 "times" = true)
    (k5 : PySem.W.keepIn K (.ref f5) = true)
    (a6 : PySem.W.nsIn K mainGlobals "by" = some (some (.ref f6)))
    (l6 : K.lookup f6 = some ⟨oc6, od6, .func (PySem.W.fnOf "by" "by" (defArgs s_by) (defBody s_by) (defScope s_by) .none kV6 dc6 pm6 an6 cd6 ct6), sl6⟩)
    (c6 : PySem.W.codeIn K cd6 "by" = true)
    (k6 : PySem.W.keepIn K (.ref f6) = true)
    (a7 : PySem.W.nsIn K mainGlobals "is_less" = some (some (.ref f7)))
    (l7 : K.lookup f7 = some ⟨oc7, od7, .func (PySem.W.fnOf "is_less" "is_less" (defArgs s_is_less) (defBody s_is_less) (defScope s_is_less) .none kV7 dc7 pm7 an7 cd7 ct7), sl7⟩)
    (c7 : PySem.W.codeIn K cd7 "is_less" = true)
    (k7 : PySem.W.keepIn K (.ref f7) = true)
    (a8 : PySem.W.nsIn K mainGlobals "is_share" = some (some (.ref f8)))
    (l8 : K.lookup f8 = some ⟨oc8, od8, .func (PySem.W.fnOf "is_share" "is_share" (defArgs s_is_share) (defBody s_is_share) (defScope s_is_share) .none kV8 dc8 pm8 an8 cd8 ct8), sl8⟩)
    (c8 : PySem.W.codeIn K cd8 "is_share" = true)
    (k8 : PySem.W.keepIn K (.ref f8) = true)
    (a9 : PySem.W.nsIn K mainGlobals "are_parts" = some (some (.ref f9)))
    (l9 : K.lookup f9 = some ⟨oc9, od9, .func (PySem.W.fnOf "are_parts" "are_parts" (defArgs s_are_parts) (defBody s_are_parts) (defScope s_are_parts) .none kV9 dc9 pm9 an9 cd9 ct9), sl9⟩)
    (c9 : PySem.W.codeIn K cd9 "are_parts" = true)
    (k9 : PySem.W.keepIn K (.ref f9) = true)
    (a10 : PySem.W.nsIn K mainGlobals "is_pour" = some (some (.ref f10)))
    (l10 : K.lookup f10 = some ⟨oc10, od10, .func (PySem.W.fnOf "is_pour" "is_pour" (defArgs s_is_pour) (defBody s_is_pour) (defScope s_is_pour) .none kV10 dc10 pm10 an10 cd10 ct10), sl10⟩)
    (c10 : PySem.W.codeIn K cd10 "is_pour" = true)
    (k10 : PySem.W.keepIn K (.ref f10) = true)
    (a11 : PySem.W.nsIn K mainGlobals "is_row" = some (some (.ref f11)))
    (l11 : K.lookup f11 = some ⟨oc11, od11, .func (PySem.W.fnOf "is_row" "is_row" (defArgs s_is_row) (defBody s_is_row) (defScope s_is_row) .none kV11 dc11 pm11 an11 cd11 ct11), sl11⟩)
    (c11 : PySem.W.codeIn K cd11 "is_row" = true)
    (k11 : PySem.W.keepIn K (.ref f11) = true)
    (a12 : PySem.W.nsIn K mainGlobals "need_parts" = some (some (.ref f12)))
    (l12 : K.lookup f12 = some ⟨oc12, od12, .func (PySem.W.fnOf "need_parts" "need_parts" (defArgs s_need_parts) (defBody s_need_parts) (defScope s_need_parts) .none kV12 dc12 pm12 an12 cd12 ct12), sl12⟩)
    (c12 : PySem.W.codeIn K cd12 "need_parts" = true)
    (k12 : PySem.W.keepIn K (.ref f12) = true)
    (a13 : PySem.W.nsIn K mainGlobals "need_share" = some (some (.ref f13)))
    (l13 : K.lookup f13 = some ⟨oc13, od13, .func (PySem.W.fnOf "need_share" "need_share" (defArgs s_need_share) (defBody s_need_share) (defScope s_need_share) .none kV13 dc13 pm13 an13 cd13 ct13), sl13⟩)
    (c13 : PySem.W.codeIn K cd13 "need_share" = true)
    (k13 : PySem.W.keepIn K (.ref f13) = true)
    (a14 : PySem.W.nsIn K mainGlobals "need_row" = some (some (.ref f14)))
    (l14 : K.lookup f14 = some ⟨oc14, od14, .func (PySem.W.fnOf "need_row" "need_row" (defArgs s_need_row) (defBody s_need_row) (defScope s_need_row) .none kV14 dc14 pm14 an14 cd14 ct14), sl14⟩)
    (c14 : PySem.W.codeIn K cd14 "need_row" = true)
    (k14 : PySem.W.keepIn K (.ref f14) = true)
    (a15 : PySem.W.nsIn K mainGlobals "poured" = some (some (.ref f15)))
    (l15 : K.lookup f15 = some ⟨oc15, od15, .func (PySem.W.fnOf "poured" "poured" (defArgs s_poured) (defBody s_poured) (defScope s_poured) .none kV15 dc15 pm15 an15 cd15 ct15), sl15⟩)
    (c15 : PySem.W.codeIn K cd15 "poured" = true)
    (k15 : PySem.W.keepIn K (.ref f15) = true)
    (a16 : PySem.W.nsIn K mainGlobals "unpoured" = some (some (.ref f16)))
    (l16 : K.lookup f16 = some ⟨oc16, od16, .func (PySem.W.fnOf "unpoured" "unpoured" (defArgs s_unpoured) (defBody s_unpoured) (defScope s_unpoured) .none kV16 dc16 pm16 an16 cd16 ct16), sl16⟩)
    (c16 : PySem.W.codeIn K cd16 "unpoured" = true)
    (k16 : PySem.W.keepIn K (.ref f16) = true)
    (a17 : PySem.W.nsIn K mainGlobals "end_of" = some (some (.ref f17)))
    (l17 : K.lookup f17 = some ⟨oc17, od17, .func (PySem.W.fnOf "end_of" "end_of" (defArgs s_end_of) (defBody s_end_of) (defScope s_end_of) .none kV17 dc17 pm17 an17 cd17 ct17), sl17⟩)
    (c17 : PySem.W.codeIn K cd17 "end_of" = true)
    (k17 : PySem.W.keepIn K (.ref f17) = true)
    (a18 : PySem.W.nsIn K mainGlobals "behind" = some (some (.ref f18)))
    (l18 : K.lookup f18 = some ⟨oc18, od18, .func (PySem.W.fnOf "behind" "behind" (defArgs s_behind) (defBody s_behind) (defScope s_behind) .none kV18 dc18 pm18 an18 cd18 ct18), sl18⟩)
    (c18 : PySem.W.codeIn K cd18 "behind" = true)
    (k18 : PySem.W.keepIn K (.ref f18) = true)
    (a19 : PySem.W.nsIn K mainGlobals "is_between" = some (some (.ref f19)))
    (l19 : K.lookup f19 = some ⟨oc19, od19, .func (PySem.W.fnOf "is_between" "is_between" (defArgs s_is_between) (defBody s_is_between) (defScope s_is_between) .none kV19 dc19 pm19 an19 cd19 ct19), sl19⟩)
    (c19 : PySem.W.codeIn K cd19 "is_between" = true)
    (k19 : PySem.W.keepIn K (.ref f19) = true)
    (a20 : PySem.W.nsIn K mainGlobals "one_back" = some (some (.ref f20)))
    (l20 : K.lookup f20 = some ⟨oc20, od20, .func (PySem.W.fnOf "one_back" "one_back" (defArgs s_one_back) (defBody s_one_back) (defScope s_one_back) .none kV20 dc20 pm20 an20 cd20 ct20), sl20⟩)
    (c20 : PySem.W.codeIn K cd20 "one_back" = true)
    (k20 : PySem.W.keepIn K (.ref f20) = true)
    (a21 : PySem.W.nsIn K mainGlobals "rows_to" = some (some (.ref f21)))
    (l21 : K.lookup f21 = some ⟨oc21, od21, .func (PySem.W.fnOf "rows_to" "rows_to" (defArgs s_rows_to) (defBody s_rows_to) (defScope s_rows_to) .none kV21 dc21 pm21 an21 cd21 ct21), sl21⟩)
    (c21 : PySem.W.codeIn K cd21 "rows_to" = true)
    (k21 : PySem.W.keepIn K (.ref f21) = true)
    (a22 : PySem.W.nsIn K mainGlobals "fewest_to" = some (some (.ref f22)))
    (l22 : K.lookup f22 = some ⟨oc22, od22, .func (PySem.W.fnOf "fewest_to" "fewest_to" (defArgs s_fewest_to) (defBody s_fewest_to) (defScope s_fewest_to) .none kV22 dc22 pm22 an22 cd22 ct22), sl22⟩)
    (c22 : PySem.W.codeIn K cd22 "fewest_to" = true)
    (k22 : PySem.W.keepIn K (.ref f22) = true)
    (a23 : PySem.W.nsIn K mainGlobals "unseen" = some (some (.ref f23)))
    (l23 : K.lookup f23 = some ⟨oc23, od23, .func (PySem.W.fnOf "unseen" "unseen" (defArgs s_unseen) (defBody s_unseen) (defScope s_unseen) .none kV23 dc23 pm23 an23 cd23 ct23), sl23⟩)
    (c23 : PySem.W.codeIn K cd23 "unseen" = true)
    (k23 : PySem.W.keepIn K (.ref f23) = true)
    (a24 : PySem.W.nsIn K mainGlobals "ways" = some (some (.ref f24)))
    (l24 : K.lookup f24 = some ⟨oc24, od24, .func (PySem.W.fnOf "ways" "ways" (defArgs s_ways) (defBody s_ways) (defScope s_ways) .none kV24 dc24 pm24 an24 cd24 ct24), sl24⟩)
    (c24 : PySem.W.codeIn K cd24 "ways" = true)
    (k24 : PySem.W.keepIn K (.ref f24) = true)
    (a25 : PySem.W.nsIn K mainGlobals "count" = some (some (.ref f25)))
    (l25 : K.lookup f25 = some ⟨oc25, od25, .func (PySem.W.fnOf "count" "count" (defArgs s_count) (defBody s_count) (defScope s_count) .none kV25 dc25 pm25 an25 cd25 ct25), sl25⟩)
    (c25 : PySem.W.codeIn K cd25 "count" = true)
    (k25 : PySem.W.keepIn K (.ref f25) = true)
    (a26 : PySem.W.nsIn K mainGlobals "need_many" = some (some (.ref f26)))
    (l26 : K.lookup f26 = some ⟨oc26, od26, .func (PySem.W.fnOf "need_many" "need_many" (defArgs s_need_many) (defBody s_need_many) (defScope s_need_many) .none kV26 dc26 pm26 an26 cd26 ct26), sl26⟩)
    (c26 : PySem.W.codeIn K cd26 "need_many" = true)
    (k26 : PySem.W.keepIn K (.ref f26) = true)
    (a27 : PySem.W.nsIn K mainGlobals "numbered" = some (some (.ref f27)))
    (l27 : K.lookup f27 = some ⟨oc27, od27, .func (PySem.W.fnOf "numbered" "numbered" (defArgs s_numbered) (defBody s_numbered) (defScope s_numbered) .none kV27 dc27 pm27 an27 cd27 ct27), sl27⟩)
    (c27 : PySem.W.codeIn K cd27 "numbered" = true)
    (k27 : PySem.W.keepIn K (.ref f27) = true)
    (a28 : PySem.W.nsIn K mainGlobals "row_of" = some (some (.ref f28)))
    (l28 : K.lookup f28 = some ⟨oc28, od28, .func (PySem.W.fnOf "row_of" "row_of" (defArgs s_row_of) (defBody s_row_of) (defScope s_row_of) .none kV28 dc28 pm28 an28 cd28 ct28), sl28⟩)
    (c28 : PySem.W.codeIn K cd28 "row_of" = true)
    (k28 : PySem.W.keepIn K (.ref f28) = true)
    (a29 : PySem.W.nsIn K mainGlobals "number_of" = some (some (.ref f29)))
    (l29 : K.lookup f29 = some ⟨oc29, od29, .func (PySem.W.fnOf "number_of" "number_of" (defArgs s_number_of) (defBody s_number_of) (defScope s_number_of) .none kV29 dc29 pm29 an29 cd29 ct29), sl29⟩)
    (c29 : PySem.W.codeIn K cd29 "number_of" = true)
    (k29 : PySem.W.keepIn K (.ref f29) = true)
    (a30 : PySem.W.nsIn K mainGlobals "ending_at_most" = some (some (.ref f30)))
    (l30 : K.lookup f30 = some ⟨oc30, od30, .func (PySem.W.fnOf "ending_at_most" "ending_at_most" (defArgs s_ending_at_most) (defBody s_ending_at_most) (defScope s_ending_at_most) .none kV30 dc30 pm30 an30 cd30 ct30), sl30⟩)
    (c30 : PySem.W.codeIn K cd30 "ending_at_most" = true)
    (k30 : PySem.W.keepIn K (.ref f30) = true)
    (a31 : PySem.W.nsIn K mainGlobals "at_most" = some (some (.ref f31)))
    (l31 : K.lookup f31 = some ⟨oc31, od31, .func (PySem.W.fnOf "at_most" "at_most" (defArgs s_at_most) (defBody s_at_most) (defScope s_at_most) .none kV31 dc31 pm31 an31 cd31 ct31), sl31⟩)
    (c31 : PySem.W.codeIn K cd31 "at_most" = true)
    (k31 : PySem.W.keepIn K (.ref f31) = true)
    (a32 : PySem.W.nsIn K mainGlobals "far" = some (some (.ref f32)))
    (l32 : K.lookup f32 = some ⟨oc32, od32, .func (PySem.W.fnOf "far" "far" (defArgs s_far) (defBody s_far) (defScope s_far) .none kV32 dc32 pm32 an32 cd32 ct32), sl32⟩)
    (c32 : PySem.W.codeIn K cd32 "far" = true)
    (k32 : PySem.W.keepIn K (.ref f32) = true)
    (a33 : PySem.W.nsIn K mainGlobals "nearest_row" = some (some (.ref f33)))
    (l33 : K.lookup f33 = some ⟨oc33, od33, .func (PySem.W.fnOf "nearest_row" "nearest_row" (defArgs s_nearest_row) (defBody s_nearest_row) (defScope s_nearest_row) .none kV33 dc33 pm33 an33 cd33 ct33), sl33⟩)
    (c33 : PySem.W.codeIn K cd33 "nearest_row" = true)
    (k33 : PySem.W.keepIn K (.ref f33) = true)
    (a34 : PySem.W.nsIn K mainGlobals "nearest" = some (some (.ref f34)))
    (l34 : K.lookup f34 = some ⟨oc34, od34, .func (PySem.W.fnOf "nearest" "nearest" (defArgs s_nearest) (defBody s_nearest) (defScope s_nearest) .none kV34 dc34 pm34 an34 cd34 ct34), sl34⟩)
    (c34 : PySem.W.codeIn K cd34 "nearest" = true)
    (k34 : PySem.W.keepIn K (.ref f34) = true)
    (a35 : PySem.W.nsIn K mainGlobals "need_distance" = some (some (.ref f35)))
    (l35 : K.lookup f35 = some ⟨oc35, od35, .func (PySem.W.fnOf "need_distance" "need_distance" (defArgs s_need_distance) (defBody s_need_distance) (defScope s_need_distance) .none kV35 dc35 pm35 an35 cd35 ct35), sl35⟩)
    (c35 : PySem.W.codeIn K cd35 "need_distance" = true)
    (k35 : PySem.W.keepIn K (.ref f35) = true)
    (a36 : PySem.W.nsIn K mainGlobals "near_enough" = some (some (.ref f36)))
    (l36 : K.lookup f36 = some ⟨oc36, od36, .func (PySem.W.fnOf "near_enough" "near_enough" (defArgs s_near_enough) (defBody s_near_enough) (defScope s_near_enough) .none kV36 dc36 pm36 an36 cd36 ct36), sl36⟩)
    (c36 : PySem.W.codeIn K cd36 "near_enough" = true)
    (k36 : PySem.W.keepIn K (.ref f36) = true)
    (a37 : PySem.W.nsIn K mainGlobals "need_pours" = some (some (.ref f37)))
    (l37 : K.lookup f37 = some ⟨oc37, od37, .func (PySem.W.fnOf "need_pours" "need_pours" (defArgs s_need_pours) (defBody s_need_pours) (defScope s_need_pours) .none kV37 dc37 pm37 an37 cd37 ct37), sl37⟩)
    (c37 : PySem.W.codeIn K cd37 "need_pours" = true)
    (k37 : PySem.W.keepIn K (.ref f37) = true)
    (a38 : PySem.W.nsIn K mainGlobals "middle" = some (some (.ref f38)))
    (l38 : K.lookup f38 = some ⟨oc38, od38, .func (PySem.W.fnOf "middle" "middle" (defArgs s_middle) (defBody s_middle) (defScope s_middle) .none kV38 dc38 pm38 an38 cd38 ct38), sl38⟩)
    (c38 : PySem.W.codeIn K cd38 "middle" = true)
    (k38 : PySem.W.keepIn K (.ref f38) = true)
    (a39 : PySem.W.nsIn K mainGlobals "shrinks" = some (some (.ref f39)))
    (l39 : K.lookup f39 = some ⟨oc39, od39, .func (PySem.W.fnOf "shrinks" "shrinks" (defArgs s_shrinks) (defBody s_shrinks) (defScope s_shrinks) .none kV39 dc39 pm39 an39 cd39 ct39), sl39⟩)
    (c39 : PySem.W.codeIn K cd39 "shrinks" = true)
    (k39 : PySem.W.keepIn K (.ref f39) = true)
    (a40 : PySem.W.nsIn K mainGlobals "goes_to" = some (some (.ref f40)))
    (l40 : K.lookup f40 = some ⟨oc40, od40, .func (PySem.W.fnOf "goes_to" "goes_to" (defArgs s_goes_to) (defBody s_goes_to) (defScope s_goes_to) .none kV40 dc40 pm40 an40 cd40 ct40), sl40⟩)
    (c40 : PySem.W.codeIn K cd40 "goes_to" = true)
    (k40 : PySem.W.keepIn K (.ref f40) = true)
    (a41 : PySem.W.nsIn K mainGlobals "times_till" = some (some (.ref f41)))
    (l41 : K.lookup f41 = some ⟨oc41, od41, .func (PySem.W.fnOf "times_till" "times_till" (defArgs s_times_till) (defBody s_times_till) (defScope s_times_till) .none kV41 dc41 pm41 an41 cd41 ct41), sl41⟩)
    (c41 : PySem.W.codeIn K cd41 "times_till" = true)
    (k41 : PySem.W.keepIn K (.ref f41) = true)
    (a42 : PySem.W.nsIn K mainGlobals "_law_cell_at" = some (some (.ref f42)))
    (l42 : K.lookup f42 = some ⟨oc42, od42, .func (PySem.W.fnOf "_law_cell_at" "_law_cell_at" (defArgs s_law_cell_at) (defBody s_law_cell_at) (defScope s_law_cell_at) .none kV42 dc42 pm42 an42 cd42 ct42), sl42⟩)
    (c42 : PySem.W.codeIn K cd42 "_law_cell_at" = true)
    (k42 : PySem.W.keepIn K (.ref f42) = true)
    (a43 : PySem.W.nsIn K mainGlobals "_law_draws" = some (some (.ref f43)))
    (l43 : K.lookup f43 = some ⟨oc43, od43, .func (PySem.W.fnOf "_law_draws" "_law_draws" (defArgs s_law_draws) (defBody s_law_draws) (defScope s_law_draws) .none kV43 dc43 pm43 an43 cd43 ct43), sl43⟩)
    (c43 : PySem.W.codeIn K cd43 "_law_draws" = true)
    (k43 : PySem.W.keepIn K (.ref f43) = true)
    (a44 : PySem.W.nsIn K mainGlobals "_law_bag" = some (some (.ref f44)))
    (l44 : K.lookup f44 = some ⟨oc44, od44, .func (PySem.W.fnOf "_law_bag" "_law_bag" (defArgs s_law_bag) (defBody s_law_bag) (defScope s_law_bag) .none kV44 dc44 pm44 an44 cd44 ct44), sl44⟩)
    (c44 : PySem.W.codeIn K cd44 "_law_bag" = true)
    (k44 : PySem.W.keepIn K (.ref f44) = true)
    (a45 : PySem.W.nsIn K mainGlobals "_law_bags" = some (some (.ref f45)))
    (l45 : K.lookup f45 = some ⟨oc45, od45, .func (PySem.W.fnOf "_law_bags" "_law_bags" (defArgs s_law_bags) (defBody s_law_bags) (defScope s_law_bags) .none kV45 dc45 pm45 an45 cd45 ct45), sl45⟩)
    (c45 : PySem.W.codeIn K cd45 "_law_bags" = true)
    (k45 : PySem.W.keepIn K (.ref f45) = true)
    (a46 : PySem.W.nsIn K mainGlobals "_law_take" = some (some (.ref f46)))
    (l46 : K.lookup f46 = some ⟨oc46, od46, .func (PySem.W.fnOf "_law_take" "_law_take" (defArgs s_law_take) (defBody s_law_take) (defScope s_law_take) .none kV46 dc46 pm46 an46 cd46 ct46), sl46⟩)
    (c46 : PySem.W.codeIn K cd46 "_law_take" = true)
    (k46 : PySem.W.keepIn K (.ref f46) = true)
    (a47 : PySem.W.nsIn K mainGlobals "_law_far_draw" = some (some (.ref f47)))
    (l47 : K.lookup f47 = some ⟨oc47, od47, .func (PySem.W.fnOf "_law_far_draw" "_law_far_draw" (defArgs s_law_far_draw) (defBody s_law_far_draw) (defScope s_law_far_draw) .none kV47 dc47 pm47 an47 cd47 ct47), sl47⟩)
    (c47 : PySem.W.codeIn K cd47 "_law_far_draw" = true)
    (k47 : PySem.W.keepIn K (.ref f47) = true)
    (a48 : PySem.W.nsIn K mainGlobals "_law_common" = some (some (.ref f48)))
    (l48 : K.lookup f48 = some ⟨oc48, od48, .func (PySem.W.fnOf "_law_common" "_law_common" (defArgs s_law_common) (defBody s_law_common) (defScope s_law_common) .none kV48 dc48 pm48 an48 cd48 ct48), sl48⟩)
    (c48 : PySem.W.codeIn K cd48 "_law_common" = true)
    (k48 : PySem.W.keepIn K (.ref f48) = true)
    (a49 : PySem.W.nsIn K mainGlobals "_law_made" = some (some (.ref f49)))
    (l49 : K.lookup f49 = some ⟨oc49, od49, .func (PySem.W.fnOf "_law_made" "_law_made" (defArgs s_law_made) (defBody s_law_made) (defScope s_law_made) .none kV49 dc49 pm49 an49 cd49 ct49), sl49⟩)
    (c49 : PySem.W.codeIn K cd49 "_law_made" = true)
    (k49 : PySem.W.keepIn K (.ref f49) = true)
    (a50 : PySem.W.nsIn K mainGlobals "_law_plus" = some (some (.ref f50)))
    (l50 : K.lookup f50 = some ⟨oc50, od50, .func (PySem.W.fnOf "_law_plus" "_law_plus" (defArgs s_law_plus) (defBody s_law_plus) (defScope s_law_plus) .none kV50 dc50 pm50 an50 cd50 ct50), sl50⟩)
    (c50 : PySem.W.codeIn K cd50 "_law_plus" = true)
    (k50 : PySem.W.keepIn K (.ref f50) = true)
    (a51 : PySem.W.nsIn K mainGlobals "_law_minus" = some (some (.ref f51)))
    (l51 : K.lookup f51 = some ⟨oc51, od51, .func (PySem.W.fnOf "_law_minus" "_law_minus" (defArgs s_law_minus) (defBody s_law_minus) (defScope s_law_minus) .none kV51 dc51 pm51 an51 cd51 ct51), sl51⟩)
    (c51 : PySem.W.codeIn K cd51 "_law_minus" = true)
    (k51 : PySem.W.keepIn K (.ref f51) = true)
    (a52 : PySem.W.nsIn K mainGlobals "_law_times" = some (some (.ref f52)))
    (l52 : K.lookup f52 = some ⟨oc52, od52, .func (PySem.W.fnOf "_law_times" "_law_times" (defArgs s_law_times) (defBody s_law_times) (defScope s_law_times) .none kV52 dc52 pm52 an52 cd52 ct52), sl52⟩)
    (c52 : PySem.W.codeIn K cd52 "_law_times" = true)
    (k52 : PySem.W.keepIn K (.ref f52) = true)
    (a53 : PySem.W.nsIn K mainGlobals "_law_end" = some (some (.ref f53)))
    (l53 : K.lookup f53 = some ⟨oc53, od53, .func (PySem.W.fnOf "_law_end" "_law_end" (defArgs s_law_end) (defBody s_law_end) (defScope s_law_end) .none kV53 dc53 pm53 an53 cd53 ct53), sl53⟩)
    (c53 : PySem.W.codeIn K cd53 "_law_end" = true)
    (k53 : PySem.W.keepIn K (.ref f53) = true)
    (a54 : PySem.W.nsIn K mainGlobals "_law_twos" = some (some (.ref f54)))
    (l54 : K.lookup f54 = some ⟨oc54, od54, .func (PySem.W.fnOf "_law_twos" "_law_twos" (defArgs s_law_twos) (defBody s_law_twos) (defScope s_law_twos) .none kV54 dc54 pm54 an54 cd54 ct54), sl54⟩)
    (c54 : PySem.W.codeIn K cd54 "_law_twos" = true)
    (k54 : PySem.W.keepIn K (.ref f54) = true)
    (a55 : PySem.W.nsIn K mainGlobals "_law_halves_right" = some (some (.ref f55)))
    (l55 : K.lookup f55 = some ⟨oc55, od55, .func (PySem.W.fnOf "_law_halves_right" "_law_halves_right" (defArgs s_law_halves_right) (defBody s_law_halves_right) (defScope s_law_halves_right) .none kV55 dc55 pm55 an55 cd55 ct55), sl55⟩)
    (c55 : PySem.W.codeIn K cd55 "_law_halves_right" = true)
    (k55 : PySem.W.keepIn K (.ref f55) = true)
    (a56 : PySem.W.nsIn K mainGlobals "law" = some (some (.ref f56)))
    (l56 : K.lookup f56 = some ⟨oc56, od56, .func (PySem.W.fnOf "law" "law" (defArgs s_law) (defBody s_law) (defScope s_law) .none kV56 dc56 pm56 an56 cd56 ct56), sl56⟩)
    (c56 : PySem.W.codeIn K cd56 "law" = true)
    (k56 : PySem.W.keepIn K (.ref f56) = true)
    (z_abs : PySem.W.nsIn K mainGlobals "abs" = some none)
    (z_all : PySem.W.nsIn K mainGlobals "all" = some none)
    (z_bool : PySem.W.nsIn K mainGlobals "bool" = some none)
    (z_enumerate : PySem.W.nsIn K mainGlobals "enumerate" = some none)
    (z_int : PySem.W.nsIn K mainGlobals "int" = some none)
    (z_isinstance : PySem.W.nsIn K mainGlobals "isinstance" = some none)
    (z_len : PySem.W.nsIn K mainGlobals "len" = some none)
    (z_list : PySem.W.nsIn K mainGlobals "list" = some none)
    (z_max : PySem.W.nsIn K mainGlobals "max" = some none)
    (z_min : PySem.W.nsIn K mainGlobals "min" = some none)
    (z_range : PySem.W.nsIn K mainGlobals "range" = some none)
    (z_repr : PySem.W.nsIn K mainGlobals "repr" = some none)
    (z_str : PySem.W.nsIn K mainGlobals "str" = some none)
    (z_tuple : PySem.W.nsIn K mainGlobals "tuple" = some none)
    (z_zip : PySem.W.nsIn K mainGlobals "zip" = some none)
    (z_ValueError : PySem.W.nsIn K mainGlobals "ValueError" = some none)
    (n_GREAT : PySem.W.nsIn K mainGlobals "GREAT" = some (some (.int 100000000000000000000 t_GREAT)))
    (n_MOST : PySem.W.nsIn K mainGlobals "MOST" = some (some (.int 100 t_MOST)))
    (n_WAYS : PySem.W.nsIn K mainGlobals "WAYS" = some (some (.ref p_WAYS)))
    (o_WAYS : K.lookup p_WAYS = some ⟨.type "tuple", none, .seq #[.str "right" t0_WAYS, .str "left" t1_WAYS] m_WAYS, s_WAYS⟩)
    (al_poured_pours : PySem.W.nsIn K mainGlobals "poured_pours" = some (some (.ref f15)))
    (kC : PySem.W.nsIn K mainGlobals "Kept" = some (some (.ref C_Kept)))
    (ka_kept_init : PySem.W.findIn K (.ref C_Kept) "__init__" = some (some (.ref f_kept_init)))
    (ki_kept_init : PySem.W.isFn K (.ref f_kept_init) = true)
    (kl_kept_init : K.lookup f_kept_init = some ⟨oc_kept_init, od_kept_init, .func (PySem.W.fnOf "__init__" "Kept.__init__" (defArgs s_kept_init) (defBody s_kept_init) (defScope s_kept_init) .none kV_kept_init dc_kept_init pm_kept_init an_kept_init cd_kept_init ct_kept_init), sl_kept_init⟩)
    (kc_kept_init : PySem.W.codeIn K cd_kept_init "Kept.__init__" = true)
    (kk_kept_init : PySem.W.keepIn K (.ref f_kept_init) = true)
    (ka_kept_pour : PySem.W.findIn K (.ref C_Kept) "pour" = some (some (.ref f_kept_pour)))
    (ki_kept_pour : PySem.W.isFn K (.ref f_kept_pour) = true)
    (kl_kept_pour : K.lookup f_kept_pour = some ⟨oc_kept_pour, od_kept_pour, .func (PySem.W.fnOf "pour" "Kept.pour" (defArgs s_kept_pour) (defBody s_kept_pour) (defScope s_kept_pour) .none kV_kept_pour dc_kept_pour pm_kept_pour an_kept_pour cd_kept_pour ct_kept_pour), sl_kept_pour⟩)
    (kc_kept_pour : PySem.W.codeIn K cd_kept_pour "Kept.pour" = true)
    (kk_kept_pour : PySem.W.keepIn K (.ref f_kept_pour) = true)
    (ka_kept_share : PySem.W.findIn K (.ref C_Kept) "share" = some (some (.ref f_kept_share)))
    (ki_kept_share : PySem.W.isFn K (.ref f_kept_share) = true)
    (kl_kept_share : K.lookup f_kept_share = some ⟨oc_kept_share, od_kept_share, .func (PySem.W.fnOf "share" "Kept.share" (defArgs s_kept_share) (defBody s_kept_share) (defScope s_kept_share) .none kV_kept_share dc_kept_share pm_kept_share an_kept_share cd_kept_share ct_kept_share), sl_kept_share⟩)
    (kc_kept_share : PySem.W.codeIn K cd_kept_share "Kept.share" = true)
    (kk_kept_share : PySem.W.keepIn K (.ref f_kept_share) = true)
    (ka_kept_poured : PySem.W.findIn K (.ref C_Kept) "poured" = some (some (.ref f_kept_poured)))
    (ki_kept_poured : PySem.W.isFn K (.ref f_kept_poured) = true)
    (kl_kept_poured : K.lookup f_kept_poured = some ⟨oc_kept_poured, od_kept_poured, .func (PySem.W.fnOf "poured" "Kept.poured" (defArgs s_kept_poured) (defBody s_kept_poured) (defScope s_kept_poured) .none kV_kept_poured dc_kept_poured pm_kept_poured an_kept_poured cd_kept_poured ct_kept_poured), sl_kept_poured⟩)
    (kc_kept_poured : PySem.W.codeIn K cd_kept_poured "Kept.poured" = true)
    (kk_kept_poured : PySem.W.keepIn K (.ref f_kept_poured) = true)
    (kpg : PySem.W.plainGet K C_Kept Str.empty = true)
    (khd : PySem.W.hasDictIn K C_Kept = true)
    (kpo : PySem.W.plainOver K C_Kept = true)
    (ksa : PySem.W.findIn K (.ref C_Kept) "__setattr__" = some (some (.builtin "object.__setattr__")))
    (kmk : PySem.W.makesIn K C_Kept = true)
    (kkc : PySem.W.keepIn K (.ref C_Kept) = true)
    (kn1 : PySem.W.findIn K (.ref C_Kept) "parts" = some none)
    (kn2 : PySem.W.findIn K (.ref C_Kept) "past" = some none)
    (kn3 : PySem.W.findIn K (.ref C_Kept) "made" = some none)
    (e1_PourError : PySem.W.nsIn K mainGlobals "PourError" = some (some (.ref C_PourError)))
    (e2_PourError : PySem.W.excIn K C_PourError [.type "ValueError", .type "Exception", .type "BaseException", .type "object"] "ValueError.__new__" = true)
    (e3_PourError : PySem.W.keepIn K (.ref C_PourError) = true)
    (e4_PourError : PySem.W.subIn K (.ref C_PourError) (.type "BaseException") = some true)
    (e5_PourError : PySem.W.typeIn K (.ref C_PourError) = some (.type "type"))
    (e1_NoParts : PySem.W.nsIn K mainGlobals "NoParts" = some (some (.ref C_NoParts)))
    (e2_NoParts : PySem.W.excIn K C_NoParts [.type "ValueError", .type "Exception", .type "BaseException", .type "object"] "ValueError.__new__" = true)
    (e3_NoParts : PySem.W.keepIn K (.ref C_NoParts) = true)
    (e4_NoParts : PySem.W.subIn K (.ref C_NoParts) (.type "BaseException") = some true)
    (e5_NoParts : PySem.W.typeIn K (.ref C_NoParts) = some (.type "type"))
    (e1_NoShare : PySem.W.nsIn K mainGlobals "NoShare" = some (some (.ref C_NoShare)))
    (e2_NoShare : PySem.W.excIn K C_NoShare [.type "ValueError", .type "Exception", .type "BaseException", .type "object"] "ValueError.__new__" = true)
    (e3_NoShare : PySem.W.keepIn K (.ref C_NoShare) = true)
    (e4_NoShare : PySem.W.subIn K (.ref C_NoShare) (.type "BaseException") = some true)
    (e5_NoShare : PySem.W.typeIn K (.ref C_NoShare) = some (.type "type"))
    (e1_NoRow : PySem.W.nsIn K mainGlobals "NoRow" = some (some (.ref C_NoRow)))
    (e2_NoRow : PySem.W.excIn K C_NoRow [.type "ValueError", .type "Exception", .type "BaseException", .type "object"] "ValueError.__new__" = true)
    (e3_NoRow : PySem.W.keepIn K (.ref C_NoRow) = true)
    (e4_NoRow : PySem.W.subIn K (.ref C_NoRow) (.type "BaseException") = some true)
    (e5_NoRow : PySem.W.typeIn K (.ref C_NoRow) = some (.type "type"))
    (e1_NoMany : PySem.W.nsIn K mainGlobals "NoMany" = some (some (.ref C_NoMany)))
    (e2_NoMany : PySem.W.excIn K C_NoMany [.type "ValueError", .type "Exception", .type "BaseException", .type "object"] "ValueError.__new__" = true)
    (e3_NoMany : PySem.W.keepIn K (.ref C_NoMany) = true)
    (e4_NoMany : PySem.W.subIn K (.ref C_NoMany) (.type "BaseException") = some true)
    (e5_NoMany : PySem.W.typeIn K (.ref C_NoMany) = some (.type "type"))
    (e1_NoLefts : PySem.W.nsIn K mainGlobals "NoLefts" = some (some (.ref C_NoLefts)))
    (e2_NoLefts : PySem.W.excIn K C_NoLefts [.type "ValueError", .type "Exception", .type "BaseException", .type "object"] "ValueError.__new__" = true)
    (e3_NoLefts : PySem.W.keepIn K (.ref C_NoLefts) = true)
    (e4_NoLefts : PySem.W.subIn K (.ref C_NoLefts) (.type "BaseException") = some true)
    (e5_NoLefts : PySem.W.typeIn K (.ref C_NoLefts) = some (.type "type"))
    (e1_NoPlace : PySem.W.nsIn K mainGlobals "NoPlace" = some (some (.ref C_NoPlace)))
    (e2_NoPlace : PySem.W.excIn K C_NoPlace [.type "ValueError", .type "Exception", .type "BaseException", .type "object"] "ValueError.__new__" = true)
    (e3_NoPlace : PySem.W.keepIn K (.ref C_NoPlace) = true)
    (e4_NoPlace : PySem.W.subIn K (.ref C_NoPlace) (.type "BaseException") = some true)
    (e5_NoPlace : PySem.W.typeIn K (.ref C_NoPlace) = some (.type "type"))
    (e1_NoNumber : PySem.W.nsIn K mainGlobals "NoNumber" = some (some (.ref C_NoNumber)))
    (e2_NoNumber : PySem.W.excIn K C_NoNumber [.type "ValueError", .type "Exception", .type "BaseException", .type "object"] "ValueError.__new__" = true)
    (e3_NoNumber : PySem.W.keepIn K (.ref C_NoNumber) = true)
    (e4_NoNumber : PySem.W.subIn K (.ref C_NoNumber) (.type "BaseException") = some true)
    (e5_NoNumber : PySem.W.typeIn K (.ref C_NoNumber) = some (.type "type"))
    (e1_NoDistance : PySem.W.nsIn K mainGlobals "NoDistance" = some (some (.ref C_NoDistance)))
    (e2_NoDistance : PySem.W.excIn K C_NoDistance [.type "ValueError", .type "Exception", .type "BaseException", .type "object"] "ValueError.__new__" = true)
    (e3_NoDistance : PySem.W.keepIn K (.ref C_NoDistance) = true)
    (e4_NoDistance : PySem.W.subIn K (.ref C_NoDistance) (.type "BaseException") = some true)
    (e5_NoDistance : PySem.W.typeIn K (.ref C_NoDistance) = some (.type "type"))
    (e1_NoPour : PySem.W.nsIn K mainGlobals "NoPour" = some (some (.ref C_NoPour)))
    (e2_NoPour : PySem.W.excIn K C_NoPour [.type "ValueError", .type "Exception", .type "BaseException", .type "object"] "ValueError.__new__" = true)
    (e3_NoPour : PySem.W.keepIn K (.ref C_NoPour) = true)
    (e4_NoPour : PySem.W.subIn K (.ref C_NoPour) (.type "BaseException") = some true)
    (e5_NoPour : PySem.W.typeIn K (.ref C_NoPour) = some (.type "type"))
    (e1_Full : PySem.W.nsIn K mainGlobals "Full" = some (some (.ref C_Full)))
    (e2_Full : PySem.W.excIn K C_Full [.type "ValueError", .type "Exception", .type "BaseException", .type "object"] "ValueError.__new__" = true)
    (e3_Full : PySem.W.keepIn K (.ref C_Full) = true)
    (e4_Full : PySem.W.subIn K (.ref C_Full) (.type "BaseException") = some true)
    (e5_Full : PySem.W.typeIn K (.ref C_Full) = some (.type "type"))
    (e1_NothingLeft : PySem.W.nsIn K mainGlobals "NothingLeft" = some (some (.ref C_NothingLeft)))
    (e2_NothingLeft : PySem.W.excIn K C_NothingLeft [.type "ValueError", .type "Exception", .type "BaseException", .type "object"] "ValueError.__new__" = true)
    (e3_NothingLeft : PySem.W.keepIn K (.ref C_NothingLeft) = true)
    (e4_NothingLeft : PySem.W.subIn K (.ref C_NothingLeft) (.type "BaseException") = some true)
    (e5_NothingLeft : PySem.W.typeIn K (.ref C_NothingLeft) = some (.type "type")) :
    ∃ fd : FuncData, (∀ (s : Shared) (v : Value), BindsTo s fd ⟨[v], []⟩ [("script", v)]) ∧ ∀ base : Heap, K.In base → base.Ns mainGlobals mg → FnOk l.prog w K mg base (L2.CX l.prog w) 9 fa fd ["script"] (spLaw K) := by
  have e := hfa.symm.trans (PySem.W.mg_of X G a56)
  cases e
  let er : Er := ⟨C_PourError, C_NoParts, C_NoShare, C_NoRow, C_NoMany, C_NoLefts, C_NoPlace, C_NoNumber, C_NoDistance, C_NoPour, C_Full, C_NothingLeft, C_Kept⟩
  have R_PourError : Ref K mg "PourError" er.PourError := ⟨e2_PourError, PySem.W.mg_of X G e1_PourError, e3_PourError, e4_PourError, e5_PourError⟩
  have R_NoParts : Ref K mg "NoParts" er.NoParts := ⟨e2_NoParts, PySem.W.mg_of X G e1_NoParts, e3_NoParts, e4_NoParts, e5_NoParts⟩
  have R_NoShare : Ref K mg "NoShare" er.NoShare := ⟨e2_NoShare, PySem.W.mg_of X G e1_NoShare, e3_NoShare, e4_NoShare, e5_NoShare⟩
  have R_NoRow : Ref K mg "NoRow" er.NoRow := ⟨e2_NoRow, PySem.W.mg_of X G e1_NoRow, e3_NoRow, e4_NoRow, e5_NoRow⟩
  have R_NoMany : Ref K mg "NoMany" er.NoMany := ⟨e2_NoMany, PySem.W.mg_of X G e1_NoMany, e3_NoMany, e4_NoMany, e5_NoMany⟩
  have R_NoLefts : Ref K mg "NoLefts" er.NoLefts := ⟨e2_NoLefts, PySem.W.mg_of X G e1_NoLefts, e3_NoLefts, e4_NoLefts, e5_NoLefts⟩
  have R_NoPlace : Ref K mg "NoPlace" er.NoPlace := ⟨e2_NoPlace, PySem.W.mg_of X G e1_NoPlace, e3_NoPlace, e4_NoPlace, e5_NoPlace⟩
  have R_NoNumber : Ref K mg "NoNumber" er.NoNumber := ⟨e2_NoNumber, PySem.W.mg_of X G e1_NoNumber, e3_NoNumber, e4_NoNumber, e5_NoNumber⟩
  have R_NoDistance : Ref K mg "NoDistance" er.NoDistance := ⟨e2_NoDistance, PySem.W.mg_of X G e1_NoDistance, e3_NoDistance, e4_NoDistance, e5_NoDistance⟩
  have R_NoPour : Ref K mg "NoPour" er.NoPour := ⟨e2_NoPour, PySem.W.mg_of X G e1_NoPour, e3_NoPour, e4_NoPour, e5_NoPour⟩
  have R_Full : Ref K mg "Full" er.Full := ⟨e2_Full, PySem.W.mg_of X G e1_Full, e3_Full, e4_Full, e5_Full⟩
  have R_NothingLeft : Ref K mg "NothingLeft" er.NothingLeft := ⟨e2_NothingLeft, PySem.W.mg_of X G e1_NothingLeft, e3_NothingLeft, e4_NothingLeft, e5_NothingLeft⟩
  have Z : Bl mg := ⟨PySem.W.mg_none_of X G z_abs, PySem.W.mg_none_of X G z_all, PySem.W.mg_none_of X G z_bool, PySem.W.mg_none_of X G z_enumerate, PySem.W.mg_none_of X G z_int, PySem.W.mg_none_of X G z_isinstance, PySem.W.mg_none_of X G z_len, PySem.W.mg_none_of X G z_list, PySem.W.mg_none_of X G z_max, PySem.W.mg_none_of X G z_min, PySem.W.mg_none_of X G z_range, PySem.W.mg_none_of X G z_repr, PySem.W.mg_none_of X G z_str, PySem.W.mg_none_of X G z_tuple, PySem.W.mg_none_of X G z_zip, PySem.W.mg_none_of X G z_ValueError⟩
  have c_GREAT := PySem.W.mg_of X G n_GREAT
  have c_MOST := PySem.W.mg_of X G n_MOST
  have c_WAYS : CTup K mg "WAYS" ["right", "left"] := ⟨p_WAYS, PySem.W.mg_of X G n_WAYS, _, _, _, o_WAYS, rfl, rfl, rfl, by rw [sizeLine_eq]; exact Nat.le_of_ble_eq_true rfl, Paired.cons ⟨_, rfl⟩ (Paired.cons ⟨_, rfl⟩ (Paired.nil))⟩
  refine ⟨PySem.W.fnOf "law" "law" (defArgs s_law) (defBody s_law) (defScope s_law) .none kV56 dc56 pm56 an56 cd56 ct56, fun s v => .of_eq rfl, fun base _ _ => ?_⟩
  have D_is_within := ok_is_within (P := l.prog) (w := w) (base := base) Z (show DefT K mg "is_within" s_is_within from ⟨_, _, fun_mk (st := s_is_within) l0 c0 k0, PySem.W.mg_of X G a0⟩) 
  have D_common := ok_common (P := l.prog) (w := w) (base := base) Z (show DefT K mg "common" s_common from ⟨_, _, fun_mk (st := s_common) l1 c1 k1, PySem.W.mg_of X G a1⟩) 
  have D_is_less := ok_is_less (P := l.prog) (w := w) (base := base) Z (show DefT K mg "is_less" s_is_less from ⟨_, _, fun_mk (st := s_is_less) l7 c7 k7, PySem.W.mg_of X G a7⟩) 
  have D_is_pour := ok_is_pour (P := l.prog) (w := w) (base := base) Z (show DefT K mg "is_pour" s_is_pour from ⟨_, _, fun_mk (st := s_is_pour) l10 c10 k10, PySem.W.mg_of X G a10⟩) 
  have D_ways := ok_ways (P := l.prog) (w := w) (base := base) Z (show DefT K mg "ways" s_ways from ⟨_, _, fun_mk (st := s_ways) l24 c24 k24, PySem.W.mg_of X G a24⟩) 
  have D_law_cell_at := ok_law_cell_at (P := l.prog) (w := w) (base := base) Z (show DefT K mg "_law_cell_at" s_law_cell_at from ⟨_, _, fun_mk (st := s_law_cell_at) l42 c42 k42, PySem.W.mg_of X G a42⟩) 
  have D_law_draws := ok_law_draws (P := l.prog) (w := w) (base := base) Z (show DefT K mg "_law_draws" s_law_draws from ⟨_, _, fun_mk (st := s_law_draws) l43 c43 k43, PySem.W.mg_of X G a43⟩) 
  have D_law_take := ok_law_take (P := l.prog) (w := w) (base := base) Z (show DefT K mg "_law_take" s_law_take from ⟨_, _, fun_mk (st := s_law_take) l46 c46 k46, PySem.W.mg_of X G a46⟩)
  have D_law_common := ok_law_common (P := l.prog) (w := w) (base := base) Z (show DefT K mg "_law_common" s_law_common from ⟨_, _, fun_mk (st := s_law_common) l48 c48 k48, PySem.W.mg_of X G a48⟩) 
  have D_law_twos := ok_law_twos (P := l.prog) (w := w) (base := base) Z (show DefT K mg "_law_twos" s_law_twos from ⟨_, _, fun_mk (st := s_law_twos) l54 c54 k54, PySem.W.mg_of X G a54⟩) 
  have D_made := ok_made (P := l.prog) (w := w) (base := base) Z (show DefT K mg "made" s_made from ⟨_, _, fun_mk (st := s_made) l2 c2 k2, PySem.W.mg_of X G a2⟩) D_common
  have D_is_share := ok_is_share (P := l.prog) (w := w) (base := base) Z (show DefT K mg "is_share" s_is_share from ⟨_, _, fun_mk (st := s_is_share) l8 c8 k8, PySem.W.mg_of X G a8⟩) c_GREAT D_is_within D_common
  have D_is_row := ok_is_row (P := l.prog) (w := w) (base := base) Z (show DefT K mg "is_row" s_is_row from ⟨_, _, fun_mk (st := s_is_row) l11 c11 k11, PySem.W.mg_of X G a11⟩) D_is_pour
  have D_is_between := ok_is_between (P := l.prog) (w := w) (base := base) Z (show DefT K mg "is_between" s_is_between from ⟨_, _, fun_mk (st := s_is_between) l19 c19 k19, PySem.W.mg_of X G a19⟩) D_is_less
  have D_count := ok_count (P := l.prog) (w := w) (base := base) Z (show DefT K mg "count" s_count from ⟨_, _, fun_mk (st := s_count) l25 c25 k25, PySem.W.mg_of X G a25⟩) D_ways
  have D_need_many := ok_need_many (P := l.prog) (w := w) (base := base) (er := er) Z (show DefT K mg "need_many" s_need_many from ⟨_, _, fun_mk (st := s_need_many) l26 c26 k26, PySem.W.mg_of X G a26⟩) R_NoMany R_NoLefts D_is_within
  have DB := ok_law_bag (P := l.prog) (w := w) (base := base) (show DefT K mg "_law_bag" s_law_bag from ⟨_, _, fun_mk (st := s_law_bag) l44 c44 k44, PySem.W.mg_of X G a44⟩) D_law_draws D_law_cell_at
  have D_law_far_draw := ok_law_far_draw (P := l.prog) (w := w) (base := base) Z (show DefT K mg "_law_far_draw" s_law_far_draw from ⟨_, _, fun_mk (st := s_law_far_draw) l47 c47 k47, PySem.W.mg_of X G a47⟩) D_law_take
  have D_law_made := ok_law_made (P := l.prog) (w := w) (base := base) Z (show DefT K mg "_law_made" s_law_made from ⟨_, _, fun_mk (st := s_law_made) l49 c49 k49, PySem.W.mg_of X G a49⟩) D_law_common
  have D_plus := ok_plus (P := l.prog) (w := w) (base := base) Z (show DefT K mg "plus" s_plus from ⟨_, _, fun_mk (st := s_plus) l3 c3 k3, PySem.W.mg_of X G a3⟩) D_made
  have D_minus := ok_minus (P := l.prog) (w := w) (base := base) Z (show DefT K mg "minus" s_minus from ⟨_, _, fun_mk (st := s_minus) l4 c4 k4, PySem.W.mg_of X G a4⟩) D_made
  have D_times := ok_times (P := l.prog) (w := w) (base := base) Z (show DefT K mg "times" s_times from ⟨_, _, fun_mk (st := s_times) l5 c5 k5, PySem.W.mg_of X G a5⟩) D_made
  have D_by := ok_by (P := l.prog) (w := w) (base := base) Z (show DefT K mg "by" s_by from ⟨_, _, fun_mk (st := s_by) l6 c6 k6, PySem.W.mg_of X G a6⟩) D_made
  have D_need_share := ok_need_share (P := l.prog) (w := w) (base := base) (er := er) Z (show DefT K mg "need_share" s_need_share from ⟨_, _, fun_mk (st := s_need_share) l13 c13 k13, PySem.W.mg_of X G a13⟩) R_NoShare D_is_share
  have D_need_row := ok_need_row (P := l.prog) (w := w) (base := base) (er := er) Z (show DefT K mg "need_row" s_need_row from ⟨_, _, fun_mk (st := s_need_row) l14 c14 k14, PySem.W.mg_of X G a14⟩) R_NoRow D_is_row
  have D_numbered := ok_numbered (P := l.prog) (w := w) (base := base) Z (show DefT K mg "numbered" s_numbered from ⟨_, _, fun_mk (st := s_numbered) l27 c27 k27, PySem.W.mg_of X G a27⟩) D_count
  have D_need_distance := ok_need_distance (P := l.prog) (w := w) (base := base) (er := er) Z (show DefT K mg "need_distance" s_need_distance from ⟨_, _, fun_mk (st := s_need_distance) l35 c35 k35, PySem.W.mg_of X G a35⟩) R_NoDistance D_is_share
  have D_law_bags := ok_law_bags (P := l.prog) (w := w) (base := base) Z (show DefT K mg "_law_bags" s_law_bags from ⟨_, _, fun_mk (st := s_law_bags) l45 c45 k45, PySem.W.mg_of X G a45⟩) DB
  have D_law_plus := ok_law_plus (P := l.prog) (w := w) (base := base) Z (show DefT K mg "_law_plus" s_law_plus from ⟨_, _, fun_mk (st := s_law_plus) l50 c50 k50, PySem.W.mg_of X G a50⟩) D_law_made
  have D_law_minus := ok_law_minus (P := l.prog) (w := w) (base := base) Z (show DefT K mg "_law_minus" s_law_minus from ⟨_, _, fun_mk (st := s_law_minus) l51 c51 k51, PySem.W.mg_of X G a51⟩) D_law_made
  have D_law_times := ok_law_times (P := l.prog) (w := w) (base := base) Z (show DefT K mg "_law_times" s_law_times from ⟨_, _, fun_mk (st := s_law_times) l52 c52 k52, PySem.W.mg_of X G a52⟩) D_law_made
  have D_are_parts := ok_are_parts (P := l.prog) (w := w) (base := base) Z (show DefT K mg "are_parts" s_are_parts from ⟨_, _, fun_mk (st := s_are_parts) l9 c9 k9, PySem.W.mg_of X G a9⟩) D_is_share D_is_less D_plus
  have D_poured := ok_poured (P := l.prog) (w := w) (base := base) Z (show DefT K mg "poured" s_poured from ⟨_, _, fun_mk (st := s_poured) l15 c15 k15, PySem.W.mg_of X G a15⟩) D_times D_minus D_plus
  have D_poured_pours := D_poured.alias ((PySem.W.mg_of X G al_poured_pours).trans (PySem.W.mg_of X G a15).symm)
  have D_unpoured := ok_unpoured (P := l.prog) (w := w) (base := base) Z (show DefT K mg "unpoured" s_unpoured from ⟨_, _, fun_mk (st := s_unpoured) l16 c16 k16, PySem.W.mg_of X G a16⟩) D_by D_minus
  have D_row_of := ok_row_of (P := l.prog) (w := w) (base := base) (er := er) Z (show DefT K mg "row_of" s_row_of from ⟨_, _, fun_mk (st := s_row_of) l28 c28 k28, PySem.W.mg_of X G a28⟩) R_NoNumber D_need_many D_is_within D_count D_numbered
  have D_number_of := ok_number_of (P := l.prog) (w := w) (base := base) (er := er) Z (show DefT K mg "number_of" s_number_of from ⟨_, _, fun_mk (st := s_number_of) l29 c29 k29, PySem.W.mg_of X G a29⟩) R_NoLefts D_need_row D_count
  have D_far := ok_far (P := l.prog) (w := w) (base := base) Z (show DefT K mg "far" s_far from ⟨_, _, fun_mk (st := s_far) l32 c32 k32, PySem.W.mg_of X G a32⟩) D_is_less D_minus
  have D_need_pours := ok_need_pours (P := l.prog) (w := w) (base := base) (er := er) Z (show DefT K mg "need_pours" s_need_pours from ⟨_, _, fun_mk (st := s_need_pours) l37 c37 k37, PySem.W.mg_of X G a37⟩) R_NoRow D_need_row
  have D_law_end := ok_law_end (P := l.prog) (w := w) (base := base) Z (show DefT K mg "_law_end" s_law_end from ⟨_, _, fun_mk (st := s_law_end) l53 c53 k53, PySem.W.mg_of X G a53⟩) D_law_minus D_law_times D_law_plus
  have D_need_parts := ok_need_parts (P := l.prog) (w := w) (base := base) (er := er) Z (show DefT K mg "need_parts" s_need_parts from ⟨_, _, fun_mk (st := s_need_parts) l12 c12 k12, PySem.W.mg_of X G a12⟩) R_NoParts D_are_parts
  have D_end_of := ok_end_of (P := l.prog) (w := w) (base := base) Z (show DefT K mg "end_of" s_end_of from ⟨_, _, fun_mk (st := s_end_of) l17 c17 k17, PySem.W.mg_of X G a17⟩) D_poured_pours
  have D_one_back := ok_one_back (P := l.prog) (w := w) (base := base) Z (show DefT K mg "one_back" s_one_back from ⟨_, _, fun_mk (st := s_one_back) l20 c20 k20, PySem.W.mg_of X G a20⟩) c_WAYS D_is_between D_unpoured
  have D_ending_at_most := ok_ending_at_most (P := l.prog) (w := w) (base := base) Z (show DefT K mg "ending_at_most" s_ending_at_most from ⟨_, _, fun_mk (st := s_ending_at_most) l30 c30 k30, PySem.W.mg_of X G a30⟩) D_unpoured D_is_less D_count
  have D_behind := ok_behind (P := l.prog) (w := w) (base := base) (er := er) Z (show DefT K mg "behind" s_behind from ⟨_, _, fun_mk (st := s_behind) l18 c18 k18, PySem.W.mg_of X G a18⟩) D_need_parts D_need_share D_need_row D_end_of
  have D_rows_to := ok_rows_to (P := l.prog) (w := w) (base := base) (er := er) Z (show DefT K mg "rows_to" s_rows_to from ⟨_, _, fun_mk (st := s_rows_to) l21 c21 k21, PySem.W.mg_of X G a21⟩) R_NoMany D_one_back D_is_within D_need_share D_need_parts
  have D_fewest_to := ok_fewest_to (P := l.prog) (w := w) (base := base) (er := er) Z (show DefT K mg "fewest_to" s_fewest_to from ⟨_, _, fun_mk (st := s_fewest_to) l22 c22 k22, PySem.W.mg_of X G a22⟩) D_need_parts D_need_share D_one_back
  have D_unseen := ok_unseen (P := l.prog) (w := w) (base := base) (er := er) Z (show DefT K mg "unseen" s_unseen from ⟨_, _, fun_mk (st := s_unseen) l23 c23 k23, PySem.W.mg_of X G a23⟩) c_WAYS R_NoPlace D_need_parts D_need_share D_need_row D_is_within D_end_of D_poured_pours
  have D_at_most := ok_at_most (P := l.prog) (w := w) (base := base) (er := er) Z (show DefT K mg "at_most" s_at_most from ⟨_, _, fun_mk (st := s_at_most) l31 c31 k31, PySem.W.mg_of X G a31⟩) D_need_parts D_need_share D_need_many D_ending_at_most
  have D_nearest_row := ok_nearest_row (P := l.prog) (w := w) (base := base) Z (show DefT K mg "nearest_row" s_nearest_row from ⟨_, _, fun_mk (st := s_nearest_row) l33 c33 k33, PySem.W.mg_of X G a33⟩) D_ending_at_most D_count D_numbered D_far D_end_of D_is_less
  have D_shrinks := ok_shrinks (P := l.prog) (w := w) (base := base) Z (show DefT K mg "shrinks" s_shrinks from ⟨_, _, fun_mk (st := s_shrinks) l39 c39 k39, PySem.W.mg_of X G a39⟩) D_minus D_end_of
  have D_nearest := ok_nearest (P := l.prog) (w := w) (base := base) (er := er) Z (show DefT K mg "nearest" s_nearest from ⟨_, _, fun_mk (st := s_nearest) l34 c34 k34, PySem.W.mg_of X G a34⟩) D_need_parts D_need_share D_need_many D_nearest_row
  have D_near_enough := ok_near_enough (P := l.prog) (w := w) (base := base) (er := er) Z (show DefT K mg "near_enough" s_near_enough from ⟨_, _, fun_mk (st := s_near_enough) l36 c36 k36, PySem.W.mg_of X G a36⟩) D_need_parts D_need_share D_need_distance D_nearest_row D_is_less
  have D_middle := ok_middle (P := l.prog) (w := w) (base := base) Z (show DefT K mg "middle" s_middle from ⟨_, _, fun_mk (st := s_middle) l38 c38 k38, PySem.W.mg_of X G a38⟩) D_end_of D_by D_minus D_shrinks
  have D_goes_to := ok_goes_to (P := l.prog) (w := w) (base := base) (er := er) Z (show DefT K mg "goes_to" s_goes_to from ⟨_, _, fun_mk (st := s_goes_to) l40 c40 k40, PySem.W.mg_of X G a40⟩) D_need_parts D_need_pours D_middle
  have D_times_till := ok_times_till (P := l.prog) (w := w) (base := base) (er := er) Z (show DefT K mg "times_till" s_times_till from ⟨_, _, fun_mk (st := s_times_till) l41 c41 k41, PySem.W.mg_of X G a41⟩) D_need_parts D_need_share D_need_pours D_need_distance D_far D_middle D_shrinks D_is_less D_times
  have D_law_halves_right := ok_law_halves_right (P := l.prog) (w := w) (base := base) (er := er) Z (show DefT K mg "_law_halves_right" s_law_halves_right from ⟨_, _, fun_mk (st := s_law_halves_right) l55 c55 k55, PySem.W.mg_of X G a55⟩) D_law_take D_law_far_draw D_law_twos D_law_made D_row_of D_number_of D_behind D_nearest D_at_most D_fewest_to D_law_end D_rows_to
  have T_Kept : KCls K mg er.Kept := ⟨⟨kpg, khd, kpo, ksa⟩, kn1, kn2, kn3, PySem.W.mg_of X G kC⟩
  have FF_kept_init := fun_mk (st := s_kept_init) kl_kept_init kc_kept_init kk_kept_init
  have FF_kept_pour := fun_mk (st := s_kept_pour) kl_kept_pour kc_kept_pour kk_kept_pour
  have FF_kept_share := fun_mk (st := s_kept_share) kl_kept_share kc_kept_share kk_kept_share
  have FF_kept_poured := fun_mk (st := s_kept_poured) kl_kept_poured kc_kept_poured kk_kept_poured
  have F_kept_init := ok_kept_init (P := l.prog) (w := w) (base := base) (er := er) T_Kept FF_kept_init D_need_parts D_need_share
  have B_kept_init := FF_kept_init.binds (ps := ["self", "parts", "share"]) fun _ _ _ _ _ _ us hl => match us, hl with | [_, _, _], _ => rfl
  have M_Kept : Mk K er.Kept f_kept_init := ⟨kmk, ka_kept_init, ki_kept_init, kkc⟩
  have D_kept_pour := ok_kept_pour (P := l.prog) (w := w) (base := base) (er := er) Z T_Kept FF_kept_pour ⟨ka_kept_pour, ki_kept_pour, kk_kept_pour⟩ c_MOST R_NoPour R_Full D_is_pour D_poured_pours
  have D_kept_share := ok_kept_share (P := l.prog) (w := w) (base := base) (er := er) Z FF_kept_share ⟨ka_kept_share, ki_kept_share, kk_kept_share⟩ T_Kept
  have D_kept_poured := ok_kept_poured (P := l.prog) (w := w) (base := base) (er := er) Z FF_kept_poured ⟨ka_kept_poured, ki_kept_poured, kk_kept_poured⟩ T_Kept D_plus D_is_less D_minus
  exact ok_law (er := er) (fun_mk (st := s_law) l56 c56 k56) Z D_law_bags T_Kept D_law_halves_right D_near_enough D_kept_poured D_kept_share M_Kept F_kept_init B_kept_init D_kept_pour D_nearest D_unseen D_fewest_to D_goes_to D_rows_to D_times_till D_behind D_are_parts
end Law
open PySem PySem.W PyProof.Rows
set_option maxHeartbeats 0 in
theorem PySem.Challenge.cw_pourback_k12_whole_written_tubs_at_every_holds : PySem.Challenge.rw_pourback_k12_whole_written_tubs_at_every.Holds := by
  w_on; o_law; k_head; (case hw => w_witness2)
  k_fill
  refine L2.walk_of (l := PySem.Challenge.rw_pourback_k12_whole_written_tubs_at_every) (n := 63) (k := 9) (x := "script") (CX := fun w => L2.CX (PySem.Challenge.rw_pourback_k12_whole_written_tubs_at_every).prog w) (sp := fun w => DL.spLaw _) rfl (by decide) rfl ⟨rfl, by decide, by decide⟩ (fun w h Y => PySem.W.kIn_of Y) ?F (fun _ _ a ns hl _ hS => ⟨a, ns, rfl, hS, fun _ => rfl⟩) (fun _ _ _ _ _ h => by obtain ⟨_, _, _, _, _, _, _, _, _, _, _, _, h⟩ := h; exact h)
  intro w mg fa h KX G hmg
  refine' Law.all_mk KX G hmg ?a0 ?l0 ?c0 ?k0 ?a1 ?l1 ?c1 ?k1 ?a2 ?l2 ?c2 ?k2 ?a3 ?l3 ?c3 ?k3 ?a4 ?l4 ?c4 ?k4 ?a5 ?l5 ?c5 ?k5 ?a6 ?l6 ?c6 ?k6 ?a7 ?l7 ?c7 ?k7 ?a8 ?l8 ?c8 ?k8 ?a9 ?l9 ?c9 ?k9 ?a10 ?l10 ?c10 ?k10 ?a11 ?l11 ?c11 ?k11 ?a12 ?l12 ?c12 ?k12 ?a13 ?l13 ?c13 ?k13 ?a14 ?l14 ?c14 ?k14 ?a15 ?l15 ?c15 ?k15 ?a16 ?l16 ?c16 ?k16 ?a17 ?l17 ?c17 ?k17 ?a18 ?l18 ?c18 ?k18 ?a19 ?l19 ?c19 ?k19 ?a20 ?l20 ?c20 ?k20 ?a21 ?l21 ?c21 ?k21 ?a22 ?l22 ?c22 ?k22 ?a23 ?l23 ?c23 ?k23 ?a24 ?l24 ?c24 ?k24 ?a25 ?l25 ?c25 ?k25 ?a26 ?l26 ?c26 ?k26 ?a27 ?l27 ?c27 ?k27 ?a28 ?l28 ?c28 ?k28 ?a29 ?l29 ?c29 ?k29 ?a30 ?l30 ?c30 ?k30 ?a31 ?l31 ?c31 ?k31 ?a32 ?l32 ?c32 ?k32 ?a33 ?l33 ?c33 ?k33 ?a34 ?l34 ?c34 ?k34 ?a35 ?l35 ?c35 ?k35 ?a36 ?l36 ?c36 ?k36 ?a37 ?l37 ?c37 ?k37 ?a38 ?l38 ?c38 ?k38 ?a39 ?l39 ?c39 ?k39 ?a40 ?l40 ?c40 ?k40 ?a41 ?l41 ?c41 ?k41 ?a42 ?l42 ?c42 ?k42 ?a43 ?l43 ?c43 ?k43 ?a44 ?l44 ?c44 ?k44 ?a45 ?l45 ?c45 ?k45 ?a46 ?l46 ?c46 ?k46 ?a47 ?l47 ?c47 ?k47 ?a48 ?l48 ?c48 ?k48 ?a49 ?l49 ?c49 ?k49 ?a50 ?l50 ?c50 ?k50 ?a51 ?l51 ?c51 ?k51 ?a52 ?l52 ?c52 ?k52 ?a53 ?l53 ?c53 ?k53 ?a54 ?l54 ?c54 ?k54 ?a55 ?l55 ?c55 ?k55 ?a56 ?l56 ?c56 ?k56 ?z_abs ?z_all ?z_bool ?z_enumerate ?z_int ?z_isinstance ?z_len ?z_list ?z_max ?z_min ?z_range ?z_repr ?z_str ?z_tuple ?z_zip ?z_ValueError ?n_GREAT ?n_MOST ?n_WAYS ?o_WAYS ?al_poured_pours ?kC ?ka_kept_init ?ki_kept_init ?kl_kept_init ?kc_kept_init ?kk_kept_init ?ka_kept_pour ?ki_kept_pour ?kl_kept_pour ?kc_kept_pour ?kk_kept_pour ?ka_kept_share ?ki_kept_share ?kl_kept_share ?kc_kept_share ?kk_kept_share ?ka_kept_poured ?ki_kept_poured ?kl_kept_poured ?kc_kept_poured ?kk_kept_poured ?kpg ?khd ?kpo ?ksa ?kmk ?kkc ?kn1 ?kn2 ?kn3 ?e1_PourError ?e2_PourError ?e3_PourError ?e4_PourError ?e5_PourError ?e1_NoParts ?e2_NoParts ?e3_NoParts ?e4_NoParts ?e5_NoParts ?e1_NoShare ?e2_NoShare ?e3_NoShare ?e4_NoShare ?e5_NoShare ?e1_NoRow ?e2_NoRow ?e3_NoRow ?e4_NoRow ?e5_NoRow ?e1_NoMany ?e2_NoMany ?e3_NoMany ?e4_NoMany ?e5_NoMany ?e1_NoLefts ?e2_NoLefts ?e3_NoLefts ?e4_NoLefts ?e5_NoLefts ?e1_NoPlace ?e2_NoPlace ?e3_NoPlace ?e4_NoPlace ?e5_NoPlace ?e1_NoNumber ?e2_NoNumber ?e3_NoNumber ?e4_NoNumber ?e5_NoNumber ?e1_NoDistance ?e2_NoDistance ?e3_NoDistance ?e4_NoDistance ?e5_NoDistance ?e1_NoPour ?e2_NoPour ?e3_NoPour ?e4_NoPour ?e5_NoPour ?e1_Full ?e2_Full ?e3_Full ?e4_Full ?e5_Full ?e1_NothingLeft ?e2_NothingLeft ?e3_NothingLeft ?e4_NothingLeft ?e5_NothingLeft
  (case a0 => k_is)
  (case l0 => k_is)
  (case c0 => k_is)
  (case k0 => k_is)
  (case a1 => k_is)
  (case l1 => k_is)
  (case c1 => k_is)
  (case k1 => k_is)
  (case a2 => k_is)
  (case l2 => k_is)
  (case c2 => k_is)
  (case k2 => k_is)
  (case a3 => k_is)
  (case l3 => k_is)
  (case c3 => k_is)
  (case k3 => k_is)
  (case a4 => k_is)
  (case l4 => k_is)
  (case c4 => k_is)
  (case k4 => k_is)
  (case a5 => k_is)
  (case l5 => k_is)
  (case c5 => k_is)
  (case k5 => k_is)
  (case a6 => k_is)
  (case l6 => k_is)
  (case c6 => k_is)
  (case k6 => k_is)
  (case a7 => k_is)
  (case l7 => k_is)
  (case c7 => k_is)
  (case k7 => k_is)
  (case a8 => k_is)
  (case l8 => k_is)
  (case c8 => k_is)
  (case k8 => k_is)
  (case a9 => k_is)
  (case l9 => k_is)
  (case c9 => k_is)
  (case k9 => k_is)
  (case a10 => k_is)
  (case l10 => k_is)
  (case c10 => k_is)
  (case k10 => k_is)
  (case a11 => k_is)
  (case l11 => k_is)
  (case c11 => k_is)
  (case k11 => k_is)
  (case a12 => k_is)
  (case l12 => k_is)
  (case c12 => k_is)
  (case k12 => k_is)
  (case a13 => k_is)
  (case l13 => k_is)
  (case c13 => k_is)
  (case k13 => k_is)
  (case a14 => k_is)
  (case l14 => k_is)
  (case c14 => k_is)
  (case k14 => k_is)
  (case a15 => k_is)
  (case l15 => k_is)
  (case c15 => k_is)
  (case k15 => k_is)
  (case a16 => k_is)
  (case l16 => k_is)
  (case c16 => k_is)
  (case k16 => k_is)
  (case a17 => k_is)
  (case l17 => k_is)
  (case c17 => k_is)
  (case k17 => k_is)
  (case a18 => k_is)
  (case l18 => k_is)
  (case c18 => k_is)
  (case k18 => k_is)
  (case a19 => k_is)
  (case l19 => k_is)
  (case c19 => k_is)
  (case k19 => k_is)
  (case a20 => k_is)
  (case l20 => k_is)
  (case c20 => k_is)
  (case k20 => k_is)
  (case a21 => k_is)
  (case l21 => k_is)
  (case c21 => k_is)
  (case k21 => k_is)
  (case a22 => k_is)
  (case l22 => k_is)
  (case c22 => k_is)
  (case k22 => k_is)
  (case a23 => k_is)
  (case l23 => k_is)
  (case c23 => k_is)
  (case k23 => k_is)
  (case a24 => k_is)
  (case l24 => k_is)
  (case c24 => k_is)
  (case k24 => k_is)
  (case a25 => k_is)
  (case l25 => k_is)
  (case c25 => k_is)
  (case k25 => k_is)
  (case a26 => k_is)
  (case l26 => k_is)
  (case c26 => k_is)
  (case k26 => k_is)
  (case a27 => k_is)
  (case l27 => k_is)
  (case c27 => k_is)
  (case k27 => k_is)
  (case a28 => k_is)
  (case l28 => k_is)
  (case c28 => k_is)
  (case k28 => k_is)
  (case a29 => k_is)
  (case l29 => k_is)
  (case c29 => k_is)
  (case k29 => k_is)
  (case a30 => k_is)
  (case l30 => k_is)
  (case c30 => k_is)
  (case k30 => k_is)
  (case a31 => k_is)
  (case l31 => k_is)
  (case c31 => k_is)
  (case k31 => k_is)
  (case a32 => k_is)
  (case l32 => k_is)
  (case c32 => k_is)
  (case k32 => k_is)
  (case a33 => k_is)
  (case l33 => k_is)
  (case c33 => k_is)
  (case k33 => k_is)
  (case a34 => k_is)
  (case l34 => k_is)
  (case c34 => k_is)
  (case k34 => k_is)
  (case a35 => k_is)
  (case l35 => k_is)
  (case c35 => k_is)
  (case k35 => k_is)
  (case a36 => k_is)
  (case l36 => k_is)
  (case c36 => k_is)
  (case k36 => k_is)
  (case a37 => k_is)
  (case l37 => k_is)
  (case c37 => k_is)
  (case k37 => k_is)
  (case a38 => k_is)
  (case l38 => k_is)
  (case c38 => k_is)
  (case k38 => k_is)
  (case a39 => k_is)
  (case l39 => k_is)
  (case c39 => k_is)
  (case k39 => k_is)
  (case a40 => k_is)
  (case l40 => k_is)
  (case c40 => k_is)
  (case k40 => k_is)
  (case a41 => k_is)
  (case l41 => k_is)
  (case c41 => k_is)
  (case k41 => k_is)
  (case a42 => k_is)
  (case l42 => k_is)
  (case c42 => k_is)
  (case k42 => k_is)
  (case a43 => k_is)
  (case l43 => k_is)
  (case c43 => k_is)
  (case k43 => k_is)
  (case a44 => k_is)
  (case l44 => k_is)
  (case c44 => k_is)
  (case k44 => k_is)
  (case a45 => k_is)
  (case l45 => k_is)
  (case c45 => k_is)
  (case k45 => k_is)
  (case a46 => k_is)
  (case l46 => k_is)
  (case c46 => k_is)
  (case k46 => k_is)
  (case a47 => k_is)
  (case l47 => k_is)
  (case c47 => k_is)
  (case k47 => k_is)
  (case a48 => k_is)
  (case l48 => k_is)
  (case c48 => k_is)
  (case k48 => k_is)
  (case a49 => k_is)
  (case l49 => k_is)
  (case c49 => k_is)
  (case k49 => k_is)
  (case a50 => k_is)
  (case l50 => k_is)
  (case c50 => k_is)
  (case k50 => k_is)
  (case a51 => k_is)
  (case l51 => k_is)
  (case c51 => k_is)
  (case k51 => k_is)
  (case a52 => k_is)
  (case l52 => k_is)
  (case c52 => k_is)
  (case k52 => k_is)
  (case a53 => k_is)
  (case l53 => k_is)
  (case c53 => k_is)
  (case k53 => k_is)
  (case a54 => k_is)
  (case l54 => k_is)
  (case c54 => k_is)
  (case k54 => k_is)
  (case a55 => k_is)
  (case l55 => k_is)
  (case c55 => k_is)
  (case k55 => k_is)
  (case a56 => k_is)
  (case l56 => k_is)
  (case c56 => k_is)
  (case k56 => k_is)
  (case z_abs => k_is)
  (case z_all => k_is)
  (case z_bool => k_is)
  (case z_enumerate => k_is)
  (case z_int => k_is)
  (case z_isinstance => k_is)
  (case z_len => k_is)
  (case z_list => k_is)
  (case z_max => k_is)
  (case z_min => k_is)
  (case z_range => k_is)
  (case z_repr => k_is)
  (case z_str => k_is)
  (case z_tuple => k_is)
  (case z_zip => k_is)
  (case z_ValueError => k_is)
  (case n_GREAT => k_is)
  (case n_MOST => k_is)
  (case n_WAYS => k_is)
  (case o_WAYS => k_is)
  (case al_poured_pours => k_is)
  (case kC => k_is)
  (case ka_kept_init => k_is)
  (case ki_kept_init => k_is)
  (case kl_kept_init => k_is)
  (case kc_kept_init => k_is)
  (case kk_kept_init => k_is)
  (case ka_kept_pour => k_is)
  (case ki_kept_pour => k_is)
  (case kl_kept_pour => k_is)
  (case kc_kept_pour => k_is)
  (case kk_kept_pour => k_is)
  (case ka_kept_share => k_is)
  (case ki_kept_share => k_is)
  (case kl_kept_share => k_is)
  (case kc_kept_share => k_is)
  (case kk_kept_share => k_is)
  (case ka_kept_poured => k_is)
  (case ki_kept_poured => k_is)
  (case kl_kept_poured => k_is)
  (case kc_kept_poured => k_is)
  (case kk_kept_poured => k_is)
  (case kpg => k_is)
  (case khd => k_is)
  (case kpo => k_is)
  (case ksa => k_is)
  (case kmk => k_is)
  (case kkc => k_is)
  (case kn1 => k_is)
  (case kn2 => k_is)
  (case kn3 => k_is)
  (case e1_PourError => k_is)
  (case e2_PourError => k_exc)
  (case e3_PourError => k_is)
  (case e4_PourError => k_is)
  (case e5_PourError => k_is)
  (case e1_NoParts => k_is)
  (case e2_NoParts => k_exc)
  (case e3_NoParts => k_is)
  (case e4_NoParts => k_is)
  (case e5_NoParts => k_is)
  (case e1_NoShare => k_is)
  (case e2_NoShare => k_exc)
  (case e3_NoShare => k_is)
  (case e4_NoShare => k_is)
  (case e5_NoShare => k_is)
  (case e1_NoRow => k_is)
  (case e2_NoRow => k_exc)
  (case e3_NoRow => k_is)
  (case e4_NoRow => k_is)
  (case e5_NoRow => k_is)
  (case e1_NoMany => k_is)
  (case e2_NoMany => k_exc)
  (case e3_NoMany => k_is)
  (case e4_NoMany => k_is)
  (case e5_NoMany => k_is)
  (case e1_NoLefts => k_is)
  (case e2_NoLefts => k_exc)
  (case e3_NoLefts => k_is)
  (case e4_NoLefts => k_is)
  (case e5_NoLefts => k_is)
  (case e1_NoPlace => k_is)
  (case e2_NoPlace => k_exc)
  (case e3_NoPlace => k_is)
  (case e4_NoPlace => k_is)
  (case e5_NoPlace => k_is)
  (case e1_NoNumber => k_is)
  (case e2_NoNumber => k_exc)
  (case e3_NoNumber => k_is)
  (case e4_NoNumber => k_is)
  (case e5_NoNumber => k_is)
  (case e1_NoDistance => k_is)
  (case e2_NoDistance => k_exc)
  (case e3_NoDistance => k_is)
  (case e4_NoDistance => k_is)
  (case e5_NoDistance => k_is)
  (case e1_NoPour => k_is)
  (case e2_NoPour => k_exc)
  (case e3_NoPour => k_is)
  (case e4_NoPour => k_is)
  (case e5_NoPour => k_is)
  (case e1_Full => k_is)
  (case e2_Full => k_exc)
  (case e3_Full => k_is)
  (case e4_Full => k_is)
  (case e5_Full => k_is)
  (case e1_NothingLeft => k_is)
  (case e2_NothingLeft => k_exc)
  (case e3_NothingLeft => k_is)
  (case e4_NothingLeft => k_is)
  (case e5_NothingLeft => k_is)
