import PyProof.Rows.All
import Wide.All
import OpenK.AllK
import Wide.FinOn
import HandS.ForMost
import HandS.TupAny
import HandS.IsInst
import HandS.Conv
import HandS.Wide
import HandS.TupMul
import HandS.WordsDict
import HandS.Walk
import HandS.Flow
import HandS.Iter
import HandS.Zip
import HandS.Strs
import KE.GoesMore
import HandS.Exc
import HandS.ExcInit
import HandS.ExcField
import HandS.ExcOwn
import HandS.WordsExc
import HandS.Style
import HandS.Dict
import HandS.Text
import HandS.StrMore
import HandS.More
import HandS.SortInts
import HandS.RaiseMore
import HandS.TupLen
import HandS.CallSlots
import PySem.Challenge.RW_pilesfit_k09_ends
set_option Elab.async false
set_option maxRecDepth 100000
set_option linter.all false
set_option maxHeartbeats 2000000
/-! New tuples whose object is known whole: it has no dict of its own, so their methods can be called. -/
namespace L3
open PySem PySem.Spec PyProof.Rows L2
open AutoSeq1 (wpAny_loadPart')
/-- a tuple without a dict stands at a -/
def SqX (K : PySem.W.Frag) (H : Hp) (a : Addr) (xs : List V) : Prop :=
  (∃ o : Obj, H a = some (.frz o (.tup xs)) ∧ o.dict = none) ∨ ∃ (o : Obj) (its : Array Value) (n : Nat), K.lookup a = some o ∧ o.cls = .type "tuple" ∧ o.dict = none ∧ o.data = .seq its n ∧ its.size ≤ sizeLine ∧ Vals xs its.toList
theorem SqX.t {K : PySem.W.Frag} {H : Hp} {a : Addr} {xs : List V} (h : SqX K H a xs) : SqT K H a xs := by
  rcases h with ⟨o, h, _⟩ | ⟨o, its, n, h1, h2, _, h3⟩
  · exact .inl (.inr ⟨o, h⟩)
  · exact .inr ⟨o, its, n, h1, h2, h3⟩
theorem SqX.mono {K : PySem.W.Frag} {H H' : Hp} {a : Addr} {xs : List V} (e : Same H H') (h : SqX K H a xs) : SqX K H' a xs := h.imp (fun ⟨o, h, d⟩ => ⟨o, e _ _ h, d⟩) id
/-- what stands at a new place -/
abbrev NewT (Q : VK) (H : Hp) (xs : List V) : Prop := ∀ (p : Addr) (o : Obj), H p = none → o.dict = none → Q (.ref p) (upd H p (.frz o (.tup xs)))
section
variable {X : Cx} {pins : List (Addr × Obj)} {σ : L2.St} {H : Hp} {s : Shared} {xs : List V} {its : List Value} {Q : VK}
theorem pushT (I : Inv X pins σ H s) (t' : Nat) (r : Vals xs its) (z : xs.length ≤ sizeLine) (q : NewT Q H xs) :
    EP X pins σ Q (.ref s.heap.objs.size) { s with heap := s.heap.push { cls := .type "tuple", data := .seq its.toArray }, toks := t' } := by
  have hf : H s.heap.objs.size = none := I.hok.fresh (Nat.le_refl _)
  have h : (s.heap.push { cls := .type "tuple", data := .seq its.toArray }).get? s.heap.objs.size = some { cls := .type "tuple", data := .seq its.toArray } := Heap.get?_push_size _ rfl
  exact ⟨.ref s.heap.objs.size, _, I.laid (t' := t') (o := .frz { cls := .type "tuple", data := .seq its.toArray } (.tup xs)) (fun b u e => Heap.get?_push_of_some _ e) (Nat.le_refl _) ⟨h, z, its, r, ⟨_, h, rfl, _, rfl⟩⟩, rfl, q _ { cls := .type "tuple", data := .seq its.toArray } hf rfl⟩
end
/-! ### displays -/
abbrev tTupX (t : TA) : TE := fun σ H Q => t σ H fun xs H1 => xs.length ≤ sizeLine ∧ NewT Q H1 xs
section
variable {X : Cx} {es : List Expr} {t : TA} {pos : Pos}
theorem pe_tupX {k} (h : PA X es t) : PE X (.Tuple es k pos) (tTupX t) :=
  ⟨fun pins s σ H Q I hq => wpAny_Tuple_spliced (thn (h.run pos pins s σ H _ I hq) fun us s1 ⟨xs, H1, I1, r, z, q⟩ => ⟨by rw [← r.length]; exact z, pushT I1 s1.toks r z q⟩)⟩
/-! ### t + u -/
def rCatX (K : PySem.W.Frag) : R2 := fun x y H Q => ∃ a b xs ys, x = .ref a ∧ y = .ref b ∧ SqT K H a xs ∧ SqT K H b ys ∧ xs.length + ys.length ≤ sizeLine ∧
  (xs = [] → Q (.ref b) H) ∧ (xs ≠ [] → ys = [] → Q (.ref a) H) ∧ (xs ≠ [] → ys ≠ [] → NewT Q H (xs ++ ys))
theorem op_catX : OpR X (binaryOp .Add) (rCatX X.K) := by
  intro pins s σ H x y v u Q I rx ry ⟨a, b, xs, ys, ex, ey, ha, hb, hz, q0, q1, q2⟩
  by_cases hx : xs = []
  · exact op_catA pins s σ H x y v u Q I rx ry ⟨a, b, xs, ys, ex, ey, ha, hb, hz, q0, q1, fun g => absurd hx g⟩
  by_cases hy : ys = []
  · exact op_catA pins s σ H x y v u Q I rx ry ⟨a, b, xs, ys, ex, ey, ha, hb, hz, q0, q1, fun _ g => absurd hy g⟩
  subst ex ey
  cases rx; cases ry
  obtain ⟨l1, r1, p1, _⟩ := I.tuple ha
  obtain ⟨l2, r2, p2, _⟩ := I.tuple hb
  refine HT.cat_tup p1 p2 (fun g => hx (r1.nil_iff.mp g)) (fun g => absurd (r2.nil_iff.mp g) hy) (fun _ => ?_) ?_
  · exact pushT I s.toks (r1.append r2) (by rw [List.length_append]; exact hz) (q2 hx hy)
  · rw [← r1.length, ← r2.length]
    exact hz
/-! ### t[lo:hi] -/
def rSlX (K : PySem.W.Frag) : V → Option Int → Option Int → Hp → VK → Prop := fun x lo hi H Q => ∃ a xs, x = .ref a ∧ SqT K H a xs ∧
  (HT.sIx xs.length 0 lo = 0 ∧ HT.sIx xs.length xs.length hi = xs.length → Q (.ref a) H) ∧ (¬ (HT.sIx xs.length 0 lo = 0 ∧ HT.sIx xs.length xs.length hi = xs.length) → NewT Q H (cutV xs lo hi))
theorem sl_tupX : SlR X (rSlX X.K) := by
  intro pins s σ H x v vl vu lo hi sl Q I rx hs pl pu ⟨a, xs, ex, hx, q1, q2⟩
  by_cases hw : HT.sIx xs.length 0 lo = 0 ∧ HT.sIx xs.length xs.length hi = xs.length
  · exact sl_tupA pins s σ H x v vl vu lo hi sl Q I rx hs pl pu ⟨a, xs, ex, hx, q1, fun g => absurd hw g⟩
  subst ex
  cases rx
  obtain ⟨l, r, ht, hz⟩ := I.tuple hx
  have e : l.toArray.size = xs.length := by rw [List.size_toArray, r.length]
  refine ⟨"tuple", _, PyProof.Rows.slot_tuple_getitem.lookup, ht.typeIs, HT.getItem_tuple_cut ht hs pl pu (by rw [e]; exact hw) ?_ (by rw [e]; exact hz)⟩
  rw [e]
  exact pushT I s.toks ((r.drop _).take _) (Nat.le_trans (cutV_length xs lo hi) hz) (q2 hw)
/-! ### tuple(x) -/
theorem call_tupX : CallR X (.type "tuple") (fun xs H Q => ∃ p ys, xs = [.ref p] ∧ ((SqL X.K H p ys ∧ NewT Q H ys) ∨ (SqT X.K H p ys ∧ Q (.ref p) H))) := by
  intro pins s σ H xs us Q I r ⟨p, ys, ex, h⟩
  rcases h with ⟨hq, q⟩ | ⟨hq, q⟩
  · subst ex
    obtain ⟨u, rfl, ru⟩ := vals1 r
    cases ru
    obtain ⟨l, r', pl, hz⟩ := I.list hq
    exact call_tuple_list pl.isList (fun h' kp => pushT (I.kept (t' := s.toks) kp) s.toks r' hz q) (by rw [List.size_toArray, ← r'.length]; exact hz)
  · exact call_tuple_of pins s σ H xs us Q I r ⟨p, ys, ex, .inr ⟨hq, q⟩⟩
end
/-! ### t * k -/
section
variable (l : Addr) (items : Array Value) (n : Nat) (dd : Option Addr) (sl : Array (Option Value)) (x : Int) (u : Tok)
theorem mulT_none (c0 : (decide (x < -(2 ^ 63)) || decide (x ≥ 2 ^ 63)) = false) (c1 : (items.isEmpty || x == 1) = false) (c2 : x ≤ 0) :
    Meets (Builtin.«tuple.__mul__» ⟨[.ref l, .int x u], []⟩) (fun _ R s => s.heap.get? l = some ⟨.type "tuple", dd, .seq items n, sl⟩ ∧ R (.ok (.ret (Value.ref s.heap.objs.size))) { s with heap := s.heap.push { cls := Value.type "tuple", data := Data.seq #[] } }) :=
  .of_wp fun prog w A R s h => by
    obtain ⟨hp, g, d, tk, os⟩ := s
    obtain ⟨hl, h⟩ := h
    have f1 := AutoSeq1.idx_int
    have c3 : (decide (x ≤ 0) || items.isEmpty) = true := by rw [decide_eq_true c2]; rfl
    wp_walk using wpAny_loadPart' hl
    repeat (first
      | (refine wpAny_ite_false (decide_eq_false (by rw [c0]; exact Bool.false_ne_true)) ?_; wp_walk using wpAny_loadPart' hl)
      | (refine wpAny_ite_false (decide_eq_false (by rw [c1]; exact Bool.false_ne_true)) ?_; wp_walk using wpAny_loadPart' hl)
      | (refine wpAny_ite_true (decide_eq_true c3) ?_; wp_walk using wpAny_loadPart' hl))
    exact ⟨_, rfl, h⟩
theorem mulT_same (c0 : (decide (x < -(2 ^ 63)) || decide (x ≥ 2 ^ 63)) = false) (c1 : (items.isEmpty || x == 1) = true) :
    Meets (Builtin.«tuple.__mul__» ⟨[.ref l, .int x u], []⟩) (fun _ R s => s.heap.get? l = some ⟨.type "tuple", dd, .seq items n, sl⟩ ∧ R (.ok (.ret (Value.ref l))) s) :=
  .of_wp fun prog w A R s h => by
    obtain ⟨hp, g, d, tk, os⟩ := s
    obtain ⟨hl, h⟩ := h
    have f1 := AutoSeq1.idx_int
    wp_walk using wpAny_loadPart' hl
    repeat (first
      | (refine wpAny_ite_false (decide_eq_false (by rw [c0]; exact Bool.false_ne_true)) ?_; wp_walk using wpAny_loadPart' hl)
      | (refine wpAny_ite_true (decide_eq_true c1) ?_; wp_walk using wpAny_loadPart' hl))
    exact ⟨_, rfl, h⟩
end
/-- t * k, of any k -/
def rRepX (K : PySem.W.Frag) : R2 := fun x y H Q => ∃ l k xs, x = .ref l ∧ y = .int k ∧ SqT K H l xs ∧ -1000 ≤ k ∧ k ≤ 1000 ∧ xs.length ≤ 1000 ∧
  ((xs = [] ∨ k = 1) → Q (.ref l) H) ∧ (¬ (xs = [] ∨ k = 1) → NewT Q H (List.replicate k.toNat xs).flatten)
theorem op_repX {X : Cx} : OpR X (binaryOp .Mult) (rRepX X.K) := by
  intro pins s σ H x y v u Q I rx ry ⟨l, k, xs, ex, ey, hT, k0, k1, hz, q1, q2⟩
  subst ex ey
  cases rx
  obtain ⟨t, rfl⟩ := ry
  obtain ⟨its, r, ⟨⟨cls, dd, data, sl⟩, ho, hc, n, hd⟩, hs⟩ := I.tuple hT
  simp only at hc hd
  subst hc hd
  have hle : its.length = xs.length := r.length.symm
  have ie : its.toArray.isEmpty = decide (xs = []) := by
    cases its with
    | nil => cases r; rfl
    | cons a b =>
      cases r with
      | cons _ _ => simp
  have c0 : (decide (k < -(2 ^ 63)) || decide (k ≥ 2 ^ 63)) = false := by
    rw [decide_eq_false (by omega), decide_eq_false (by omega)]
    rfl
  have go : ∀ {R : Value → Shared → Prop}, wpAny (model X.prog X.w) X.A (call (.builtin "tuple.__mul__") [.ref l, .int k t]) R X.xe s → wpAny (model X.prog X.w) X.A (binaryOp .Mult (.ref l) (.int k t)) R X.xe s := fun h =>
    wpAny_binaryOp_repeat_ref (T := "tuple") (U := "int") (by decide) ⟨_, ho, rfl⟩ (fun s' => typeIs_int s' k t) noFill_tuple_mul F.fills_int_mul F.slot_int_rmul repeat_tuple F.slot_int_index.lookup
      (call_meets F.slot_int_rmul (typeIs_int s k t) F.entry_int_rmul (F.args_int_rmul_2 _ _) (int_rmul_tuple k t l its.toArray n dd sl) ⟨ho, rfl, ⟨_, ho, rfl⟩, h⟩)
  by_cases h1 : xs = [] ∨ k = 1
  · have c1 : (its.toArray.isEmpty || k == 1) = true := by
      rw [ie]
      rcases h1 with h1 | h1
      · rw [decide_eq_true h1]; rfl
      · rw [h1]; simp
    exact go (call_meets F.slot_tuple_mul ⟨_, ho, rfl⟩ F.entry_tuple_mul (F.args_tuple_mul_2 _ _) (mulT_same l its.toArray n dd sl k t c0 c1) ⟨ho, .ref l, H, I, rfl, q1 h1⟩)
  have c1 : (its.toArray.isEmpty || k == 1) = false := by
    rw [ie, decide_eq_false fun z => h1 (.inl z), Bool.false_or]
    exact beq_eq_false_iff_ne.mpr fun z => h1 (.inr z)
  by_cases h2 : k ≤ 0
  · refine go (call_meets F.slot_tuple_mul ⟨_, ho, rfl⟩ F.entry_tuple_mul (F.args_tuple_mul_2 _ _) (mulT_none l its.toArray n dd sl k t c0 c1 h2) ⟨ho, ?_⟩)
    have e : k.toNat = 0 := by omega
    have q2 := q2 h1
    rw [e] at q2
    exact pushT (its := []) I s.toks .nil (Nat.zero_le _) q2
  have c2 : (decide (k ≤ 0) || its.toArray.isEmpty) = false := by
    rw [ie, decide_eq_false h2, decide_eq_false fun z => h1 (.inl z)]
    rfl
  have hsz0 : its.toArray.size = xs.length := by rw [List.size_toArray, hle]
  have hm : ((its.toArray.size : Nat) : Int) * k ≤ 1000000 := by
    rw [hsz0]
    have a1 : ((xs.length : Nat) : Int) * k ≤ 1000 * k := Int.mul_le_mul_of_nonneg_right (by omega) (by omega)
    omega
  have mn : k.toNat * xs.length ≤ 1000 * 1000 := Nat.mul_le_mul (by omega) hz
  have flen : (List.replicate k.toNat its).flatten.length ≤ sizeLine := by
    rw [PyProof.Rows.lm_len_rep_flat, hle, sizeLine_eq]
    omega
  have c4 : Builtin.Tuple.tupleTooMany (((its.toArray.size : Nat) : Int) * k) = false := by
    unfold Builtin.Tuple.tupleTooMany
    rw [sizeLine_eq]
    exact decide_eq_false (by omega)
  refine go (call_meets F.slot_tuple_mul ⟨_, ho, rfl⟩ F.entry_tuple_mul (F.args_tuple_mul_2 _ _) (tuple_mulW l its.toArray n dd sl k t c0 c1 c2 (by omega) c4 (by rw [size_rep, List.size_toArray]; exact flen)) ⟨ho, ?_⟩)
  rw [size_rep]
  exact pushT I s.toks (r.rep k.toNat) (by rw [PyProof.Rows.lm_len_rep_flat, sizeLine_eq]; omega) (q2 h1)
/-! ### s * k -/
def repS (x : Str) (k : Int) : Str := ⟨((List.replicate k.toNat x.cps.toList).flatten).toArray⟩
theorem foldS (a : Array Nat) : ∀ (n : Nat) (b : Array Nat), ((List.replicate n a).foldl (· ++ ·) b).toList = b.toList ++ (List.replicate n a.toList).flatten
  | 0, b => by simp
  | n + 1, b => by
    rw [List.replicate_succ, List.foldl_cons, foldS a n, List.replicate_succ, List.flatten_cons, Array.toList_append, List.append_assoc]
theorem repS_eq (z : Str) (k : Int) : (⟨(List.replicate k.toNat z.cps).foldl (· ++ ·) #[]⟩ : Str) = repS z k := by
  unfold repS
  congr 1
  apply Array.ext'
  rw [foldS]
  simp
theorem repS_same {z : Str} {k : Int} (h : (k == 1 || z.length == 0) = true) : repS z k = z := by
  obtain ⟨c⟩ := z
  unfold repS
  congr 1
  apply Array.ext'
  rw [Bool.or_eq_true] at h
  rcases h with h | h
  · rw [show k = 1 from eq_of_beq h]
    simp
  · have h : c.size = 0 := eq_of_beq h
    have e : c = #[] := Array.eq_empty_of_size_eq_zero h
    subst e
    simp
theorem flat_len {α : Type} (l : List α) (n : Nat) : (List.replicate n l).flatten.length = l.length * n := by
  induction n with
  | zero => simp
  | succ n ih => rw [List.replicate_succ, List.flatten_cons, List.length_append, ih, Nat.mul_succ, Nat.add_comm]
theorem repS_length (z : Str) (k : Int) : (repS z k).length = z.length * k.toNat := by
  show (((List.replicate k.toNat z.cps.toList).flatten).toArray).size = _
  rw [List.size_toArray, flat_len]
  rfl
theorem op_mulS {X : Cx} : OpR X (binaryOp .Mult) (fun x y H Q => ∃ z k, x = .str z ∧ y = .int k ∧ -(2 ^ 40) ≤ k ∧ k ≤ 2 ^ 20 ∧ z.length ≤ 2 ^ 20 ∧ z.length * k.toNat ≤ 1000000 ∧ Q (.str (repS z k)) H) := by
  intro pins s σ H x y v u Q I rx ry ⟨z, k, ex, ey, k0, k1, hz, hl, q⟩
  subst ex ey
  obtain ⟨t, rfl⟩ := rx
  obtain ⟨t2, rfl⟩ := ry
  refine PySem.P.mul_str ?_ (fun h1 _ => ?_) (fun _ _ => ?_) ?_
  · rw [decide_eq_false (by omega), decide_eq_false (by omega)]
    rfl
  · have : (2 ^ 21 : Int) ≤ (2 ^ 63 - 1) / k := (Int.le_ediv_iff_mul_le (by omega)).mpr (by omega)
    omega
  · unfold PySem.Builtin.Str.tooLong
    rw [sizeLine_eq]
    exact decide_eq_false (by omega)
  · by_cases h1 : k < 1
    · rw [if_pos h1]
      have e : repS z k = Str.empty := by
        have e : k.toNat = 0 := by omega
        unfold repS
        rw [e]
        rfl
      rw [e] at q
      exact ⟨by decide, .str Str.empty, H, I.tok _, ⟨_, rfl⟩, q⟩
    · rw [if_neg h1]
      by_cases h2 : (k == 1 || z.length == 0) = true
      · rw [if_pos h2]
        exact ⟨.str (repS z k), H, I, ⟨t, by rw [repS_same h2]⟩, q⟩
      · rw [if_neg h2]
        rw [repS_eq]
        refine ⟨?_, .str (repS z k), H, I.tok _, ⟨_, rfl⟩, q⟩
        rw [repS_length, sizeLine_eq]
        omega
end L3

set_option Elab.async false
set_option maxRecDepth 100000
set_option linter.all false
set_option maxHeartbeats 2000000
/-! enumerate of a list or a tuple: each pair is a tuple whose object is known whole -/
namespace L3
open PySem PySem.Spec PyProof.Rows L2
open AutoSeq1 (wpAny_loadPart')
theorem enumNew_tup (l : Addr) (items : Array Value) (n : Nat) (dct : Option Addr) (sl : Array (Option Value)) :
    Meets (Builtin.«enumerate.__new__» ⟨[.type "enumerate", .ref l], []⟩) (fun _ R s => s.heap.get? l = some { cls := .type "tuple", dict := dct, data := .seq items n, slots := sl } ∧
      R (.ok (.ret (.ref (s.heap.push { cls := .type "tuple_iterator", data := .fields #[.ref l, .int 0 0] }).objs.size)))
        { s with heap := (s.heap.push { cls := .type "tuple_iterator", data := .fields #[.ref l, .int 0 0] }).push { cls := .type "enumerate", data := .fields #[.none, .bool false, .ref s.heap.objs.size, rawInt 0, .none, .none] } }) :=
  .of_wp fun prog w A R s h => by
    obtain ⟨hp, g, d, tk, os⟩ := s; obtain ⟨hl, h⟩ := h
    have hsub := sub_enumerate
    have hL : Heap.IsTuple (Shared.heap ⟨hp, g, d, tk, os⟩) l items := ⟨_, hl, rfl, n, rfl⟩
    wp_walk using wpAny_loadPart' hl
    refine wpAny_stack_any fun st => wpAny_pure ?_
    split
    · rename_i c _ _ _ _ _
      cases (c == Value.type "enumerate")
      · wp_walk using wpAny_loadPart' hl, wpAny_pyIter_tuple hL
        exact ⟨_, rfl, h⟩
      · wp_walk using wpAny_loadPart' hl, wpAny_pyIter_tuple hL
        exact ⟨_, rfl, h⟩
    · wp_walk using wpAny_loadPart' hl, wpAny_pyIter_tuple hL
      exact ⟨_, rfl, h⟩
theorem call_enumerate_tup {prog : Program} {w : World} {A : Around} {E : Value → Shared → Prop} {s : Shared} {l : Addr} {items : Array Value} {Q : Value → Shared → Prop} (hL : s.heap.IsTuple l items)
    (h : ∀ h', IsEnum h' (s.heap.objs.size + 1) s.heap.objs.size 0 .none → h'.IsTupleIter s.heap.objs.size l 0 → h'.objs.size = s.heap.objs.size + 2 →
      (∀ b o, s.heap.get? b = some o → h'.get? b = some o) → Q (.ref (s.heap.objs.size + 1)) { s with heap := h' }) :
    wpAny (model prog w) A (call (.type "enumerate") [.ref l]) Q E s := by
  obtain ⟨⟨c, dct, dt, sl⟩, hl, hc, n, hd⟩ := hL
  replace hc : c = .type "tuple" := hc
  replace hd : dt = .seq items n := hd
  subst hc hd
  refine callType_new F.called_enumerate (by decide) (F.typeCall_enumerate_1 _) (F.newCall_enumerate_1 _) (fun obj => F.args_object_init_2 obj _) F.entry_enumerate_new
    (enumNew_tup l items n dct sl) ⟨hl, ?_⟩
  have hz : (s.heap.push { cls := .type "tuple_iterator", data := .fields #[.ref l, .int 0 0] }).objs.size = s.heap.objs.size + 1 := Heap.size_push ..
  show _ ∧ _
  rw [hz]
  have he : IsEnum ((s.heap.push { cls := .type "tuple_iterator", data := .fields #[.ref l, .int 0 0] }).push
      { cls := .type "enumerate", data := .fields #[.none, .bool false, .ref s.heap.objs.size, rawInt 0, .none, .none] }) (s.heap.objs.size + 1) s.heap.objs.size 0 .none := by
    have := Heap.get?_push_size (s.heap.push { cls := .type "tuple_iterator", data := .fields #[.ref l, .int 0 0] })
      (o := { cls := .type "enumerate", data := .fields #[.none, .bool false, .ref s.heap.objs.size, rawInt 0, .none, .none] }) rfl
    rw [hz] at this; exact this
  refine ⟨⟨_, he, rfl⟩, h _ he ⟨_, Heap.get?_push_of_some _ (Heap.get?_push_size _ rfl), rfl, rfl⟩ (by rw [Heap.size_push, hz]) fun b o x => Heap.get?_push_of_some _ (Heap.get?_push_of_some _ x)⟩

/-- a list (true), a tuple (false) -/
def SqB (K : PySem.W.Frag) (H : Hp) (a : Addr) (xs : List V) : Bool → Prop
  | true => SqL K H a xs
  | false => SqT K H a xs
def SrcB (h : Heap) (a : Addr) (its : Array Value) : Bool → Prop
  | true => h.IsList a its
  | false => h.IsTuple a its
def ItrB (h : Heap) (it a : Addr) (i : Nat) : Bool → Prop
  | true => h.IsListIter it a i
  | false => h.IsTupleIter it a i
theorem ItrB.at {h h' : Heap} {it a : Addr} {i : Nat} (k : ∀ o, h.get? it = some o → h'.get? it = some o) : ∀ {b : Bool}, ItrB h it a i b → ItrB h' it a i b
  | true, x => Heap.IsListIter.at x k
  | false, x => Heap.IsTupleIter.at x k
theorem ItrB.obj {h : Heap} {it a : Addr} {i : Nat} : ∀ {b : Bool}, ItrB h it a i b → ∃ o, h.get? it = some o ∧ ∃ vs, o.data = .fields vs
  | true, ⟨o, e, _, d⟩ | false, ⟨o, e, _, d⟩ => ⟨o, e, _, d⟩
theorem srcB {X : Cx} {pins : List (Addr × Obj)} {σ : L2.St} {H : Hp} {s : Shared} {a : Addr} {xs : List V} (I : Inv X pins σ H s) : ∀ {b : Bool}, SqB X.K H a xs b → ∃ its : List Value, Vals xs its ∧ SrcB s.heap a its.toArray b
  | true, h => let ⟨its, r, p, _⟩ := I.list h; ⟨its, r, p.isList⟩
  | false, h => let ⟨its, r, p, _⟩ := I.tuple h; ⟨its, r, p⟩
theorem sqB_inj {X : Cx} {pins : List (Addr × Obj)} {σ : L2.St} {H : Hp} {s : Shared} {a : Addr} {xs ys : List V} (I : Inv X pins σ H s) : ∀ {b : Bool}, SqB X.K H a xs b → SqB X.K H a ys b → xs = ys
  | true, h, g => I.list_inj h g
  | false, h, g => I.tuple_inj h g
theorem drawsB {prog : Program} {w : World} {A : Around} (hh : A.handled = none) (it a : Addr) (hne : a ≠ it) (its : Array Value) : ∀ b : Bool, Draws prog w A it [it, a] its.size (fun i v => its[i]? = some v) (fun i h => ItrB h it a i b ∧ SrcB h a its b)
  | true => Draws.list hh it a hne its
  | false => Draws.tuple hh it a hne its
/-- each item in a new pair -/
def ItE (K : PySem.W.Frag) (a : Addr) (b : Bool) : It where
  go i H := ∃ xs x, SqB K H a xs b ∧ xs[i]? = some x
  yld i H v H' := ∃ T o x, v = .ref T ∧ H T = none ∧ o.dict = none ∧ H' = upd H T (.frz o (.tup [.int (i : Nat), x])) ∧ ∀ xs, SqB K H a xs b → xs[i]? = some x
  stop i H := ∃ xs : List V, SqB K H a xs b ∧ xs.length ≤ i
theorem turn_en {P : Program} {w : World} {K : PySem.W.Frag} {elts : List Expr} {kk : Nat} {tpos : Pos} (a e it : Addr) (b : Bool) (hai : a ≠ it) (hea : e ≠ a) (hne : e ≠ it) :
    Turn P w K (.Tuple elts kk tpos) (ItE K a b) [e, it] e (fun i h => (∃ old, IsEnum h e it ((i : Nat) : Int) old) ∧ ItrB h it a i b) where
  mem := List.mem_cons_self
  obj i h st c hc := by
    obtain ⟨⟨old, he⟩, hi⟩ := st
    obtain ⟨o, eo, vs, d⟩ := hi.obj
    rcases List.mem_cons.mp hc with rfl | hc
    · exact ⟨_, he, fun v q => nomatch q⟩
    · cases List.mem_singleton.mp hc
      exact ⟨o, eo, fun v q => by rw [d] at q; cases q⟩
  keep i h h' st k := ⟨st.1.imp fun old he => k e List.mem_cons_self _ he, st.2.at fun o q => k it (by simp) o q⟩
  self A i s Q E st h := let ⟨_, he⟩ := st.1; wpAny_pyIter_enum he h
  done X hP hw hK hc i pins s σ H E I hf st hg := by
    subst hP hw hK
    obtain ⟨⟨old, he⟩, hit⟩ := st
    obtain ⟨xs, hq, hx⟩ := hg
    obtain ⟨its, rv, p⟩ := srcB I hq
    obtain ⟨f0, f1, f2, f3, f4, f5⟩ := hf it (by simp)
    have hh : X.A.in1.handled = none := I.ok.hd hc
    have hi : its.toArray.size ≤ i := by rw [List.size_toArray, ← rv.length]; exact hx
    have fin : ∀ h', Heap.ExtBut it s.heap h' → (none : Option Value) = none ∧ Inv X pins σ H { s with heap := h' } := fun h' eb => ⟨rfl, I.turned (t' := s.toks) (fun b o hb q => eb b o hb q) f0 f1 f3 f4 f5⟩
    have hT : s.TypeIs (.ref e) "enumerate" := ⟨_, he, rfl⟩
    unfold pyNext
    refine wpAny_bind (wpAny_attempt (wpAny_callSpecial?_slot (name := Str.ofString "__next__") hT F.slot_enumerate_next (wpAny_call_entry F.slot_enumerate_next hT F.entry_enumerate_next ?_ (F.args_enumerate_next_1 _))))
    show wpAny _ _ (field (.ref e) 2 >>= _) _ _ _
    refine wpAny_bind (wpAny_field he rfl (x := .ref it) rfl (wpAny_bind ?_))
    cases b with
    | true =>
      refine wpAny_nextOf_list_end hh hit p (Array.getElem?_eq_none hi) fun h' x he' ⟨o, ho, hc⟩ => ?_
      refine wpAny_bind (wpAny_isInstance (T := "StopIteration") (b := true) ⟨o, ho, hc⟩ isSubtype_stop ?_)
      exact wpAny_pure (fin _ he')
    | false =>
      refine wpAny_nextOf_tuple_end hh hit p (Array.getElem?_eq_none hi) fun h' x he' ⟨o, ho, hc⟩ => ?_
      refine wpAny_bind (wpAny_isInstance (T := "StopIteration") (b := true) ⟨o, ho, hc⟩ isSubtype_stop ?_)
      exact wpAny_pure (fin _ he')
  item X hP hw hK hc i pins s σ H E I hf st hg := by
    subst hP hw hK
    obtain ⟨⟨old, he⟩, hit⟩ := st
    obtain ⟨xs, x, hq, hx⟩ := hg
    obtain ⟨its, rv, p⟩ := srcB I hq
    obtain ⟨u, hu, ru⟩ := rv.get hx
    have el : e < s.heap.objs.size := Heap.lt_size he
    have il : it < s.heap.objs.size := let ⟨_, q, _⟩ := hit.obj; Heap.lt_size q
    have lt : i < its.toArray.size := by rw [List.size_toArray]; exact (List.getElem?_eq_some_iff.mp hu).1
    have hh : X.A.in1.handled = none := I.ok.hd hc
    have D := drawsB (prog := X.prog) (w := X.w) (A := X.A.in1) hh it a hai its.toArray b
    refine wpAny_pyNext_enum_itemD D he ⟨hit, p⟩ lt hne (by simp [hne, hea]) fun u' h1 tk hu' ho st' hT hsz hk => ⟨_, rfl, wpAny_letOwnedTupleGo_enum (s := { s with heap := h1, toks := tk + 1 }) ho fun h2 he' sb => ?_⟩
    have hu' : its[i]? = some u' := by simpa using hu'
    cases Option.some.inj (hu.symm.trans hu')
    have hT2 := (sb.2 _ (Nat.ne_of_gt el)).trans hT
    have hf0 : H s.heap.objs.size = none := I.hok.fresh (Nat.le_refl _)
    refine ⟨.ref s.heap.objs.size, upd H s.heap.objs.size (.frz { cls := .type "tuple", data := .seq #[.int i tk, u] } (.tup [.int (i : Nat), x])), ?_, rfl, ⟨_, { cls := .type "tuple", data := .seq #[.int i tk, u] }, x, rfl, hf0, rfl, rfl, fun ys hy => by rw [sqB_inj I hy hq]; exact hx⟩, ⟨⟨u, ?_⟩, ?_⟩, fun c hc => ?_⟩
    · have new : ObjOk X.prog X.w (upd H s.heap.objs.size (.frz { cls := .type "tuple", data := .seq #[.int i tk, u] } (.tup [.int (i : Nat), x]))) h2 s.heap.objs.size (.frz { cls := .type "tuple", data := .seq #[.int i tk, u] } (.tup [.int (i : Nat), x])) :=
        ⟨hT2, by show 2 ≤ sizeLine; decide, [.int i tk, u], .cons ⟨_, rfl⟩ (.cons ru .nil), ⟨_, hT2, rfl, _, rfl⟩⟩
      exact I.turnedNew (ch := [e, it]) (fun b ob hb q => (sb.2 b (fun z => hb (by simp [z]))).trans (hk b ob (fun z => hb (by simp [z])) (fun z => hb (by simp [z])) q)) hf (Nat.le_refl _) new
    · rw [show ((i + 1 : Nat) : Int) = (i : Int) + 1 by omega]
      exact he'
    · exact st'.1.at fun o q => (sb.2 it (Ne.symm hne)).trans q
    · have hb' : c < s.heap.objs.size := by
        rcases List.mem_cons.mp hc with rfl | hc
        · exact el
        · cases List.mem_singleton.mp hc
          exact il
      rw [upd_ne (Nat.ne_of_lt hb')]
      exact (hf c hc).1
def iEn (K : PySem.W.Frag) (ta : TA) : TI := fun σ H R => ta σ H fun vs H1 => ∃ a xs b, vs = [.ref a] ∧ SqB K H1 a xs b ∧ R (ItE K a b) H1
theorem pi_en {X : Cx} {e : Expr} {ta : TA} {p pos tpos : Pos} {elts : List Expr} {kk : Nat} (hg : Gl X "enumerate") (hm : X.mg "enumerate" = none) (ha : PA X [e] ta) (hs : starEach [e] X.env = [(false, eval e X.env)] := by rfl) :
    PI X (.Tuple elts kk tpos) (.Call (.Name "enumerate" p) [e] [] pos) (iEn X.K ta) := by
  refine ⟨fun pins s σ H R I h => Call_ (ld_blt I hg hm boot_enumerate (PyProof.Rows.callWith_type1 (thn (ha.run pos pins s σ H _ I h) fun us s1 ⟨vs, H1, I1, r1, a, xs, b, ex, hq, q⟩ => ?_) hs rfl))⟩
  subst ex
  obtain ⟨u, rfl, ru⟩ := vals1 r1
  cases ru
  obtain ⟨its, rv, p'⟩ := srcB I1 hq
  have al : a < s1.heap.objs.size := by
    cases b with
    | true => exact let ⟨o, q, _⟩ := p'; Heap.lt_size q
    | false => exact let ⟨o, q, _⟩ := p'; Heap.lt_size q
  have fin : ∀ h', IsEnum h' (s1.heap.objs.size + 1) s1.heap.objs.size 0 .none → ItrB h' s1.heap.objs.size a 0 b → (∀ b o, s1.heap.get? b = some o → h'.get? b = some o) →
      PIE X pins σ (.Tuple elts kk tpos) R (.ref (s1.heap.objs.size + 1)) { s1 with heap := h' } := fun h' he hit hk =>
    ⟨s1.heap.objs.size + 1, [s1.heap.objs.size + 1, s1.heap.objs.size], _, _, H1, rfl, I1.kept (t' := s1.toks) hk, turn_en a (s1.heap.objs.size + 1) s1.heap.objs.size b (Nat.ne_of_lt al) (Ne.symm (Nat.ne_of_lt (Nat.lt_succ_of_lt al))) (Nat.succ_ne_self _), ⟨⟨.none, he⟩, hit⟩, fun c hc => by
      have hle : s1.heap.objs.size ≤ c := by
        rcases List.mem_cons.mp hc with rfl | hc
        · exact Nat.le_succ _
        · cases List.mem_singleton.mp hc
          exact Nat.le_refl _
      exact I1.fpOk hle (I1.hok.fresh hle), q⟩
  cases b with
  | true => exact call_enumerate_list p' fun h' he hit hsz hk => wpAny_pyIter_enum he (fin h' he hit hk)
  | false => exact call_enumerate_tup p' fun h' he hit hsz hk => wpAny_pyIter_enum he (fin h' he hit hk)
end L3

set_option Elab.async false
set_option maxRecDepth 100000
set_option linter.all false
set_option maxHeartbeats 2000000
/-! methods of built-ins' objects, of tuples too -/
namespace L3
open PySem PySem.Spec PyProof.Rows L2
def TyB (K : PySem.W.Frag) (T : String) (x : V) (H : Hp) : Prop := tyV K T x H ∨ (T = "tuple" ∧ ∃ p xs, x = .ref p ∧ SqX K H p xs)
theorem tyB_is {X : Cx} {pins : List (Addr × Obj)} {σ : L2.St} {H : Hp} {s : Shared} {T : String} {x : V} {v : Value} (I : Inv X pins σ H s) (r : RelV x v) (ty : TyB X.K T x H) : s.TypeIs v T ∧ ∀ a, v = .ref a → ∃ ob, s.heap.get? a = some ob ∧ ob.dict = none := by
  rcases ty with ty | ⟨e, p, xs, e2, hx⟩
  · exact tyV_is I r ty
  subst e e2
  cases r
  rcases hx with ⟨o, h, d⟩ | ⟨o, its, n, h1, h2, d, h3⟩
  · obtain ⟨g, _, _, _, o', g', c, _⟩ := I.hok p _ h
    cases Option.some.inj (g.symm.trans g')
    exact ⟨⟨o, g, c⟩, fun a e => by cases e; exact ⟨o, g, d⟩⟩
  · refine tyV_is (T := "tuple") I (v := .ref p) (x := .ref p) rfl (.inr (.inl ⟨rfl, o, h1, h2, d⟩))
abbrev tBX (K : PySem.W.Frag) (T : String) (r : V → List V → Hp → VK → Prop) (to : TE) (t : TA) : TE := fun σ H Q => to σ H fun x H1 => TyB K T x H1 ∧ t σ H1 fun xs H2 => r x xs H2 Q
section
variable {X : Cx} {o e : Expr} {es : List Expr} {to : TE} {t : TA} {name : Str} {apos cpos : Pos} {T id : String} {r : V → List V → Hp → VK → Prop}
theorem pe_bX0 (pa : PlainAttrs T) (slot : Slot T name id) (hty : typeOf (.builtin id) = pure (.type "method_descriptor")) (hm : MtR X id r) (ho : PE X o to)
    (hb : attributeBase o name X.env (eval o X.env) = eval o X.env := by rfl) (hl : (apos.endLine == cpos.line) = true := by rfl) : PE X (.Call (.Attribute o name apos) [] [] cpos) (tBX X.K T r to tNil) :=
  ⟨fun pins s σ H Q I h => wpAny_Call_method0_late hb hl (thn (ho.run pins s σ H _ I h) fun v s1 ⟨x, H1, I1, r1, ty, q1⟩ =>
    let ⟨h1, h2⟩ := tyB_is I1 r1 ty
    ⟨T, id, pa, slot, hty, h1, h2, Calls.callWith_builtin rfl (PySem.evalArgs_none (hm pins s1 σ H1 x [] v [] Q I1 r1 .nil q1))⟩)⟩
theorem pe_bX (pa : PlainAttrs T) (slot : Slot T name id) (hty : typeOf (.builtin id) = pure (.type "method_descriptor")) (hm : MtR X id r) (ho : PE X o to) (ha : PA X (e :: es) t)
    (hb : attributeBase o name X.env (eval o X.env) = eval o X.env := by rfl)
    (hfew : ((backTo cpos (starEach (e :: es) X.env)).all (fun x => !x.1) && (backToKw cpos (keywordEach [] X.env)).all (fun x => x.1.isSome) && decide ((e :: es).length + ([] : List Keyword).length + (if ([] : List Keyword).isEmpty then 0 else 1) < 30)) = true := by rfl)
    (hl : (apos.endLine == cpos.line) = true := by rfl) (hs : starEach (e :: es) X.env = (false, eval e X.env) :: starEach es X.env := by rfl) (hp : (backTo cpos (starEach es X.env)).any (·.1) = false := by rfl) :
    PE X (.Call (.Attribute o name apos) (e :: es) [] cpos) (tBX X.K T r to t) := by
  refine ⟨fun pins s σ H Q I h => wpAny_Call_method_late hb hfew hl rfl (thn (ho.run pins s σ H _ I h) fun v s1 ⟨x, H1, I1, r1, ty, q1⟩ => ?_)⟩
  obtain ⟨h1, h2⟩ := tyB_is I1 r1 ty
  have hA := ha.run cpos pins s1 σ H1 _ I1 q1
  rw [hs] at hA ⊢
  have hpl : (false || (backTo cpos (starEach es X.env)).any (·.1)) = false := by rw [hp]; rfl
  exact ⟨T, id, pa, slot, hty, h1, h2, Calls.callWith_builtin hpl (Calls.evalArgs_plain (thn hA fun us s2 ⟨vs, H2, I2, r2, q2⟩ => hm pins s2 σ H2 x vs v us Q I2 r1 r2 q2))⟩
end
end L3

set_option Elab.async false
set_option maxRecDepth 100000
set_option linter.all false
/-! A layer of plain data over the hand layer: values are trees, only what is mutable stands in a store. -/
namespace L3
open PySem L2

/-- plain data; ref: a handle of a mutable object -/
inductive D where
  | non | bl (b : Bool) | int (i : Int) | str (x : Str)
  | tup (ds : List D) | lst (ds : List D) | ro (ds : List D) | ref (a : Addr) | ty (n : String) | key (ds : List D)

/-- a mutable object -/
inductive SO where
  | lst (ds : List D)
  | dK (kvs : List (Key × D))
  | dT (kvs : List (List Key × D))
  | ins (C : Addr) (fs : List (Str × D))
abbrev Sto := Addr → Option SO
def sup (S : Sto) (a : Addr) (o : SO) : Sto := fun b => if b = a then some o else S b
theorem sup_same {S : Sto} {a : Addr} {o : SO} : sup S a o a = some o := by unfold sup; rw [if_pos rfl]
theorem sup_ne {S : Sto} {a b : Addr} {o : SO} (h : b ≠ a) : sup S a o b = S b := by unfold sup; rw [if_neg h]
theorem sup_sup {S : Sto} {a : Addr} {o u : SO} : sup (sup S a o) a u = sup S a u := by
  funext b; unfold sup; split <;> rfl
/-- the part of the heap that never changes: neither in the store nor hidden -/
def fz (F : Addr → Bool) (S : Sto) (H : Hp) : Hp := fun a => match F a, S a with | false, none => H a | _, _ => none
theorem fz_some {F : Addr → Bool} {S : Sto} {H : Hp} {a : Addr} {o : SO} (h : S a = some o) : fz F S H a = none := by
  unfold fz; rw [h]; cases F a <;> rfl
theorem fz_hid {F : Addr → Bool} {S : Sto} {H : Hp} {a : Addr} (h : F a = true) : fz F S H a = none := by
  unfold fz; rw [h]
theorem fz_none {F : Addr → Bool} {S : Sto} {H : Hp} {a : Addr} (f : F a = false) (h : S a = none) : fz F S H a = H a := by unfold fz; rw [h, f]
theorem fz_of {F : Addr → Bool} {S : Sto} {H : Hp} {a : Addr} {o : HO} (h : fz F S H a = some o) : F a = false ∧ S a = none ∧ H a = some o := by
  unfold fz at h
  cases f : F a with
  | true => rw [f] at h; cases h
  | false =>
    cases e : S a with
    | none => rw [f, e] at h; exact ⟨rfl, rfl, h⟩
    | some u => rw [f, e] at h; cases h
theorem fz_same (F : Addr → Bool) (S : Sto) (H : Hp) : Same (fz F S H) H := fun _ _ h => (fz_of h).2.2

mutual
inductive Rel (K : PySem.W.Frag) (G : Hp) : V → D → Prop
  | non : Rel K G .non .non
  | bl (b : Bool) : Rel K G (.bl b) (.bl b)
  | int (i : Int) : Rel K G (.int i) (.int i)
  | str (x : Str) : Rel K G (.str x) (.str x)
  | ref (a : Addr) : Rel K G (.ref a) (.ref a)
  | ty (n : String) : Rel K G (.ty n) (.ty n)
  | tup {a : Addr} {xs : List V} {ds : List D} : SqX K G a xs → RelL K G xs ds → Rel K G (.ref a) (.tup ds)
  | lst {a : Addr} {xs : List V} {ds : List D} : G a = some (.lst xs) → RelL K G xs ds → Rel K G (.ref a) (.lst ds)
  | ro {a : Addr} {xs : List V} {ds : List D} : SqL K G a xs → RelL K G xs ds → Rel K G (.ref a) (.ro ds)
  | key {a : Addr} {xs : List V} {ds : List D} : G a = some (.tup xs) → RelL K G xs ds → Rel K G (.ref a) (.key ds)
inductive RelL (K : PySem.W.Frag) (G : Hp) : List V → List D → Prop
  | nil : RelL K G [] []
  | cons {v : V} {vs : List V} {d : D} {ds : List D} : Rel K G v d → RelL K G vs ds → RelL K G (v :: vs) (d :: ds)
end
theorem sqT_mono {K : PySem.W.Frag} {H H' : Hp} {a : Addr} {xs : List V} (e : Same H H') (h : SqX K H a xs) : SqT K H' a xs := (h.mono e).t
section
variable {K : PySem.W.Frag} {G G' : Hp}
mutual
theorem Rel.mono (e : Same G G') : ∀ {v : V} {d : D}, Rel K G v d → Rel K G' v d
  | _, _, .non => .non
  | _, _, .bl b => .bl b
  | _, _, .int b => .int b
  | _, _, .str b => .str b
  | _, _, .ref b => .ref b
  | _, _, .ty b => .ty b
  | _, _, .tup h r => .tup (SqX.mono e h) (RelL.mono e r)
  | _, _, .lst h r => .lst (e _ _ h) (RelL.mono e r)
  | _, _, .ro h r => .ro (e.seq h) (RelL.mono e r)
  | _, _, .key h r => .key (e _ _ h) (RelL.mono e r)
theorem RelL.mono (e : Same G G') : ∀ {vs : List V} {ds : List D}, RelL K G vs ds → RelL K G' vs ds
  | _, _, .nil => .nil
  | _, _, .cons h r => .cons (Rel.mono e h) (RelL.mono e r)
end
theorem RelL.length : ∀ {vs : List V} {ds : List D}, RelL K G vs ds → vs.length = ds.length
  | _, _, .nil => rfl
  | _, _, .cons _ r => by simp [RelL.length r]
theorem RelL.append : ∀ {xs ys : List V} {ds es : List D}, RelL K G xs ds → RelL K G ys es → RelL K G (xs ++ ys) (ds ++ es)
  | _, _, _, _, .nil, s => s
  | _, _, _, _, .cons r t, s => .cons r (RelL.append t s)
theorem RelL.get : ∀ {xs : List V} {ds : List D} {i : Nat} {d : D}, RelL K G xs ds → ds[i]? = some d → ∃ v, xs[i]? = some v ∧ Rel K G v d
  | _, _, _, _, .nil, e => by simp at e
  | _, _, 0, _, .cons r _, e => by simp at e; subst e; exact ⟨_, rfl, r⟩
  | _, _, i + 1, _, .cons _ t, e => by
    obtain ⟨v, h1, h2⟩ := RelL.get (i := i) t (by simpa using e)
    exact ⟨v, by simpa using h1, h2⟩
theorem RelL.get' : ∀ {xs : List V} {ds : List D} {i : Nat} {v : V}, RelL K G xs ds → xs[i]? = some v → ∃ d, ds[i]? = some d ∧ Rel K G v d
  | _, _, _, _, .nil, e => by simp at e
  | _, _, 0, _, .cons r _, e => by simp at e; subst e; exact ⟨_, rfl, r⟩
  | _, _, i + 1, _, .cons _ t, e => by
    obtain ⟨v, h1, h2⟩ := RelL.get' (i := i) t (by simpa using e)
    exact ⟨v, by simpa using h1, h2⟩
theorem RelL.set {v : V} {d : D} (h : Rel K G v d) : ∀ {xs : List V} {ds : List D} (i : Nat), RelL K G xs ds → RelL K G (xs.set i v) (ds.set i d)
  | _, _, _, .nil => .nil
  | _, _, 0, .cons _ t => .cons h t
  | _, _, i + 1, .cons q t => .cons q (RelL.set h i t)
theorem RelL.take : ∀ {xs : List V} {ds : List D} (n : Nat), RelL K G xs ds → RelL K G (xs.take n) (ds.take n)
  | _, _, 0, _ => .nil
  | _, _, _ + 1, .nil => .nil
  | _, _, n + 1, .cons r t => .cons r (RelL.take n t)
theorem RelL.drop : ∀ {xs : List V} {ds : List D} (n : Nat), RelL K G xs ds → RelL K G (xs.drop n) (ds.drop n)
  | _, _, 0, r => r
  | _, _, _ + 1, .nil => .nil
  | _, _, n + 1, .cons _ t => RelL.drop n t
theorem RelL.reverse : ∀ {xs : List V} {ds : List D}, RelL K G xs ds → RelL K G xs.reverse ds.reverse
  | _, _, .nil => .nil
  | _, _, .cons r t => by
    rw [List.reverse_cons, List.reverse_cons]
    exact (RelL.reverse t).append (.cons r .nil)
theorem RelL.ints : ∀ {xs : List V} {ns : List Int}, RelL K G xs (ns.map D.int) → xs = ns.map V.int
  | _, [], h => by cases h; rfl
  | _, n :: ns, h => by
    cases h with
    | cons r t => cases r; rw [RelL.ints t]; rfl
theorem RelL.bls : ∀ {xs : List V} {ns : List Bool}, RelL K G xs (ns.map D.bl) → xs = ns.map V.bl
  | _, [], h => by cases h; rfl
  | _, n :: ns, h => by
    cases h with
    | cons r t => cases r; rw [RelL.bls t]; rfl
theorem RelL.strs : ∀ {xs : List V} {ns : List Str}, RelL K G xs (ns.map D.str) → xs = ns.map V.str
  | _, [], h => by cases h; rfl
  | _, n :: ns, h => by
    cases h with
    | cons r t => cases r; rw [RelL.strs t]; rfl
theorem RelL.ofInts : ∀ (ns : List Int), RelL K G (ns.map V.int) (ns.map D.int)
  | [] => .nil
  | n :: ns => .cons (.int n) (RelL.ofInts ns)
end

/-- fields, entries -/
inductive RelF (K : PySem.W.Frag) (G : Hp) {κ : Type} : List (κ × V) → List (κ × D) → Prop
  | nil : RelF K G [] []
  | cons {k : κ} {v : V} {vs : List (κ × V)} {d : D} {ds : List (κ × D)} : Rel K G v d → RelF K G vs ds → RelF K G ((k, v) :: vs) ((k, d) :: ds)
section
variable {K : PySem.W.Frag} {G G' : Hp} {κ : Type}
theorem RelF.mono (e : Same G G') : ∀ {vs : List (κ × V)} {ds : List (κ × D)}, RelF K G vs ds → RelF K G' vs ds
  | _, _, .nil => .nil
  | _, _, .cons h r => .cons (h.mono e) (RelF.mono e r)
end
def SOk (K : PySem.W.Frag) (G : Hp) (o : Option HO) : SO → Prop
  | .lst ds => ∃ vs, o = some (.lst vs) ∧ RelL K G vs ds
  | .dK kvs => ∃ vs, o = some (.dK vs) ∧ RelF K G vs kvs
  | .dT kvs => ∃ vs, o = some (.dT vs) ∧ RelF K G vs kvs
  | .ins C fs => ∃ dx vs, o = some (.ins C dx vs) ∧ RelF K G vs fs
theorem SOk.mono {K : PySem.W.Frag} {G G' : Hp} {o : Option HO} (e : Same G G') {u : SO} (h : SOk K G o u) : SOk K G' o u := by
  cases u with
  | lst ds => obtain ⟨vs, e1, r⟩ := h; exact ⟨vs, e1, r.mono e⟩
  | dK ds => obtain ⟨vs, e1, r⟩ := h; exact ⟨vs, e1, r.mono e⟩
  | dT ds => obtain ⟨vs, e1, r⟩ := h; exact ⟨vs, e1, r.mono e⟩
  | ins C ds => obtain ⟨dx, vs, e1, r⟩ := h; exact ⟨dx, vs, e1, r.mono e⟩
theorem SOk.some {K : PySem.W.Frag} {G : Hp} {o : Option HO} {u : SO} (h : SOk K G o u) : ∃ x, o = some x := by
  cases u with
  | lst ds => obtain ⟨vs, e1, r⟩ := h; exact ⟨_, e1⟩
  | dK ds => obtain ⟨vs, e1, r⟩ := h; exact ⟨_, e1⟩
  | dT ds => obtain ⟨vs, e1, r⟩ := h; exact ⟨_, e1⟩
  | ins C ds => obtain ⟨dx, vs, e1, r⟩ := h; exact ⟨_, e1⟩
/-- the store and the hidden objects stand in the heap -/
structure SimB (K : PySem.W.Frag) (F : Addr → Bool) (S : Sto) (H : Hp) : Prop where
  at_ : ∀ a o, S a = some o → F a = false ∧ SOk K (fz F S H) (H a) o
  hid : ∀ a, F a = true → ∃ o, H a = some o
/-- from one state to a later one -/
structure GoB (K : PySem.W.Frag) (F : Addr → Bool) (S : Sto) (H : Hp) (S' : Sto) (H' : Hp) : Prop where
  same : Same (fz F S H) (fz F S' H')
  hid : ∀ a, F a = true → H' a = H a
  sim : SimB K F S' H'
section
variable {K : PySem.W.Frag} {F : Addr → Bool} {S S1 S2 : Sto} {H H1 H2 : Hp} {p a : Addr} {o : HO} {u u' : SO}
theorem GoB.refl (s : SimB K F S H) : GoB K F S H S H := ⟨Same.refl _, fun _ _ => rfl, s⟩
theorem GoB.trans (g : GoB K F S H S1 H1) (g' : GoB K F S1 H1 S2 H2) : GoB K F S H S2 H2 := ⟨g.same.trans g'.same, fun a h => (g'.hid a h).trans (g.hid a h), g'.sim⟩
theorem SimB.none (s : SimB K F S H) (h : H p = none) : F p = false ∧ S p = Option.none := by
  constructor
  · cases e : F p with
    | false => rfl
    | true =>
      obtain ⟨x, q⟩ := s.hid p e
      rw [h] at q; cases q
  · cases e : S p with
    | none => rfl
    | some u =>
      obtain ⟨x, q⟩ := (s.at_ p u e).2.some
      rw [h] at q; cases q
theorem same_new (h : H p = none) : Same (fz F S H) (fz F S (upd H p o)) := fun b x e => by
  obtain ⟨h0, h1, h2⟩ := fz_of e
  rw [fz_none h0 h1, upd_ne (ne_of_none h2 h)]
  exact h2
/-- a new object that never changes -/
theorem SimB.new (s : SimB K F S H) (h : H p = Option.none) : GoB K F S H S (upd H p o) := by
  refine ⟨same_new h, fun a f => ?_, fun a u e => ?_, fun a f => ?_⟩
  · rw [upd_ne (fun z => by subst z; rw [(s.none h).1] at f; cases f)]
  · have np : a ≠ p := fun z => by subst z; rw [(s.none h).2] at e; cases e
    rw [upd_ne np]
    exact ⟨(s.at_ a u e).1, (s.at_ a u e).2.mono (same_new h)⟩
  · obtain ⟨x, q⟩ := s.hid a f
    exact ⟨x, by rw [upd_ne (ne_of_none q h)]; exact q⟩
theorem fz_newB (s : SimB K F S H) (h : H p = Option.none) : fz F S (upd H p o) p = some o := by
  rw [fz_none (s.none h).1 (s.none h).2, upd_same]
theorem same_newM (h : H p = Option.none) : Same (fz F S H) (fz F (sup S p u) (upd H p o)) := fun b x e => by
  obtain ⟨h0, h1, h2⟩ := fz_of e
  have np := ne_of_none h2 h
  rw [fz_none h0 (by rw [sup_ne np]; exact h1), upd_ne np]
  exact h2
/-- a new object that may change -/
theorem SimB.newM (s : SimB K F S H) (h : H p = Option.none) (k : SOk K (fz F S H) (some o) u) : GoB K F S H (sup S p u) (upd H p o) := by
  refine ⟨same_newM h, fun a f => ?_, fun a x e => ?_, fun a f => ?_⟩
  · rw [upd_ne (fun z => by subst z; rw [(s.none h).1] at f; cases f)]
  · by_cases np : a = p
    · subst np
      rw [sup_same] at e; cases e
      rw [upd_same]
      exact ⟨(s.none h).1, k.mono (same_newM h)⟩
    · rw [sup_ne np] at e
      rw [upd_ne np]
      exact ⟨(s.at_ a x e).1, (s.at_ a x e).2.mono (same_newM h)⟩
  · obtain ⟨x, q⟩ := s.hid a f
    exact ⟨x, by rw [upd_ne (ne_of_none q h)]; exact q⟩
theorem fz_put (h : S a = some u) : fz F (sup S a u') (upd H a o) = fz F S H := by
  funext b
  by_cases e : b = a
  · subst e
    rw [fz_some h, fz_some sup_same]
  · unfold fz
    rw [sup_ne e, upd_ne e]
/-- a mutable object changes -/
theorem SimB.put (s : SimB K F S H) (h : S a = some u) (k : SOk K (fz F S H) (some o) u') : GoB K F S H (sup S a u') (upd H a o) := by
  refine ⟨by rw [fz_put h]; exact Same.refl _, fun b f => ?_, fun b x e => ?_, fun b f => ?_⟩
  · rw [upd_ne (fun z => by subst z; rw [(s.at_ _ _ h).1] at f; cases f)]
  · rw [fz_put h]
    by_cases np : b = a
    · subst np
      rw [sup_same] at e; cases e
      rw [upd_same]
      exact ⟨(s.at_ _ _ h).1, k⟩
    · rw [sup_ne np] at e
      rw [upd_ne np]
      exact s.at_ b x e
  · obtain ⟨x, q⟩ := s.hid b f
    exact ⟨x, by rw [upd_ne (fun z => by subst z; rw [(s.at_ _ _ h).1] at f; cases f)]; exact q⟩
/-- a part of the store is let go -/
theorem GoB.drop (g : GoB K F S H S1 H1) (h : ∀ a o, S2 a = some o → S1 a = some o) : GoB K F S H S2 H1 := by
  have e : Same (fz F S1 H1) (fz F S2 H1) := fun b x e => by
    obtain ⟨h0, h1, h2⟩ := fz_of e
    rw [fz_none h0 ?_]
    · exact h2
    · cases q : S2 b with
      | none => rfl
      | some u => rw [h b u q] at h1; cases h1
  exact ⟨g.same.trans e, g.hid, fun a o q => ⟨(g.sim.at_ a o (h a o q)).1, (g.sim.at_ a o (h a o q)).2.mono e⟩, g.sim.hid⟩
end

/-- hidden besides -/
def hide (F : Addr → Bool) (a : Addr) : Addr → Bool := fun b => if b = a then true else F b
section
variable {K : PySem.W.Frag} {F : Addr → Bool} {S S' : Sto} {H H' : Hp} {p : Addr} {o o' : HO}
theorem fz_hide_same : Same (fz (hide F p) S H) (fz F S H) := fun b x e => by
  obtain ⟨h0, h1, h2⟩ := fz_of e
  have np : b ≠ p := fun z => by subst z; simp [hide] at h0
  rw [fz_none (by simpa [hide, np] using h0) h1]
  exact h2
theorem fz_hide_new (h : H p = none) : Same (fz F S H) (fz (hide F p) S (upd H p o)) := fun b x e => by
  obtain ⟨h0, h1, h2⟩ := fz_of e
  have np := ne_of_none h2 h
  rw [fz_none (by simp [hide, np, h0]) h1, upd_ne np]
  exact h2
theorem fz_hide_upd : fz (hide F p) S (upd H p o) = fz (hide F p) S H := by
  funext b
  by_cases e : b = p
  · subst e
    rw [fz_hid (by simp [hide]), fz_hid (by simp [hide])]
  · unfold fz
    rw [upd_ne e]
theorem SimB.hideNew (s : SimB K F S H) (h : H p = Option.none) : SimB K (hide F p) S (upd H p o) where
  at_ := fun a u e => by
    have np : a ≠ p := fun z => by subst z; rw [(s.none h).2] at e; cases e
    rw [upd_ne np]
    exact ⟨by simp [hide, np, (s.at_ a u e).1], (s.at_ a u e).2.mono (fz_hide_new h)⟩
  hid := fun a f => by
    by_cases np : a = p
    · subst np
      exact ⟨_, upd_same⟩
    · obtain ⟨x, q⟩ := s.hid a (by simpa [hide, np] using f)
      exact ⟨x, by rw [upd_ne np]; exact q⟩
/-- the hidden object is written -/
theorem SimB.hidePut (s : SimB K (hide F p) S H) : SimB K (hide F p) S (upd H p o) where
  at_ := fun a u e => by
    have q := s.at_ a u e
    have np : a ≠ p := fun z => by subst z; simp [hide] at q
    rw [upd_ne np, fz_hide_upd]
    exact q
  hid := fun a f => by
    by_cases np : a = p
    · subst np
      exact ⟨_, upd_same⟩
    · obtain ⟨x, q⟩ := s.hid a f
      exact ⟨x, by rw [upd_ne np]; exact q⟩
/-- it is shown again -/
theorem SimB.show_ (s : SimB K (hide F p) S H) (f : F p = false) : SimB K F S H where
  at_ := fun a u e => by
    have q := s.at_ a u e
    have np : a ≠ p := fun z => by subst z; simp [hide] at q
    exact ⟨by simpa [hide, np] using q.1, q.2.mono fz_hide_same⟩
  hid := fun a g => s.hid a (by by_cases np : a = p <;> simp [hide, np, g])
end
/-- what is known all along a def: kept by every step -/
structure KG (K : PySem.W.Frag) where
  ok : (Addr → Bool) → Sto → Hp → Prop
  step : ∀ {F S H S' H'}, SimB K F S H → ok F S H → GoB K F S H S' H' → ok F S' H'
  new : ∀ {F S H p o}, SimB K F S H → ok F S H → H p = none → ok (hide F p) S (upd H p o)
  put : ∀ {F S H p o S1 H1}, ok F S1 H1 → F p = false → SimB K (hide F p) S H → ok (hide F p) S H → ok (hide F p) S (upd H p o)
structure Sim {K : PySem.W.Frag} (Γ : KG K) (F : Addr → Bool) (S : Sto) (H : Hp) : Prop extends SimB K F S H where
  knows : Γ.ok F S H
structure Go {K : PySem.W.Frag} (Γ : KG K) (F : Addr → Bool) (S : Sto) (H : Hp) (S' : Sto) (H' : Hp) : Prop where
  same : Same (fz F S H) (fz F S' H')
  hid : ∀ a, F a = true → H' a = H a
  sim : Sim Γ F S' H'
section
variable {K : PySem.W.Frag} {Γ : KG K} {F : Addr → Bool} {S S1 S2 : Sto} {H H1 H2 : Hp} {p a : Addr} {o : HO} {u u' : SO}
theorem Go.b (g : Go Γ F S H S1 H1) : GoB K F S H S1 H1 := ⟨g.same, g.hid, g.sim.toSimB⟩
theorem Go.of (s : Sim Γ F S H) (g : GoB K F S H S1 H1) : Go Γ F S H S1 H1 := ⟨g.same, g.hid, ⟨g.sim, Γ.step s.toSimB s.knows g⟩⟩
theorem Go.refl (s : Sim Γ F S H) : Go Γ F S H S H := ⟨Same.refl _, fun _ _ => rfl, s⟩
theorem Go.trans (g : Go Γ F S H S1 H1) (g' : Go Γ F S1 H1 S2 H2) : Go Γ F S H S2 H2 := ⟨g.same.trans g'.same, fun a h => (g'.hid a h).trans (g.hid a h), g'.sim⟩
theorem Sim.none (s : Sim Γ F S H) (h : H p = none) : F p = false ∧ S p = Option.none := s.toSimB.none h
theorem Sim.new (s : Sim Γ F S H) (h : H p = Option.none) : Go Γ F S H S (upd H p o) := .of s (s.toSimB.new h)
theorem fz_new (s : Sim Γ F S H) (h : H p = Option.none) : fz F S (upd H p o) p = some o := fz_newB s.toSimB h
theorem Sim.newM (s : Sim Γ F S H) (h : H p = Option.none) (k : SOk K (fz F S H) (some o) u) : Go Γ F S H (sup S p u) (upd H p o) := .of s (s.toSimB.newM h k)
theorem Sim.put (s : Sim Γ F S H) (h : S a = some u) (k : SOk K (fz F S H) (some o) u') : Go Γ F S H (sup S a u') (upd H a o) := .of s (s.toSimB.put h k)
theorem Go.drop (s : Sim Γ F S H) (g : Go Γ F S H S1 H1) (h : ∀ a o, S2 a = some o → S1 a = some o) : Go Γ F S H S2 H1 := .of s (g.b.drop h)
theorem Sim.hideNew (s : Sim Γ F S H) (h : H p = Option.none) : Sim Γ (hide F p) S (upd H p o) := ⟨s.toSimB.hideNew h, Γ.new s.toSimB s.knows h⟩
theorem Sim.hidePut (s1 : Sim Γ F S1 H1) (f : F p = false) (s : Sim Γ (hide F p) S H) : Sim Γ (hide F p) S (upd H p o) := ⟨s.toSimB.hidePut, Γ.put s1.knows f s.toSimB s.knows⟩
end
abbrev DSt := List (Option D)
/-- slots -/
inductive RelS (K : PySem.W.Frag) (G : Hp) : St → DSt → Prop
  | nil : RelS K G [] []
  | cons {v : V} {σ : St} {d : D} {δ : DSt} : Rel K G v d → RelS K G σ δ → RelS K G (some v :: σ) (some d :: δ)
  | skip {v : Option V} {σ : St} {δ : DSt} : RelS K G σ δ → RelS K G (v :: σ) (none :: δ)
section
variable {K : PySem.W.Frag} {G G' : Hp}
theorem RelS.mono (e : Same G G') : ∀ {σ : St} {δ : DSt}, RelS K G σ δ → RelS K G' σ δ
  | _, _, .nil => .nil
  | _, _, .cons h r => .cons (h.mono e) (RelS.mono e r)
  | _, _, .skip r => .skip (RelS.mono e r)
theorem RelS.get : ∀ {σ : St} {δ : DSt} {i : Nat} {d : D}, RelS K G σ δ → δ[i]? = some (some d) → ∃ v, σ[i]? = some (some v) ∧ Rel K G v d
  | _, _, _, _, .nil, e => by simp at e
  | _, _, 0, _, .cons r _, e => by simp at e; subst e; exact ⟨_, rfl, r⟩
  | _, _, 0, _, .skip _, e => by simp at e
  | _, _, i + 1, _, .cons _ t, e => by
    obtain ⟨v, h1, h2⟩ := RelS.get (i := i) t (by simpa using e)
    exact ⟨v, by simpa using h1, h2⟩
  | _, _, i + 1, _, .skip t, e => by
    obtain ⟨v, h1, h2⟩ := RelS.get (i := i) t (by simpa using e)
    exact ⟨v, by simpa using h1, h2⟩
theorem RelS.set {v : V} {d : D} (h : Rel K G v d) : ∀ {σ : St} {δ : DSt} (i : Nat), RelS K G σ δ → RelS K G (σ.set i (some v)) (δ.set i (some d))
  | _, _, _, .nil => .nil
  | _, _, 0, .cons _ t => .cons h t
  | _, _, 0, .skip t => .cons h t
  | _, _, i + 1, .cons q t => .cons q (RelS.set h i t)
  | _, _, i + 1, .skip t => .skip (RelS.set h i t)
theorem RelS.unset : ∀ {σ : St} {δ : DSt} {v : Option V} (i : Nat), RelS K G σ δ → RelS K G (σ.set i v) (δ.set i none)
  | _, _, _, _, .nil => .nil
  | _, _, _, 0, .cons _ t => .skip t
  | _, _, _, 0, .skip t => .skip t
  | _, _, _, i + 1, .cons q t => .cons q (RelS.unset i t)
  | _, _, _, i + 1, .skip t => .skip (RelS.unset i t)
theorem RelS.length : ∀ {σ : St} {δ : DSt}, RelS K G σ δ → σ.length = δ.length
  | _, _, .nil => rfl
  | _, _, .cons _ r => by simp [RelS.length r]
  | _, _, .skip r => by simp [RelS.length r]
theorem RelS.repl : ∀ (n : Nat), RelS K G (List.replicate n none) (List.replicate n none)
  | 0 => .nil
  | n + 1 => .skip (RelS.repl n)
theorem RelS.ofL : ∀ {vs : List V} {ds : List D} {σ : St} {δ : DSt}, RelL K G vs ds → RelS K G σ δ → RelS K G (vs.map some ++ σ) (ds.map some ++ δ)
  | _, _, _, _, .nil, s => s
  | _, _, _, _, .cons r t, s => .cons r (RelS.ofL t s)
end

abbrev DK := D → Sto → Prop
abbrev DTE := DSt → Sto → DK → Prop
abbrev DTT := DSt → Sto → (Bool → Sto → Prop) → Prop
abbrev DTA := DSt → Sto → (List D → Sto → Prop) → Prop
structure DEnds where
  nx : DSt → Sto → Prop
  rt : DK
  bk : DSt → Sto → Prop := fun _ _ => False
  ct : DSt → Sto → Prop := fun _ _ => False
abbrev DTS := DEnds → DSt → Sto → Prop

/-- what follows, by data -/
def Ct {K : PySem.W.Frag} (Γ : KG K) (F : Addr → Bool) (S : Sto) (H : Hp) (P : DK) (Q : VK) : Prop := ∀ d S', P d S' → ∀ v H', Go Γ F S H S' H' → Rel K (fz F S' H') v d → Q v H'
def CtT {K : PySem.W.Frag} (Γ : KG K) (F : Addr → Bool) (S : Sto) (H : Hp) (P : Bool → Sto → Prop) (Q : Bool → Hp → Prop) : Prop := ∀ b S', P b S' → ∀ H', Go Γ F S H S' H' → Q b H'
def CtA {K : PySem.W.Frag} (Γ : KG K) (F : Addr → Bool) (S : Sto) (H : Hp) (P : List D → Sto → Prop) (Q : List V → Hp → Prop) : Prop := ∀ ds S', P ds S' → ∀ vs H', Go Γ F S H S' H' → RelL K (fz F S' H') vs ds → Q vs H'
def CtN {K : PySem.W.Frag} (Γ : KG K) (F : Addr → Bool) (S : Sto) (H : Hp) (P : DSt → Sto → Prop) (Q : St → Hp → Prop) : Prop := ∀ δ' S', P δ' S' → ∀ σ' H', Go Γ F S H S' H' → RelS K (fz F S' H') σ' δ' → Q σ' H'
structure CtE {K : PySem.W.Frag} (Γ : KG K) (F : Addr → Bool) (S : Sto) (H : Hp) (P : DEnds) (Q : Ends) : Prop where
  nx : CtN Γ F S H P.nx Q.nx
  rt : Ct Γ F S H P.rt Q.rt
  bk : CtN Γ F S H P.bk Q.bk
  ct : CtN Γ F S H P.ct Q.ct
section
variable {K : PySem.W.Frag} {Γ : KG K} {F : Addr → Bool} {S S1 : Sto} {H H1 : Hp}
theorem Ct.mono {P : DK} {Q : VK} (c : Ct Γ F S H P Q) (e : Go Γ F S H S1 H1) : Ct Γ F S1 H1 P Q := fun d S' h v H' e' => c d S' h v H' (e.trans e')
theorem CtT.mono {P : Bool → Sto → Prop} {Q : Bool → Hp → Prop} (c : CtT Γ F S H P Q) (e : Go Γ F S H S1 H1) : CtT Γ F S1 H1 P Q := fun d S' h H' e' => c d S' h H' (e.trans e')
theorem CtA.mono {P : List D → Sto → Prop} {Q : List V → Hp → Prop} (c : CtA Γ F S H P Q) (e : Go Γ F S H S1 H1) : CtA Γ F S1 H1 P Q := fun d S' h v H' e' => c d S' h v H' (e.trans e')
theorem CtN.mono {P : DSt → Sto → Prop} {Q : St → Hp → Prop} (c : CtN Γ F S H P Q) (e : Go Γ F S H S1 H1) : CtN Γ F S1 H1 P Q := fun d S' h v H' e' => c d S' h v H' (e.trans e')
theorem CtE.mono {P : DEnds} {Q : Ends} (c : CtE Γ F S H P Q) (e : Go Γ F S H S1 H1) : CtE Γ F S1 H1 P Q := ⟨c.nx.mono e, c.rt.mono e, c.bk.mono e, c.ct.mono e⟩
theorem Ct.use {P : DK} {Q : VK} (c : Ct Γ F S H P Q) (s : Sim Γ F S H) {v : V} {d : D} (r : Rel K (fz F S H) v d) (h : P d S) : Q v H := c d S h v H (Go.refl s) r
theorem Ct.new {P : DK} {Q : VK} (c : Ct Γ F S H P Q) (s : Sim Γ F S H) {p : Addr} {o : HO} (hp : H p = none) {v : V} {d : D} (r : Rel K (fz F S (upd H p o)) v d) (h : P d S) : Q v (upd H p o) := c d S h v _ (s.new hp) r
theorem Ct.newM {P : DK} {Q : VK} (c : Ct Γ F S H P Q) (s : Sim Γ F S H) {p : Addr} {o : HO} {u : SO} (hp : H p = none) (k : SOk K (fz F S H) (some o) u) {v : V} {d : D} (r : Rel K (fz F (sup S p u) (upd H p o)) v d) (h : P d (sup S p u)) : Q v (upd H p o) :=
  c d _ h v _ (s.newM hp k) r
theorem Ct.put {P : DK} {Q : VK} (c : Ct Γ F S H P Q) (s : Sim Γ F S H) {a : Addr} {o : HO} {u u' : SO} (ha : S a = some u) (k : SOk K (fz F S H) (some o) u') {v : V} {d : D} (r : Rel K (fz F S H) v d) (h : P d (sup S a u')) : Q v (upd H a o) :=
  c d _ h v _ (s.put ha k) (by rw [fz_put ha]; exact r)
end

/-- a reading by data as a reading -/
def lf {K : PySem.W.Frag} (Γ : KG K) (t : DTE) : TE := fun σ H Q => ∃ F δ S P, Sim Γ F S H ∧ RelS K (fz F S H) σ δ ∧ t δ S P ∧ Ct Γ F S H P Q
def lfT {K : PySem.W.Frag} (Γ : KG K) (t : DTT) : TT := fun σ H Q => ∃ F δ S P, Sim Γ F S H ∧ RelS K (fz F S H) σ δ ∧ t δ S P ∧ CtT Γ F S H P Q
def lfA {K : PySem.W.Frag} (Γ : KG K) (t : DTA) : TA := fun σ H Q => ∃ F δ S P, Sim Γ F S H ∧ RelS K (fz F S H) σ δ ∧ t δ S P ∧ CtA Γ F S H P Q
def lfS {K : PySem.W.Frag} (Γ : KG K) (t : DTS) : TS := fun D σ H => ∃ F δ S P, Sim Γ F S H ∧ RelS K (fz F S H) σ δ ∧ t P δ S ∧ CtE Γ F S H P D
def DPE (X : Cx) (Γ : KG X.K) (e : Expr) (t : DTE) : Prop := PE X e (lf Γ t)
def DPT (X : Cx) (Γ : KG X.K) (e : Expr) (t : DTT) : Prop := PT X e (lfT Γ t)
def DPW (X : Cx) (Γ : KG X.K) (e : Expr) (t : DTT) : Prop := PW X e (lfT Γ t)
def DPA (X : Cx) (Γ : KG X.K) (es : List Expr) (t : DTA) : Prop := PA X es (lfA Γ t)
def DPS (X : Cx) (Γ : KG X.K) (st : Stmt) (t : DTS) : Prop := PS X st (lfS Γ t)
def DPSs (X : Cx) (Γ : KG X.K) (st : List Stmt) (t : DTS) : Prop := PSs X st (lfS Γ t)
section
variable {X : Cx}
theorem PEw {e : Expr} {t u : TE} (h : PE X e t) (w : ∀ σ H Q, u σ H Q → t σ H Q) : PE X e u := ⟨fun pins s σ H Q I q => h.run pins s σ H Q I (w _ _ _ q)⟩
theorem PTw {e : Expr} {t u : TT} (h : PT X e t) (w : ∀ σ H Q, u σ H Q → t σ H Q) : PT X e u := ⟨fun pins s σ H Q I q => h.run pins s σ H Q I (w _ _ _ q)⟩
theorem PWw {e : Expr} {t u : TT} (h : PW X e t) (w : ∀ σ H Q, u σ H Q → t σ H Q) : PW X e u := ⟨fun wh pins s σ H Q I q => h.run wh pins s σ H Q I (w _ _ _ q)⟩
theorem PAw {e : List Expr} {t u : TA} (h : PA X e t) (w : ∀ σ H Q, u σ H Q → t σ H Q) : PA X e u := ⟨fun pos pins s σ H Q I q => h.run pos pins s σ H Q I (w _ _ _ q)⟩
theorem PSw {e : Stmt} {t u : TS} (h : PS X e t) (w : ∀ D σ H, u D σ H → t D σ H) : PS X e u := ⟨fun pins s σ H Q I q => h.run pins s σ H Q I (w _ _ _ q)⟩
theorem PSsw {e : List Stmt} {t u : TS} (h : PSs X e t) (w : ∀ D σ H, u D σ H → t D σ H) : PSs X e u := ⟨fun pins s σ H Q I q => h.run pins s σ H Q I (w _ _ _ q)⟩
end
end L3

set_option Elab.async false
set_option maxRecDepth 100000
set_option linter.all false
namespace L3
open PySem L2
/-! ### rules: names, constants, operators -/
abbrev slot : DSt → Nat → Option D
  | [], _ => none
  | x :: _, 0 => x
  | _ :: r, i + 1 => slot r i
abbrev dset : DSt → Nat → Option D → DSt
  | [], _, _ => []
  | _ :: r, 0, d => d :: r
  | x :: r, i + 1, d => x :: dset r i d
theorem dset_eq : ∀ (δ : DSt) (i : Nat) (d : Option D), dset δ i d = δ.set i d
  | [], _, _ => rfl
  | _ :: _, 0, _ => rfl
  | x :: r, i + 1, d => by simp only [dset, List.set_cons_succ, dset_eq r i d]
theorem RelS.dset {K : PySem.W.Frag} {G : Hp} {v : V} {d : D} {σ : St} {δ : DSt} (h : Rel K G v d) (i : Nat) (r : RelS K G σ δ) : RelS K G (σ.set i (some v)) (L3.dset δ i (some d)) := by
  rw [dset_eq]; exact r.set h i
theorem slot_get : ∀ {δ : DSt} {i : Nat} {d : D}, slot δ i = some d → δ[i]? = some (some d)
  | [], _, _, h => by cases h
  | x :: r, 0, d, h => by simp only [slot] at h; subst h; rfl
  | x :: r, i + 1, d, h => by simpa using slot_get (δ := r) (i := i) h
abbrev dVar (i : Nat) : DTE := fun δ S Q => match slot δ i with | some d => Q d S | none => False
abbrev dC (d : D) : DTE := fun _ S Q => Q d S
abbrev dOp (r : D → D → Sto → DK → Prop) (ta tb : DTE) : DTE := fun δ S Q => ta δ S fun x S1 => tb δ S1 fun y S2 => r x y S2 Q
abbrev dUn (r : D → Sto → DK → Prop) (ta : DTE) : DTE := fun δ S Q => ta δ S fun x S1 => r x S1 Q
abbrev dNil : DTA := fun _ S Q => Q [] S
abbrev dCons (ta : DTE) (tr : DTA) : DTA := fun δ S Q => ta δ S fun x S1 => tr δ S1 fun xs S2 => Q (x :: xs) S2
abbrev dTup (t : DTA) : DTE := fun δ S Q => t δ S fun ds S1 => ds.length ≤ 1000 ∧ Q (.tup ds) S1
abbrev dLst (t : DTA) : DTE := fun δ S Q => t δ S fun ds S1 => ds.length ≤ 1000 ∧ Q (.lst ds) S1
abbrev dLstM (t : DTA) : DTE := fun δ S Q => t δ S fun ds S1 => ds.length ≤ 1000 ∧ ∀ p, S1 p = none → Q (.ref p) (sup S1 p (.lst ds))
abbrev dTest (t : DTE) : DTT := fun δ S Q => t δ S fun x S1 => match x with | .bl b => Q b S1 | _ => False
abbrev dChain (r r' : D → D → Sto → DK → Prop) (ta tb tc : DTE) : DTE := fun δ S Q => ta δ S fun x S1 => tb δ S1 fun y S2 => r x y S2 fun z S3 => match z with
  | .bl k => if k = true then tc δ S3 fun w S4 => r' y w S4 Q else Q (.bl false) S3
  | _ => False
abbrev dAnd (t u : DTT) : DTT := fun δ S Q => t δ S fun c S1 => if c = true then u δ S1 Q else Q false S1
abbrev dOr (t u : DTT) : DTT := fun δ S Q => t δ S fun c S1 => if c = true then Q true S1 else u δ S1 Q
abbrev dNot (t : DTT) : DTT := fun δ S Q => t δ S fun c S1 => Q (!c) S1
abbrev dAndV (ta tb : DTE) : DTE := fun δ S Q => ta δ S fun x S1 => match x with | .bl c => if c = true then tb δ S1 Q else Q (.bl false) S1 | _ => False
abbrev dOrV (ta tb : DTE) : DTE := fun δ S Q => ta δ S fun x S1 => match x with | .bl c => if c = true then Q (.bl true) S1 else tb δ S1 Q | _ => False
abbrev dNotV (ta : DTE) : DTE := fun δ S Q => ta δ S fun x S1 => match x with | .bl c => Q (.bl (!c)) S1 | _ => False
abbrev dIfE (t : DTT) (ta tb : DTE) : DTE := fun δ S Q => t δ S fun c S1 => if c = true then ta δ S1 Q else tb δ S1 Q

/-- a value's operation, lifted -/
def LR2 (K : PySem.W.Frag) (r : R2) (r' : D → D → Sto → DK → Prop) : Prop := ∀ {Γ : KG K} x y dx dy F S H P Q, Sim Γ F S H → Rel K (fz F S H) x dx → Rel K (fz F S H) y dy → r' dx dy S P → Ct Γ F S H P Q → r x y H Q
def LR1 (K : PySem.W.Frag) (r : V → Hp → VK → Prop) (r' : D → Sto → DK → Prop) : Prop := ∀ {Γ : KG K} x dx F S H P Q, Sim Γ F S H → Rel K (fz F S H) x dx → r' dx S P → Ct Γ F S H P Q → r x H Q
def LRL (K : PySem.W.Frag) (r : List V → Hp → VK → Prop) (r' : List D → Sto → DK → Prop) : Prop := ∀ {Γ : KG K} xs ds F S H P Q, Sim Γ F S H → RelL K (fz F S H) xs ds → r' ds S P → Ct Γ F S H P Q → r xs H Q
def LRM (K : PySem.W.Frag) (r : V → List V → Hp → VK → Prop) (r' : D → List D → Sto → DK → Prop) : Prop := ∀ {Γ : KG K} x xs dx ds F S H P Q, Sim Γ F S H → Rel K (fz F S H) x dx → RelL K (fz F S H) xs ds → r' dx ds S P → Ct Γ F S H P Q → r x xs H Q
theorem LR2.or {K : PySem.W.Frag} {r s : R2} {r' s' : D → D → Sto → DK → Prop} (h : LR2 K r r') (g : LR2 K s s') : LR2 K (fun x y H Q => r x y H Q ∨ s x y H Q) (fun x y S Q => r' x y S Q ∨ s' x y S Q) :=
  fun x y dx dy F S H P Q sm rx ry q c => q.elim (fun q => .inl (h x y dx dy F S H P Q sm rx ry q c)) fun q => .inr (g x y dx dy F S H P Q sm rx ry q c)
/-- an operation with its reading by data -/
structure DOp (X : Cx) (f : Value → Value → Sem Value) (r' : D → D → Sto → DK → Prop) : Prop where
  ex : ∃ r, OpR X f r ∧ LR2 X.K r r'
structure DIx (X : Cx) (r' : D → D → Sto → DK → Prop) : Prop where
  ex : ∃ r, IxR X r ∧ LR2 X.K r r'
structure DUn (X : Cx) (f : Value → Sem Value) (r' : D → Sto → DK → Prop) : Prop where
  ex : ∃ r, UnR X f r ∧ LR1 X.K r r'
structure DCall (X : Cx) (f : Value) (r' : List D → Sto → DK → Prop) : Prop where
  ex : ∃ r, CallR X f r ∧ LRL X.K r r'
theorem DOp.or {X : Cx} {f : Value → Value → Sem Value} {r s : D → D → Sto → DK → Prop} (h : DOp X f r) (g : DOp X f s) : DOp X f (fun x y S Q => r x y S Q ∨ s x y S Q) := by
  obtain ⟨a, h1, h2⟩ := h.ex
  obtain ⟨b, g1, g2⟩ := g.ex
  exact ⟨_, h1.or g1, h2.or g2⟩
theorem DOp.imp {X : Cx} {f : Value → Value → Sem Value} {r s : D → D → Sto → DK → Prop} (h : DOp X f r) (w : ∀ x y S Q, s x y S Q → r x y S Q) : DOp X f s := by
  obtain ⟨a, h1, h2⟩ := h.ex
  exact ⟨_, h1, fun x y dx dy F S H P Q sm rx ry q c => h2 x y dx dy F S H P Q sm rx ry (w _ _ _ _ q) c⟩
theorem DIx.or {X : Cx} {r s : D → D → Sto → DK → Prop} (h : DIx X r) (g : DIx X s) : DIx X (fun x y S Q => r x y S Q ∨ s x y S Q) := by
  obtain ⟨a, h1, h2⟩ := h.ex
  obtain ⟨b, g1, g2⟩ := g.ex
  exact ⟨_, h1.or g1, h2.or g2⟩
theorem DIx.imp {X : Cx} {r s : D → D → Sto → DK → Prop} (h : DIx X r) (w : ∀ x y S Q, s x y S Q → r x y S Q) : DIx X s := by
  obtain ⟨a, h1, h2⟩ := h.ex
  exact ⟨_, h1, fun x y dx dy F S H P Q sm rx ry q c => h2 x y dx dy F S H P Q sm rx ry (w _ _ _ _ q) c⟩
theorem DCall.or {X : Cx} {f : Value} {r s : List D → Sto → DK → Prop} (h : DCall X f r) (g : DCall X f s) : DCall X f (fun x S Q => r x S Q ∨ s x S Q) := by
  obtain ⟨a, h1, h2⟩ := h.ex
  obtain ⟨b, g1, g2⟩ := g.ex
  exact ⟨_, h1.or g1, fun xs ds F S H P Q sm rx q c => q.elim (fun q => .inl (h2 xs ds F S H P Q sm rx q c)) fun q => .inr (g2 xs ds F S H P Q sm rx q c)⟩
theorem DCall.imp {X : Cx} {f : Value} {r s : List D → Sto → DK → Prop} (h : DCall X f r) (w : ∀ x S Q, s x S Q → r x S Q) : DCall X f s := by
  obtain ⟨a, h1, h2⟩ := h.ex
  exact ⟨_, h1, fun xs ds F S H P Q sm rx q c => h2 xs ds F S H P Q sm rx (w _ _ _ q) c⟩

section
variable {X : Cx} {Γ : KG X.K} {a b c : Expr} {ta tb tc : DTE} {tA tB' : DTT} {t : DTA} {pos : Pos} {es rest : List Expr} {r r' : D → D → Sto → DK → Prop}
theorem dpe_var (i : Nat) {x : Str} (hN : X.N[i]? = some x := by rfl) (hv : Vis X.env.scope x := by first | exact Or.inl rfl | exact Or.inr (Or.inl rfl) | exact Or.inr (Or.inr rfl)) (hd : (x == ("__debug__" : Str)) = false := by decide)
    (hcd : (x == ("__classdict__" : Str)) = false := by decide) : DPE X Γ (.Name x pos) (dVar i) := PEw (pe_var hN hv hd hcd) fun σ H Q ⟨F, δ, S, P, sm, rs, h, c⟩ => by
  simp only [dVar] at h
  cases e : slot δ i with
  | none => rw [e] at h; exact h.elim
  | some d =>
    rw [e] at h
    obtain ⟨v, h1, h2⟩ := rs.get (slot_get e)
    exact ⟨v, h1, c.use sm h2 h⟩
theorem lf_C {K : PySem.W.Frag} {Γ : KG K} {v : V} {d : D} (hr : ∀ G, Rel K G v d) (σ : St) (H : Hp) (Q : VK) (h : lf Γ (dC d) σ H Q) : tC v σ H Q := by
  obtain ⟨F, δ, S, P, sm, rs, h, c⟩ := h
  exact c.use sm (hr _) h
theorem dpe_int {i : Int} {j} : DPE X Γ (.Constant (.int i) j pos) (dC (.int i)) := PEw pe_int (lf_C fun _ => .int i)
theorem dpe_bl {i : Bool} {j} : DPE X Γ (.Constant (.bool i) j pos) (dC (.bl i)) := PEw pe_bl (lf_C fun _ => .bl i)
theorem dpe_non {j} : DPE X Γ (.Constant .none j pos) (dC .non) := PEw pe_non (lf_C fun _ => .non)
theorem dpe_str {i : Str} {j} : DPE X Γ (.Constant (.str i) j pos) (dC (.str i)) := PEw pe_str (lf_C fun _ => .str i)
/-- a module's constant -/
theorem dpe_glob {x : Str} {v : V} {d : D} {u : Value} (hg : Gl X x) (hm : X.mg x = some u) (q : RelV v u) (hr : ∀ G, Rel X.K G v d) (hd : (x == ("__debug__" : Str)) = false := by decide) : DPE X Γ (.Name x pos) (dC d) :=
  PEw (pe_glob hg hm q hd) (lf_C hr)
theorem dpe_ty {x : Str} {n : String} (hg : Gl X x) (hm : X.mg x = none) (hv : bootBuiltins x = some (.type n)) (hn : x ≠ "__name__" := by decide) (hd : (x == ("__debug__" : Str)) = false := by decide) : DPE X Γ (.Name x pos) (dC (.ty n)) :=
  PEw (pe_bltn (v := .ty n) hg hm hv rfl hn hd) (lf_C fun _ => .ty n)
theorem lf_op {K : PySem.W.Frag} {Γ : KG K} {q : R2} (hl : LR2 K q r) (σ : St) (H : Hp) (Q : VK) (h : lf Γ (dOp r ta tb) σ H Q) : tOp q (lf Γ ta) (lf Γ tb) σ H Q := by
  obtain ⟨F, δ, S, P, sm, rs, h, c⟩ := h
  refine ⟨F, δ, S, _, sm, rs, h, fun dx S1 h1 x H1 g1 rx => ?_⟩
  refine ⟨F, δ, S1, _, g1.sim, rs.mono g1.same, h1, fun dy S2 h2 y H2 g2 ry => ?_⟩
  exact hl x y dx dy F S2 H2 P Q g2.sim (rx.mono g2.same) ry h2 (c.mono (g1.trans g2))
theorem dpe_op {op : Operator} (ho : DOp X (binaryOp op) r) (ha : DPE X Γ a ta) (hb : DPE X Γ b tb) : DPE X Γ (.BinOp a op b pos) (dOp r ta tb) := by
  obtain ⟨q, h1, h2⟩ := ho.ex
  exact PEw (pe_op h1 ha hb) (lf_op h2)
theorem dpe_un {op : UnaryOp} {r : D → Sto → DK → Prop} (ho : DUn X (unaryOp op) r) (ha : DPE X Γ a ta) : DPE X Γ (.UnaryOp op a pos) (dUn r ta) := by
  obtain ⟨q, h1, h2⟩ := ho.ex
  refine PEw (pe_un h1 ha) fun σ H Q ⟨F, δ, S, P, sm, rs, h, c⟩ => ?_
  exact ⟨F, δ, S, _, sm, rs, h, fun dx S1 h1 x H1 g1 rx => h2 x dx F S1 H1 P Q g1.sim rx h1 (c.mono g1)⟩
theorem dpe_cmp {op : CmpOp} (ho : DOp X (compareOp op) r) (ha : DPE X Γ a ta) (hb : DPE X Γ b tb) (hm : behindInMarks op b = false := by first | exact nomark _ | rfl | with_unfolding_all rfl) : DPE X Γ (.Compare a [op] [b] pos) (dOp r ta tb) := by
  obtain ⟨q, h1, h2⟩ := ho.ex
  exact PEw (pe_cmpR h1 ha hb hm) (lf_op h2)
theorem lf_test {K : PySem.W.Frag} {Γ : KG K} {te : DTE} (σ : St) (H : Hp) (Q : Bool → Hp → Prop) (h : lfT Γ (dTest te) σ H Q) : lf Γ te σ H (fun x H' => ∃ k, x = .bl k ∧ Q k H') := by
  obtain ⟨F, δ, S, P, sm, rs, h, c⟩ := h
  refine ⟨F, δ, S, _, sm, rs, h, fun d S1 h1 v H1 g1 r1 => ?_⟩
  cases r1 <;> first | exact h1.elim | skip
  exact ⟨_, rfl, c _ _ h1 _ g1⟩
theorem dpt_cmp {op : CmpOp} (ho : DOp X (compareOp op) r) (ha : DPE X Γ a ta) (hb : DPE X Γ b tb) (hm : behindInMarks op b = false := by first | exact nomark _ | rfl | with_unfolding_all rfl) : DPT X Γ (.Compare a [op] [b] pos) (dTest (dOp r ta tb)) := by
  obtain ⟨q, h1, h2⟩ := ho.ex
  refine PTw (pt_cmpR h1 ha hb hm) fun σ H Q h => ?_
  exact lf_op h2 σ H _ (lf_test σ H Q h)
theorem lf_chain {K : PySem.W.Frag} {Γ : KG K} {q q' : R2} (hl : LR2 K q r) (hl' : LR2 K q' r') (σ : St) (H : Hp) (Q : VK) (h : lf Γ (dChain r r' ta tb tc) σ H Q) : tChain q q' (lf Γ ta) (lf Γ tb) (lf Γ tc) σ H Q := by
  obtain ⟨F, δ, S, P, sm, rs, h, c⟩ := h
  refine ⟨F, δ, S, _, sm, rs, h, fun dx S1 h1 x H1 g1 rx => ?_⟩
  refine ⟨F, δ, S1, _, g1.sim, rs.mono g1.same, h1, fun dy S2 h2 y H2 g2 ry => ?_⟩
  refine hl x y dx dy F S2 H2 _ _ g2.sim (rx.mono g2.same) ry h2 fun dz S3 h3 z H3 g3 rz => ?_
  cases rz <;> first | exact h3.elim | skip
  rename_i k
  refine ⟨k, rfl, ?_⟩
  have h3 : if k = true then tc δ S3 fun w S4 => r' dy w S4 P else P (.bl false) S3 := h3
  cases k with
  | false => exact (c.mono ((g1.trans g2).trans g3)).use g3.sim (.bl false) h3
  | true =>
    refine ⟨F, δ, S3, _, g3.sim, rs.mono ((g1.same.trans g2.same).trans g3.same), h3, fun dw S4 h4 w H4 g4 rw' => ?_⟩
    exact hl' y w dy dw F S4 H4 P Q g4.sim (ry.mono (g3.same.trans g4.same)) rw' h4 (c.mono (((g1.trans g2).trans g3).trans g4))
theorem dpe_chain {op op' : CmpOp} (ho : DOp X (compareOp op) r) (ho' : DOp X (compareOp op') r') (ha : DPE X Γ a ta) (hb : DPE X Γ b tb) (hc : DPE X Γ c tc)
    (hm : lastMarks [op, op'] [b, c] = false := by with_unfolding_all rfl) : DPE X Γ (.Compare a [op, op'] [b, c] pos) (dChain r r' ta tb tc) := by
  obtain ⟨q, h1, h2⟩ := ho.ex
  obtain ⟨q', h1', h2'⟩ := ho'.ex
  exact PEw (pe_chain h1 h1' ha hb hc hm) (lf_chain h2 h2')
theorem dpt_chain {op op' : CmpOp} (ho : DOp X (compareOp op) r) (ho' : DOp X (compareOp op') r') (ha : DPE X Γ a ta) (hb : DPE X Γ b tb) (hc : DPE X Γ c tc)
    (hm : lastMarks [op, op'] [b, c] = false := by with_unfolding_all rfl) : DPT X Γ (.Compare a [op, op'] [b, c] pos) (dTest (dChain r r' ta tb tc)) := by
  obtain ⟨q, h1, h2⟩ := ho.ex
  obtain ⟨q', h1', h2'⟩ := ho'.ex
  refine PTw (pt_chain h1 h1' ha hb hc hm) fun σ H Q h => ?_
  exact lf_chain h2 h2' σ H _ (lf_test σ H Q h)
theorem dpt_val (h : DPE X Γ a ta) (he : ∀ whole, isTrue a X.env whole = (do let v ← whole; standAt a.pos; holding [v] (truthy v)) := by intro _; rfl) : DPT X Γ a (dTest ta) :=
  PTw (pt_val h he) fun σ H Q h => lf_test σ H Q h
theorem dpw_and1 (ha : DPT X Γ a tA) : DPW X Γ (.BoolOp .And [a] pos) tA := pw_and1 ha
theorem dpw_or1 (ha : DPT X Γ a tA) : DPW X Γ (.BoolOp .Or [a] pos) tA := pw_or1 ha
theorem DPW.pt {e : Expr} (h : DPW X Γ e tA) : DPT X Γ e tA := PW.pt h
theorem dpw_and (ha : DPT X Γ a tA) (hb : DPW X Γ (.BoolOp .And (b :: rest) pos) tB') : DPW X Γ (.BoolOp .And (a :: b :: rest) pos) (dAnd tA tB') :=
  PWw (pw_and ha hb) fun σ H Q ⟨F, δ, S, P, sm, rs, h, c⟩ => ⟨F, δ, S, _, sm, rs, h, fun k S1 h1 H1 g1 => by
    cases k with
    | false => exact c _ _ h1 _ g1
    | true => exact ⟨F, δ, S1, P, g1.sim, rs.mono g1.same, h1, c.mono g1⟩⟩
theorem dpw_or (ha : DPT X Γ a tA) (hb : DPW X Γ (.BoolOp .Or (b :: rest) pos) tB') : DPW X Γ (.BoolOp .Or (a :: b :: rest) pos) (dOr tA tB') :=
  PWw (pw_or ha hb) fun σ H Q ⟨F, δ, S, P, sm, rs, h, c⟩ => ⟨F, δ, S, _, sm, rs, h, fun k S1 h1 H1 g1 => by
    cases k with
    | true => exact c _ _ h1 _ g1
    | false => exact ⟨F, δ, S1, P, g1.sim, rs.mono g1.same, h1, c.mono g1⟩⟩
theorem dpt_not (ha : DPT X Γ a tA) : DPT X Γ (.UnaryOp .Not a pos) (dNot tA) :=
  PTw (pt_not ha) fun σ H Q ⟨F, δ, S, P, sm, rs, h, c⟩ => ⟨F, δ, S, _, sm, rs, h, fun k S1 h1 H1 g1 => c _ _ h1 _ g1⟩
theorem dpe_one {op} (h : DPE X Γ a ta) : DPE X Γ (.BoolOp op [a] pos) ta := pe_one h
theorem dpe_and (ha : DPE X Γ a ta) (hb : DPE X Γ (.BoolOp .And (b :: rest) pos) tb) : DPE X Γ (.BoolOp .And (a :: b :: rest) pos) (dAndV ta tb) :=
  PEw (pe_and ha hb) fun σ H Q ⟨F, δ, S, P, sm, rs, h, c⟩ => ⟨F, δ, S, _, sm, rs, h, fun d S1 h1 x H1 g1 rx => by
    cases rx <;> first | exact h1.elim | skip
    rename_i k
    refine ⟨k, rfl, ?_⟩
    cases k with
    | false => exact (c.mono g1).use g1.sim (.bl false) h1
    | true => exact ⟨F, δ, S1, P, g1.sim, rs.mono g1.same, h1, c.mono g1⟩⟩
theorem dpe_or (ha : DPE X Γ a ta) (hb : DPE X Γ (.BoolOp .Or (b :: rest) pos) tb) : DPE X Γ (.BoolOp .Or (a :: b :: rest) pos) (dOrV ta tb) :=
  PEw (pe_or ha hb) fun σ H Q ⟨F, δ, S, P, sm, rs, h, c⟩ => ⟨F, δ, S, _, sm, rs, h, fun d S1 h1 x H1 g1 rx => by
    cases rx <;> first | exact h1.elim | skip
    rename_i k
    refine ⟨k, rfl, ?_⟩
    cases k with
    | true => exact (c.mono g1).use g1.sim (.bl true) h1
    | false => exact ⟨F, δ, S1, P, g1.sim, rs.mono g1.same, h1, c.mono g1⟩⟩
theorem dpe_not (ha : DPE X Γ a ta) : DPE X Γ (.UnaryOp .Not a pos) (dNotV ta) :=
  PEw (pe_not ha) fun σ H Q ⟨F, δ, S, P, sm, rs, h, c⟩ => ⟨F, δ, S, _, sm, rs, h, fun d S1 h1 x H1 g1 rx => by
    cases rx <;> first | exact h1.elim | skip
    exact ⟨_, rfl, (c.mono g1).use g1.sim (.bl _) h1⟩⟩
theorem dpe_ifExp (hc : DPT X Γ c tA) (ha : DPE X Γ a ta) (hb : DPE X Γ b tb) : DPE X Γ (.IfExp c a b pos) (dIfE tA ta tb) :=
  PEw (pe_ifExp hc ha hb) fun σ H Q ⟨F, δ, S, P, sm, rs, h, c⟩ => ⟨F, δ, S, _, sm, rs, h, fun k S1 h1 H1 g1 => by
    cases k with
    | true => exact ⟨F, δ, S1, P, g1.sim, rs.mono g1.same, h1, c.mono g1⟩
    | false => exact ⟨F, δ, S1, P, g1.sim, rs.mono g1.same, h1, c.mono g1⟩⟩
theorem dpa_nil : DPA X Γ [] dNil := PAw pa_nil fun σ H Q ⟨F, δ, S, P, sm, rs, h, c⟩ => c _ _ h _ _ (Go.refl sm) .nil
theorem dpa_cons {e : Expr} {te : DTE} (ha : DPE X Γ e te) (hr : DPA X Γ es t) (hs : starEach (e :: es) X.env = (false, eval e X.env) :: starEach es X.env := by rfl) : DPA X Γ (e :: es) (dCons te t) :=
  PAw (pa_cons ha hr hs) fun σ H Q ⟨F, δ, S, P, sm, rs, h, c⟩ => ⟨F, δ, S, _, sm, rs, h, fun d S1 h1 x H1 g1 rx =>
    ⟨F, δ, S1, _, g1.sim, rs.mono g1.same, h1, fun ds S2 h2 xs H2 g2 rxs => c _ _ h2 _ _ (g1.trans g2) (.cons (rx.mono g2.same) rxs)⟩⟩
theorem fz_newT {K : PySem.W.Frag} {Γ : KG K} {F : Addr → Bool} {S : Sto} {H : Hp} {p : Addr} {xs : List V} {ds : List D} {o : Obj} (sm : Sim Γ F S H) (hp : H p = none) (hd : o.dict = none) (r : RelL K (fz F S H) xs ds) : Rel K (fz F S (upd H p (.frz o (.tup xs)))) (.ref p) (.tup ds) :=
  .tup (.inl ⟨o, fz_new sm hp, hd⟩) (r.mono (same_new hp))
theorem fz_newL {K : PySem.W.Frag} {Γ : KG K} {F : Addr → Bool} {S : Sto} {H : Hp} {p : Addr} {xs : List V} {ds : List D} (sm : Sim Γ F S H) (hp : H p = none) (r : RelL K (fz F S H) xs ds) : Rel K (fz F S (upd H p (.lst xs))) (.ref p) (.lst ds) :=
  .lst (fz_new sm hp) (r.mono (same_new hp))
theorem dpe_tup {x1} (h : DPA X Γ es t) : DPE X Γ (.Tuple es x1 pos) (dTup t) :=
  PEw (pe_tupX h) fun σ H Q ⟨F, δ, S, P, sm, rs, h, c⟩ => ⟨F, δ, S, _, sm, rs, h, fun ds S1 ⟨hn, h1⟩ xs H1 g1 rx => ⟨by rw [rx.length, sizeLine_eq]; omega, fun p o hp hd =>
    (c.mono g1).new g1.sim hp (fz_newT g1.sim hp hd rx) h1⟩⟩
theorem dpe_lst (h : DPA X Γ es t) : DPE X Γ (.List es pos) (dLst t) :=
  PEw (pe_lst h) fun σ H Q ⟨F, δ, S, P, sm, rs, h, c⟩ => ⟨F, δ, S, _, sm, rs, h, fun ds S1 ⟨hn, h1⟩ xs H1 g1 rx => ⟨by rw [rx.length, sizeLine_eq]; omega, fun p hp =>
    (c.mono g1).new g1.sim hp (fz_newL g1.sim hp rx) h1⟩⟩
theorem dpe_lstM (h : DPA X Γ es t) : DPE X Γ (.List es pos) (dLstM t) :=
  PEw (pe_lst h) fun σ H Q ⟨F, δ, S, P, sm, rs, h, c⟩ => ⟨F, δ, S, _, sm, rs, h, fun ds S1 ⟨hn, h1⟩ xs H1 g1 rx => ⟨by rw [rx.length, sizeLine_eq]; omega, fun p hp =>
    (c.mono g1).newM (u := .lst ds) g1.sim hp ⟨xs, rfl, rx⟩ (.ref p) (h1 p (g1.sim.none hp).2)⟩⟩
theorem lf_call {K : PySem.W.Frag} {Γ : KG K} {q : List V → Hp → VK → Prop} {r : List D → Sto → DK → Prop} (hl : LRL K q r) (σ : St) (H : Hp) (Q : VK) (h : lf Γ (fun δ S Q => t δ S fun ds S1 => r ds S1 Q) σ H Q) : tCB q (lfA Γ t) σ H Q := by
  obtain ⟨F, δ, S, P, sm, rs, h, c⟩ := h
  exact ⟨F, δ, S, _, sm, rs, h, fun ds S1 h1 xs H1 g1 rx => hl xs ds F S1 H1 P Q g1.sim rx h1 (c.mono g1)⟩
end
abbrev dCB (r : List D → Sto → DK → Prop) (t : DTA) : DTE := fun δ S Q => t δ S fun ds S1 => r ds S1 Q
section
variable {X : Cx} {Γ : KG X.K} {a b c e : Expr} {ta tb tc te : DTE} {tA tB' : DTT} {t : DTA} {pos p : Pos} {es rest : List Expr} {r r' : D → D → Sto → DK → Prop} {x : Str} {id T : String}
/-- a built-in function by its name -/
theorem dpe_callB {r : List D → Sto → DK → Prop} (hc : DCall X (.builtin id) r) (hg : Gl X x) (hm : X.mg x = none) (hv : bootBuiltins x = some (.builtin id)) (ha : DPA X Γ (e :: es) t) (hn : x ≠ "__name__" := by decide) (hdb : (x == ("__debug__" : Str)) = false := by decide)
    (he : starEach (e :: es) X.env = (false, eval e X.env) :: starEach es X.env := by rfl) (hpl : (backTo pos (starEach es X.env)).any (·.1) = false := by rfl) : DPE X Γ (.Call (.Name x p) (e :: es) [] pos) (dCB r t) := by
  obtain ⟨q, h1, h2⟩ := hc.ex
  exact PEw (pe_callB h1 hg hm hv ha hn hdb he hpl) (lf_call h2)
theorem dpe_callTy {r : List D → Sto → DK → Prop} (hc : DCall X (.type T) r) (hg : Gl X x) (hm : X.mg x = none) (hv : bootBuiltins x = some (.type T)) (ha : DPA X Γ (e :: es) t) (hn : x ≠ "__name__" := by decide) (hdb : (x == ("__debug__" : Str)) = false := by decide)
    (he : starEach (e :: es) X.env = (false, eval e X.env) :: starEach es X.env := by rfl) (hpl : (backTo pos (starEach es X.env)).any (·.1) = false := by rfl) : DPE X Γ (.Call (.Name x p) (e :: es) [] pos) (dCB r t) := by
  obtain ⟨q, h1, h2⟩ := hc.ex
  exact PEw (pe_callTy h1 hg hm hv ha hn hdb he hpl) (lf_call h2)
/-- a subscript -/
theorem dpe_ix (ho : DIx X r) (ha : DPE X Γ a ta) (hb : DPE X Γ b tb) (hs : PlainIx b := by exact fun _ _ => rfl) : DPE X Γ (.Subscript a b pos) (dOp r ta tb) := by
  obtain ⟨q, h1, h2⟩ := ho.ex
  exact PEw (pe_ix h1 ha hb hs) (lf_op h2)
end
/-! ### slices -/
abbrev DTO := DSt → Sto → (Option Int → Sto → Prop) → Prop
def CtO {K : PySem.W.Frag} (Γ : KG K) (F : Addr → Bool) (S : Sto) (H : Hp) (P : Option Int → Sto → Prop) (Q : Option Int → Hp → Prop) : Prop := ∀ b S', P b S' → ∀ H', Go Γ F S H S' H' → Q b H'
def lfO {K : PySem.W.Frag} (Γ : KG K) (t : DTO) : TO := fun σ H Q => ∃ F δ S P, Sim Γ F S H ∧ RelS K (fz F S H) σ δ ∧ t δ S P ∧ CtO Γ F S H P Q
def DPO (X : Cx) (Γ : KG X.K) (e : Option Expr) (t : DTO) : Prop := PO X e (lfO Γ t)
abbrev dNoPart : DTO := fun _ S Q => Q none S
abbrev dPart (t : DTE) : DTO := fun δ S Q => t δ S fun x S1 => match x with | .int i => Q (some i) S1 | _ => False
abbrev dSl (r : D → Option Int → Option Int → Sto → DK → Prop) (te : DTE) (tl th : DTO) : DTE := fun δ S Q => te δ S fun x S1 => tl δ S1 fun l S2 => th δ S2 fun u S3 => r x l u S3 Q
structure DSlR (X : Cx) (r' : D → Option Int → Option Int → Sto → DK → Prop) : Prop where
  ex : ∃ r, SlR X r ∧ ∀ {Γ : KG X.K} x dx lo hi F S H P Q, Sim Γ F S H → Rel X.K (fz F S H) x dx → r' dx lo hi S P → Ct Γ F S H P Q → r x lo hi H Q
theorem DSlR.or {X : Cx} {r s : D → Option Int → Option Int → Sto → DK → Prop} (h : DSlR X r) (g : DSlR X s) : DSlR X (fun x l u S Q => r x l u S Q ∨ s x l u S Q) := by
  obtain ⟨a, h1, h2⟩ := h.ex
  obtain ⟨b, g1, g2⟩ := g.ex
  exact ⟨_, h1.or g1, fun x dx lo hi F S H P Q sm rx q c => q.elim (fun q => .inl (h2 x dx lo hi F S H P Q sm rx q c)) fun q => .inr (g2 x dx lo hi F S H P Q sm rx q c)⟩
theorem DSlR.imp {X : Cx} {r s : D → Option Int → Option Int → Sto → DK → Prop} (h : DSlR X r) (w : ∀ x l u S Q, s x l u S Q → r x l u S Q) : DSlR X s := by
  obtain ⟨a, h1, h2⟩ := h.ex
  exact ⟨_, h1, fun x dx lo hi F S H P Q sm rx q c => h2 x dx lo hi F S H P Q sm rx (w _ _ _ _ _ q) c⟩
section
variable {X : Cx} {Γ : KG X.K} {a b c e : Expr} {ta tb tc te : DTE} {tl th : DTO} {pos p2 : Pos} {lo hi : Option Expr}
theorem dpo_none : DPO X Γ none dNoPart := ⟨fun pins s σ H Q I ⟨F, δ, S, P, sm, rs, h, c⟩ => po_none.run pins s σ H Q I (c _ _ h _ (Go.refl sm))⟩
theorem dpo_some (h : DPE X Γ e te) : DPO X Γ (some e) (dPart te) := ⟨fun pins s σ H Q I ⟨F, δ, S, P, sm, rs, hh, c⟩ => (po_some h).run pins s σ H Q I (by
  refine ⟨F, δ, S, _, sm, rs, hh, fun d S1 h1 x H1 g1 rx => ?_⟩
  cases rx <;> first | exact h1.elim | skip
  exact ⟨_, rfl, c _ _ h1 _ g1⟩)⟩
theorem dpe_slice {r : D → Option Int → Option Int → Sto → DK → Prop} (hr : DSlR X r) (he : DPE X Γ e te) (hl : DPO X Γ lo tl) (hu : DPO X Γ hi th) : DPE X Γ (.Subscript e (.Slice lo hi none p2) pos) (dSl r te tl th) := by
  obtain ⟨q, h1, h2⟩ := hr.ex
  refine PEw (pe_slice h1 he hl hu) fun σ H Q ⟨F, δ, S, P, sm, rs, h, c⟩ => ?_
  refine ⟨F, δ, S, _, sm, rs, h, fun dx S1 k1 x H1 g1 rx => ?_⟩
  refine ⟨F, δ, S1, _, g1.sim, rs.mono g1.same, k1, fun l S2 k2 H2 g2 => ?_⟩
  refine ⟨F, δ, S2, _, g2.sim, rs.mono (g1.same.trans g2.same), k2, fun u S3 k3 H3 g3 => ?_⟩
  exact h2 x dx l u F S3 H3 P Q g3.sim (rx.mono (g2.same.trans g3.same)) k3 (c.mono ((g1.trans g2).trans g3))
end
end L3

set_option Elab.async false
set_option maxRecDepth 100000
set_option linter.all false
set_option maxHeartbeats 2000000
namespace L3
open PySem L2
/-! ### operations on data -/
mutual
def toP : D → PyData
  | .non => .none
  | .bl b => .bool b
  | .int i => .int i
  | .str x => .str x
  | .tup ds => .tuple (toPs ds)
  | .lst ds => .list (toPs ds)
  | .ro ds => .list (toPs ds)
  | .key ds => .tuple (toPs ds)
  | .ref _ => .none
  | .ty _ => .none
def toPs : List D → List PyData
  | [] => []
  | d :: ds => toP d :: toPs ds
end
mutual
/-- data that == may be asked of -/
def okE : D → Bool
  | .non => true
  | .bl _ => true
  | .int _ => true
  | .str x => PyData.canLay0 (.str x)
  | .tup ds => okEs ds
  | .lst ds => okEs ds
  | .ro ds => okEs ds
  | .key ds => okEs ds
  | .ref _ => false
  | .ty _ => false
def okEs : List D → Bool
  | [] => true
  | d :: ds => okE d && okEs ds
end
mutual
def dep : D → Nat
  | .tup ds => deps ds + 1
  | .lst ds => deps ds + 1
  | .ro ds => deps ds + 1
  | .key ds => deps ds + 1
  | _ => 0
def deps : List D → Nat
  | [] => 0
  | d :: ds => max (dep d) (deps ds)
end
def eqv (x y : D) : Bool := PyData.eqv (toP x) (toP y)
mutual
theorem okE_lay : ∀ d : D, okE d = true → (toP d).canLay0 = true
  | .non, _ => by simp only [toP, PyData.canLay0]
  | .bl _, _ => by simp only [toP, PyData.canLay0]
  | .int _, _ => by simp only [toP, PyData.canLay0]
  | .str x, h => by simpa only [okE, toP] using h
  | .tup ds, h => by simp only [okE] at h; simp only [toP, PyData.canLay0]; exact okEs_lay ds h
  | .lst ds, h => by simp only [okE] at h; simp only [toP, PyData.canLay0]; exact okEs_lay ds h
  | .ro ds, h => by simp only [okE] at h; simp only [toP, PyData.canLay0]; exact okEs_lay ds h
  | .key ds, h => by simp only [okE] at h; simp only [toP, PyData.canLay0]; exact okEs_lay ds h
  | .ref _, h => by simp [okE] at h
  | .ty _, h => by simp [okE] at h
theorem okEs_lay : ∀ ds : List D, okEs ds = true → PyData.canLayAll0 (toPs ds) = true
  | [], _ => by simp only [toPs, PyData.canLayAll0]
  | d :: ds, h => by
    simp only [okEs, Bool.and_eq_true] at h
    simp only [toPs, PyData.canLayAll0, okE_lay d h.1, okEs_lay ds h.2, Bool.and_self]
end
mutual
theorem dep_toP : ∀ d : D, (toP d).depth = dep d
  | .non => by simp only [toP, PyData.depth, dep]
  | .bl _ => by simp only [toP, PyData.depth, dep]
  | .int _ => by simp only [toP, PyData.depth, dep]
  | .str x => by simp only [toP, PyData.depth, dep]
  | .tup ds => by simp only [toP, PyData.depth, dep, dep_toPs ds]
  | .lst ds => by simp only [toP, PyData.depth, dep, dep_toPs ds]
  | .ro ds => by simp only [toP, PyData.depth, dep, dep_toPs ds]
  | .key ds => by simp only [toP, PyData.depth, dep, dep_toPs ds]
  | .ref _ => by simp only [toP, PyData.depth, dep]
  | .ty _ => by simp only [toP, PyData.depth, dep]
theorem dep_toPs : ∀ ds : List D, PyData.depthAll (toPs ds) = deps ds
  | [] => by simp only [toPs, PyData.depthAll, deps]
  | d :: ds => by simp only [toPs, PyData.depthAll, deps, dep_toP d, dep_toPs ds]
end
theorem shaped_of {d : D} (h : okE d = true) (z : dep d ≤ 64) : SeqAt.shaped (toP d) = true := by
  unfold SeqAt.shaped
  rw [okE_lay d h, dep_toP]
  simpa using z
section
variable {K : PySem.W.Frag} {Γ : KG K} {G : Hp}
mutual
theorem Rel.dp : ∀ {v : V} {d : D}, Rel K G v d → okE d = true → Dp K G v (toP d)
  | _, _, .non, _ => by simp only [toP]; exact .non
  | _, _, .bl b, _ => by simp only [toP]; exact .bl b
  | _, _, .int i, _ => by simp only [toP]; exact .int i
  | _, _, .str x, _ => by simp only [toP]; exact .str x
  | _, _, .ref _, h => by simp [okE] at h
  | _, _, .ty _, h => by simp [okE] at h
  | _, _, .tup h r, k => by simp only [toP]; exact .tup h.t (RelL.dp r (by simpa only [okE] using k))
  | _, _, .lst h r, k => by simp only [toP]; exact .lst (.of h) (RelL.dp r (by simpa only [okE] using k))
  | _, _, .ro h r, k => by simp only [toP]; exact .lst h (RelL.dp r (by simpa only [okE] using k))
  | _, _, .key h r, k => by simp only [toP]; exact .tup (.of h) (RelL.dp r (by simpa only [okE] using k))
theorem RelL.dp : ∀ {vs : List V} {ds : List D}, RelL K G vs ds → okEs ds = true → DpAll K G vs (toPs ds)
  | _, _, .nil, _ => by simp only [toPs]; exact .nil
  | _, _, .cons r t, k => by
    simp only [okEs, Bool.and_eq_true] at k
    simp only [toPs]
    exact .cons (Rel.dp r k.1) (RelL.dp t k.2)
end
end
/-- == by data -/
def vEq : D → D → Sto → DK → Prop
  | .int i, .int j, S, Q => Q (.bl (decide (i = j))) S
  | .str i, .str j, S, Q => Q (.bl (decide (i = j))) S
  | .bl i, .bl j, S, Q => Q (.bl (decide (i = j))) S
  | x, y, S, Q => okE x = true ∧ okE y = true ∧ dep x ≤ 64 ∧ dep y ≤ 64 ∧ Q (.bl (eqv x y)) S
def vNe : D → D → Sto → DK → Prop
  | .int i, .int j, S, Q => Q (.bl (!decide (i = j))) S
  | .str i, .str j, S, Q => Q (.bl (!decide (i = j))) S
  | .bl i, .bl j, S, Q => Q (.bl (!decide (i = j))) S
  | x, y, S, Q => okE x = true ∧ okE y = true ∧ dep x ≤ 64 ∧ dep y ≤ 64 ∧ Q (.bl (!eqv x y)) S
def rEqA (K : PySem.W.Frag) : R2 := fun x y H Q => rEq x y H Q ∨ rEqD K x y H Q
def rNeA (K : PySem.W.Frag) : R2 := fun x y H Q => rNe x y H Q ∨ rNeD K x y H Q
section
variable {X : Cx} {Γ : KG X.K}
theorem dop_eq (hu : X.A.units + 64 < cLine) : DOp X (compareOp .Eq) vEq := by
  refine ⟨_, op_eq.or (op_eqD hu), fun x y dx dy F S H P Q sm rx ry h c => ?_⟩
  have fin : okE dx = true ∧ okE dy = true ∧ dep dx ≤ 64 ∧ dep dy ≤ 64 ∧ P (.bl (eqv dx dy)) S → rEq x y H Q ∨ rEqD X.K x y H Q := fun ⟨h1, h2, h3, h4, h5⟩ =>
    .inr ⟨_, _, (rx.mono (fz_same F S H)).dp h1, (ry.mono (fz_same F S H)).dp h2, shaped_of h1 h3, shaped_of h2 h4, c.use sm (.bl _) h5⟩
  cases dx <;> cases dy <;> first
    | exact fin h
    | (cases rx; cases ry
       refine .inl ⟨rfl, ?_⟩
       refine c.use sm ?_ h
       simp only [reduceCtorEq, V.int.injEq, V.str.injEq, V.bl.injEq]
       exact .bl _)
theorem dop_ne (hu : X.A.units + 64 < cLine) : DOp X (compareOp .NotEq) vNe := by
  refine ⟨_, op_ne.or (op_neD hu), fun x y dx dy F S H P Q sm rx ry h c => ?_⟩
  have fin : okE dx = true ∧ okE dy = true ∧ dep dx ≤ 64 ∧ dep dy ≤ 64 ∧ P (.bl (!eqv dx dy)) S → rNe x y H Q ∨ rNeD X.K x y H Q := fun ⟨h1, h2, h3, h4, h5⟩ =>
    .inr ⟨_, _, (rx.mono (fz_same F S H)).dp h1, (ry.mono (fz_same F S H)).dp h2, shaped_of h1 h3, shaped_of h2 h4, c.use sm (.bl _) h5⟩
  cases dx <;> cases dy <;> first
    | exact fin h
    | (cases rx; cases ry
       refine .inl ⟨rfl, ?_⟩
       refine c.use sm ?_ h
       simp only [reduceCtorEq, V.int.injEq, V.str.injEq, V.bl.injEq]
       exact .bl _)
end
/-! ints -/
abbrev vII (C : Int → Int → Prop) (g : Int → Int → D) : D → D → Sto → DK → Prop
  | .int i, .int j, S, Q => C i j ∧ Q (g i j) S
  | _, _, _, _ => False
abbrev vII0 (g : Int → Int → D) : D → D → Sto → DK → Prop
  | .int i, .int j, S, Q => Q (g i j) S
  | _, _, _, _ => False
section
variable {X : Cx} {Γ : KG X.K} {f : Value → Value → Sem Value}
theorem dop_II {C : Int → Int → Prop} {g : Int → Int → V} {g' : Int → Int → D} (h : OpR X f (rI C g)) (hr : ∀ G i j, Rel X.K G (g i j) (g' i j)) : DOp X f (vII C g') :=
  ⟨_, h, fun x y dx dy F S H P Q sm rx ry q c => by
    cases dx <;> first | exact q.elim | skip
    cases dy <;> first | exact q.elim | skip
    cases rx; cases ry
    exact ⟨_, _, rfl, rfl, q.1, c.use sm (hr _ _ _) q.2⟩⟩
theorem dop_II0 {g : Int → Int → V} {g' : Int → Int → D} (h : OpR X f (rI0 g)) (hr : ∀ G i j, Rel X.K G (g i j) (g' i j)) : DOp X f (vII0 g') :=
  ⟨_, h, fun x y dx dy F S H P Q sm rx ry q c => by
    cases dx <;> first | exact q.elim | skip
    cases dy <;> first | exact q.elim | skip
    cases rx; cases ry
    exact ⟨_, _, rfl, rfl, c.use sm (hr _ _ _) q⟩⟩
end
def vLt : D → D → Sto → DK → Prop := vII0 fun i j => .bl (decide (i < j))
def vLe : D → D → Sto → DK → Prop := vII0 fun i j => .bl (decide (i ≤ j))
def vGt : D → D → Sto → DK → Prop := vII0 fun i j => .bl (decide (j < i))
def vGe : D → D → Sto → DK → Prop := vII0 fun i j => .bl (decide (j ≤ i))
def vSub : D → D → Sto → DK → Prop := vII0 fun i j => .int (i - j)
def vMod : D → D → Sto → DK → Prop := vII (fun _ j => 0 < j) fun i j => .int (i % j)
def vDiv : D → D → Sto → DK → Prop := vII CDiv fun i j => .int (i / j)
def vPow : D → D → Sto → DK → Prop := vII CPow fun i j => .int (i ^ j.toNat)
def vShl : D → D → Sto → DK → Prop := vII CPow fun i j => .int (i * 2 ^ j.toNat)
section
variable {X : Cx} {Γ : KG X.K}
theorem dop_lt : DOp X (compareOp .Lt) vLt := dop_II0 op_lt fun _ _ _ => .bl _
theorem dop_le : DOp X (compareOp .LtE) vLe := dop_II0 op_le fun _ _ _ => .bl _
theorem dop_gt : DOp X (compareOp .Gt) vGt := dop_II0 op_gt fun _ _ _ => .bl _
theorem dop_ge : DOp X (compareOp .GtE) vGe := dop_II0 op_ge fun _ _ _ => .bl _
theorem dop_sub : DOp X (binaryOp .Sub) vSub := dop_II0 op_sub fun _ _ _ => .int _
theorem dop_mod : DOp X (binaryOp .Mod) vMod := dop_II op_mod fun _ _ _ => .int _
theorem dop_div : DOp X (binaryOp .FloorDiv) vDiv := dop_II op_fdiv fun _ _ _ => .int _
theorem dop_pow : DOp X (binaryOp .Pow) vPow := dop_II op_pow fun _ _ _ => .int _
theorem dop_shl : DOp X (binaryOp .LShift) vShl := dop_II op_shl fun _ _ _ => .int _
end
/-- a product: of ints (one small, or together below a million bits), of a tuple and a number -/
def vMul : D → D → Sto → DK → Prop
  | .int i, .int j, S, Q => (CMul i j ∨ CMulW i j) ∧ Q (.int (i * j)) S
  | .tup ds, .int k, S, Q => -1000 ≤ k ∧ k ≤ 1000 ∧ ds.length ≤ 1000 ∧ Q (.tup (List.replicate k.toNat ds).flatten) S
  | .str z, .int k, S, Q => -(2 ^ 40) ≤ k ∧ k ≤ 2 ^ 20 ∧ z.length ≤ 2 ^ 20 ∧ z.length * k.toNat ≤ 1000000 ∧ Q (.str (repS z k)) S
  | .lst ds, .int k, S, Q => -(2 ^ 63) ≤ k ∧ k < 2 ^ 63 ∧ ds.length * k.toNat ≤ sizeLine ∧ Q (.lst (List.replicate k.toNat ds).flatten) S
  | _, _, _, _ => False
theorem RelL.rep {K : PySem.W.Frag} {G : Hp} {xs : List V} {ds : List D} (r : RelL K G xs ds) : ∀ n : Nat, RelL K G (List.replicate n xs).flatten (List.replicate n ds).flatten
  | 0 => .nil
  | n + 1 => by
    rw [List.replicate_succ, List.replicate_succ, List.flatten_cons, List.flatten_cons]
    exact r.append (RelL.rep r n)
section
variable {X : Cx} {Γ : KG X.K}
theorem dop_mul : DOp X (binaryOp .Mult) vMul := by
  refine ⟨_, (op_mul.or op_mulW).or ((op_repX.or op_rep).or op_mulS), fun x y dx dy F S H P Q sm rx ry q c => ?_⟩
  cases dx <;> first | exact (q : False).elim | skip
  all_goals cases dy <;> first | exact (q : False).elim | skip
  · cases rx; cases ry
    obtain ⟨h1, h2⟩ := q
    rcases h1 with h1 | h1
    · exact .inl (.inl ⟨_, _, rfl, rfl, h1, c.use sm (.int _) h2⟩)
    · exact .inl (.inr ⟨_, _, rfl, rfl, h1, c.use sm (.int _) h2⟩)
  · cases rx; cases ry
    obtain ⟨h1, h2, h3, h4, h5⟩ := q
    exact .inr (.inr ⟨_, _, rfl, rfl, h1, h2, h3, h4, c.use sm (.str _) h5⟩)
  · cases ry
    cases rx with
    | tup hs rl =>
    obtain ⟨h2, h3, h4, h5⟩ := q
    refine .inr (.inl (.inl ⟨_, _, _, rfl, rfl, sqT_mono (fz_same F S H) hs, h2, h3, by rw [rl.length]; exact h4, fun z => ?_, fun z p o hp hd => c.new sm hp (fz_newT sm hp hd (rl.rep _)) h5⟩))
    rename_i ds k a xs
    refine c.use sm (d := .tup (List.replicate k.toNat ds).flatten) ?_ h5
    have e : (List.replicate k.toNat ds).flatten = ds := by
      rcases z with z | z
      · subst z
        cases rl
        simp
      · subst z
        simp
    rw [e]
    exact .tup hs rl
  · cases ry
    cases rx with
    | lst hs rl =>
    obtain ⟨h2, h3, h4, h5⟩ := q
    exact .inr (.inl (.inr ⟨_, _, _, rfl, rfl, fz_same F S H _ _ hs, h2, h3, by rw [rl.length]; exact h4, fun p hp => c.new sm hp (fz_newL sm hp (rl.rep _)) h5⟩))
end
/-- a sum -/
def vAdd : D → D → Sto → DK → Prop
  | .int i, .int j, S, Q => Q (.int (i + j)) S
  | .str a, .str b, S, Q => a.length + b.length ≤ sizeLine ∧ Q (.str (a ++ b)) S
  | .tup a, .tup b, S, Q => a.length + b.length ≤ sizeLine ∧ Q (.tup (a ++ b)) S
  | .lst a, .lst b, S, Q => a.length + b.length ≤ sizeLine ∧ Q (.lst (a ++ b)) S
  | .ref a, .lst b, S, Q => match S a with
    | some (.lst ds) => ds.length + b.length ≤ sizeLine ∧ Q (.lst (ds ++ b)) S
    | _ => False
  | _, _, _, _ => False
theorem Sim.lst {K : PySem.W.Frag} {Γ : KG K} {F : Addr → Bool} {S : Sto} {H : Hp} {a : Addr} {ds : List D} (sm : Sim Γ F S H) (h : S a = some (.lst ds)) : ∃ vs, H a = some (.lst vs) ∧ RelL K (fz F S H) vs ds := (sm.at_ a _ h).2
section
variable {X : Cx} {Γ : KG X.K}
theorem dop_add : DOp X (binaryOp .Add) vAdd := by
  refine ⟨_, (op_add.or op_add_str).or (op_catX.or op_cat), fun x y dx dy F S H P Q sm rx ry q c => ?_⟩
  cases dx <;> first | exact (q : False).elim | skip
  all_goals cases dy <;> first | exact (q : False).elim | skip
  · cases rx; cases ry
    exact .inl (.inl ⟨_, _, rfl, rfl, c.use sm (.int _) q⟩)
  · cases rx; cases ry
    exact .inl (.inr ⟨_, _, rfl, rfl, q.1, c.use sm (.str _) q.2⟩)
  · cases rx with
    | tup hs rl =>
    cases ry with
    | tup hs2 rl2 =>
    obtain ⟨h1, h2⟩ := q
    refine .inr (.inl ⟨_, _, _, _, rfl, rfl, sqT_mono (fz_same F S H) hs, sqT_mono (fz_same F S H) hs2, by rw [rl.length, rl2.length]; exact h1, fun z => ?_, fun _ z => ?_, fun _ _ p o hp hd => ?_⟩)
    · subst z
      cases rl
      exact c.use sm (.tup hs2 rl2) h2
    · subst z
      cases rl2
      exact c.use sm (.tup hs (by rw [List.append_nil]; exact rl)) h2
    · exact c.new sm hp (fz_newT sm hp hd (rl.append rl2)) h2
  · cases rx with
    | lst hs rl =>
    cases ry with
    | lst hs2 rl2 =>
    obtain ⟨h1, h2⟩ := q
    exact .inr (.inr ⟨_, _, _, _, rfl, rfl, fz_same F S H _ _ hs, fz_same F S H _ _ hs2, by rw [rl.length, rl2.length]; exact h1, fun p hp => c.new sm hp (fz_newL sm hp (rl.append rl2)) h2⟩)
  · cases rx
    cases ry with
    | lst hs2 rl2 =>
    rename_i a ds _ _
    simp only [vAdd] at q
    split at q
    · rename_i ds' e
      obtain ⟨vs, e1, r1⟩ := sm.lst e
      obtain ⟨h1, h2⟩ := q
      exact .inr (.inr ⟨_, _, _, _, rfl, rfl, e1, fz_same F S H _ _ hs2, by rw [r1.length, rl2.length]; exact h1, fun p hp => c.new sm hp (fz_newL sm hp (r1.append rl2)) h2⟩)
    · exact q.elim
end
/-! is None -/
def isN : D → Bool
  | .non => true
  | _ => false
theorem Rel.isN {K : PySem.W.Frag} {G : Hp} {v : V} {d : D} (r : Rel K G v d) : decide (v = .non) = isN d := by
  cases r <;> simp [L3.isN]
def vIs : D → D → Sto → DK → Prop
  | x, .non, S, Q => Q (.bl (isN x)) S
  | _, _, _, _ => False
def vIsNot : D → D → Sto → DK → Prop
  | x, .non, S, Q => Q (.bl (!isN x)) S
  | _, _, _, _ => False
section
variable {X : Cx} {Γ : KG X.K}
theorem dop_is : DOp X (compareOp .Is) vIs := by
  refine ⟨_, op_isN, fun x y dx dy F S H P Q sm rx ry q c => ?_⟩
  cases ry <;> first | exact (q : False).elim | skip
  exact ⟨rfl, c.use sm (d := .bl (isN dx)) (by rw [rx.isN]; exact .bl _) q⟩
theorem dop_isnot : DOp X (compareOp .IsNot) vIsNot := by
  refine ⟨_, op_notN, fun x y dx dy F S H P Q sm rx ry q c => ?_⟩
  cases ry <;> first | exact (q : False).elim | skip
  exact ⟨rfl, c.use sm (d := .bl (!isN dx)) (by rw [rx.isN]; exact .bl _) q⟩
def vNeg : D → Sto → DK → Prop
  | .int i, S, Q => Q (.int (-i)) S
  | _, _, _ => False
theorem dun_neg : DUn X (unaryOp .USub) vNeg := by
  refine ⟨_, un_neg, fun x dx F S H P Q sm rx q c => ?_⟩
  cases rx <;> first | exact (q : False).elim | skip
  exact ⟨_, rfl, c.use sm (.int _) q⟩
end
/-! subscripts -/
def vIx : D → D → Sto → DK → Prop
  | .tup ds, .int i, S, Q => match atI ds i with | some d => Q d S | none => False
  | .lst ds, .int i, S, Q => match atI ds i with | some d => Q d S | none => False
  | .ro ds, .int i, S, Q => match atI ds i with | some d => Q d S | none => False
  | .key ds, .int i, S, Q => match atI ds i with | some d => Q d S | none => False
  | .str z, .int i, S, Q => z.length ≤ sizeLine ∧ match atI z.cps.toList i with | some c => Q (.str ⟨#[c]⟩) S | none => False
  | .ref a, .int i, S, Q => match S a with
    | some (.lst ds) => match atI ds i with | some d => Q d S | none => False
    | _ => False
  | _, _, _, _ => False
theorem RelL.atI {K : PySem.W.Frag} {G : Hp} {xs : List V} {ds : List D} {i : Int} {d : D} (r : RelL K G xs ds) (h : L2.atI ds i = some d) : ∃ v, L2.atI xs i = some v ∧ Rel K G v d := by
  unfold L2.atI at h ⊢
  rw [r.length]
  cases e : ixN ds.length i with
  | none => rw [e] at h; cases h
  | some j =>
    rw [e] at h
    exact r.get h
section
variable {X : Cx} {Γ : KG X.K}
theorem dix : DIx X vIx := by
  refine ⟨_, ix_seq, fun x y dx dy F S H P Q sm rx ry q c => ?_⟩
  cases dx <;> first | exact (q : False).elim | skip
  all_goals cases dy <;> first | exact (q : False).elim | skip
  all_goals cases ry
  · cases rx
    obtain ⟨h1, h2⟩ := q
    split at h2
    · rename_i e
      exact .inr (.inr ⟨_, _, _, rfl, rfl, h1, e, c.use sm (.str _) h2⟩)
    · exact h2.elim
  · cases rx with
    | tup hs rl =>
    simp only [vIx] at q
    split at q
    · rename_i e
      obtain ⟨v, e1, r1⟩ := rl.atI e
      exact .inr (.inl ⟨_, _, _, _, rfl, rfl, sqT_mono (fz_same F S H) hs, e1, c.use sm r1 q⟩)
    · exact q.elim
  · cases rx with
    | lst hs rl =>
    simp only [vIx] at q
    split at q
    · rename_i e
      obtain ⟨v, e1, r1⟩ := rl.atI e
      exact .inl ⟨_, _, _, _, rfl, rfl, .of (fz_same F S H _ _ hs), e1, c.use sm r1 q⟩
    · exact q.elim
  · cases rx with
    | ro hs rl =>
    simp only [vIx] at q
    split at q
    · rename_i e
      obtain ⟨v, e1, r1⟩ := rl.atI e
      exact .inl ⟨_, _, _, _, rfl, rfl, (fz_same F S H).seq hs, e1, c.use sm r1 q⟩
    · exact q.elim
  · cases rx
    simp only [vIx] at q
    split at q
    · rename_i e
      obtain ⟨vs, e1, r1⟩ := sm.lst e
      split at q
      · rename_i e2
        obtain ⟨v, e3, r3⟩ := r1.atI e2
        exact .inl ⟨_, _, _, _, rfl, rfl, .of e1, e3, c.use sm r3 q⟩
      · exact q.elim
    · exact q.elim
  · cases rx with
    | key hs rl =>
    simp only [vIx] at q
    split at q
    · rename_i e
      obtain ⟨v, e1, r1⟩ := rl.atI e
      exact .inr (.inl ⟨_, _, _, _, rfl, rfl, .of (fz_same F S H _ _ hs), e1, c.use sm r1 q⟩)
    · exact q.elim
end
/-! slices -/
def cut {α : Type} (xs : List α) (lo hi : Option Int) : List α := (xs.drop (HT.sIx xs.length 0 lo)).take (HT.sIx xs.length xs.length hi - HT.sIx xs.length 0 lo)
theorem RelL.cut {K : PySem.W.Frag} {G : Hp} {xs : List V} {ds : List D} (r : RelL K G xs ds) (lo hi : Option Int) : RelL K G (cutV xs lo hi) (L3.cut ds lo hi) := by
  unfold cutV L3.cut
  rw [r.length]
  exact (r.drop _).take _
theorem cut_whole {α : Type} {xs : List α} {lo hi : Option Int} (h : HT.sIx xs.length 0 lo = 0 ∧ HT.sIx xs.length xs.length hi = xs.length) : cut xs lo hi = xs := by
  unfold cut
  rw [h.1, h.2]
  simp
def vSl : D → Option Int → Option Int → Sto → DK → Prop
  | .tup ds, lo, hi, S, Q => Q (.tup (cut ds lo hi)) S
  | .lst ds, lo, hi, S, Q => Q (.lst (cut ds lo hi)) S
  | .ro ds, lo, hi, S, Q => Q (.lst (cut ds lo hi)) S
  | .str z, lo, hi, S, Q => z.length ≤ sizeLine ∧ Q (.str (cutS z lo hi)) S
  | .ref a, lo, hi, S, Q => match S a with
    | some (.lst ds) => Q (.lst (cut ds lo hi)) S
    | _ => False
  | _, _, _, _, _ => False
section
variable {X : Cx} {Γ : KG X.K}
theorem dsl : DSlR X vSl := by
  refine ⟨_, (sl_tupX.or sl_list).or sl_str, fun x dx lo hi F S H P Q sm rx q c => ?_⟩
  cases rx <;> first | exact (q : False).elim | skip
  · exact .inr ⟨_, rfl, q.1, c.use sm (.str _) q.2⟩
  · simp only [vSl] at q
    split at q
    · rename_i e
      obtain ⟨vs, e1, r1⟩ := sm.lst e
      exact .inl (.inr ⟨_, _, rfl, .of e1, fun p hp => c.new sm hp (fz_newL sm hp (r1.cut lo hi)) q⟩)
    · exact q.elim
  · rename_i hs rl
    refine .inl (.inl ⟨_, _, rfl, sqT_mono (fz_same F S H) hs, fun z => ?_, fun _ p o hp hd => c.new sm hp (fz_newT sm hp hd (rl.cut lo hi)) q⟩)
    have e := cut_whole z
    have z' := z
    rw [rl.length] at z'
    have q : P (.tup (cut _ lo hi)) S := q
    rw [cut_whole z'] at q
    exact c.use sm (.tup hs rl) q
  · rename_i hs rl
    exact .inl (.inr ⟨_, _, rfl, .of (fz_same F S H _ _ hs), fun p hp => c.new sm hp (fz_newL sm hp (rl.cut lo hi)) q⟩)
  · rename_i hs rl
    exact .inl (.inr ⟨_, _, rfl, (fz_same F S H).seq hs, fun p hp => c.new sm hp (fz_newL sm hp (rl.cut lo hi)) q⟩)
end
/-! built-in functions -/
def vLen : List D → Sto → DK → Prop
  | [.str z], S, Q => z.length ≤ sizeLine ∧ Q (.int z.length) S
  | [.tup ds], S, Q => Q (.int ds.length) S
  | [.lst ds], S, Q => Q (.int ds.length) S
  | [.ro ds], S, Q => Q (.int ds.length) S
  | [.ref a], S, Q => match S a with
    | some (.lst ds) => Q (.int ds.length) S
    | some (.dK kvs) => Q (.int kvs.length) S
    | _ => False
  | _, _, _ => False
theorem RelF.length {K : PySem.W.Frag} {G : Hp} {κ : Type} : ∀ {vs : List (κ × V)} {ds : List (κ × D)}, RelF K G vs ds → vs.length = ds.length
  | _, _, .nil => rfl
  | _, _, .cons _ r => by simp [RelF.length r]
section
variable {X : Cx} {Γ : KG X.K}
theorem dcall_len : DCall X (.builtin "len") vLen := by
  refine ⟨_, call_len.or call_lenD, fun xs ds F S H P Q sm rx q c => ?_⟩
  cases rx with
  | nil => exact (q : False).elim
  | cons r1 r2 =>
  cases r2 with
  | cons _ _ => cases r1 <;> exact (q : False).elim
  | nil =>
  cases r1 <;> first | exact (q : False).elim | skip
  · exact .inl ⟨_, _, rfl, ⟨q.1, rfl⟩, c.use sm (.int _) q.2⟩
  · simp only [vLen] at q
    split at q
    · rename_i e
      obtain ⟨vs, e1, r1⟩ := sm.lst e
      exact .inl ⟨_, _, rfl, .inl ⟨_, .of e1, rfl⟩, c.use sm (by rw [r1.length]; exact .int _) q⟩
    · rename_i e
      obtain ⟨vs, e1, r1⟩ := (sm.at_ _ _ e).2
      exact .inr ⟨_, _, rfl, e1, c.use sm (by rw [r1.length]; exact .int _) q⟩
    · exact q.elim
  · rename_i hs rl
    exact .inl ⟨_, _, rfl, .inr ⟨_, sqT_mono (fz_same F S H) hs, rfl⟩, c.use sm (by rw [rl.length]; exact .int _) q⟩
  · rename_i hs rl
    exact .inl ⟨_, _, rfl, .inl ⟨_, .of (fz_same F S H _ _ hs), rfl⟩, c.use sm (by rw [rl.length]; exact .int _) q⟩
  · rename_i hs rl
    exact .inl ⟨_, _, rfl, .inl ⟨_, (fz_same F S H).seq hs, rfl⟩, c.use sm (by rw [rl.length]; exact .int _) q⟩
def vAbs : List D → Sto → DK → Prop
  | [.int i], S, Q => Q (.int (if i < 0 then -i else i)) S
  | _, _, _ => False
def vMin2 : List D → Sto → DK → Prop
  | [.int i, .int j], S, Q => Q (.int (if j < i then j else i)) S
  | _, _, _ => False
def vMax2 : List D → Sto → DK → Prop
  | [.int i, .int j], S, Q => Q (.int (if j > i then j else i)) S
  | _, _, _ => False
def vInt : List D → Sto → DK → Prop
  | [.int i], S, Q => Q (.int i) S
  | [.bl k], S, Q => Q (.int (if k then 1 else 0)) S
  | _, _, _ => False
def vBool : List D → Sto → DK → Prop
  | [.int i], S, Q => Q (.bl (i != 0)) S
  | [.bl k], S, Q => Q (.bl k) S
  | _, _, _ => False
theorem dcall_abs : DCall X (.builtin "abs") vAbs := by
  refine ⟨_, call_abs, fun xs ds F S H P Q sm rx q c => ?_⟩
  cases rx with
  | nil => exact (q : False).elim
  | cons r1 r2 =>
  cases r2 with
  | cons _ _ => cases r1 <;> exact (q : False).elim
  | nil =>
  cases r1 <;> first | exact (q : False).elim | skip
  exact ⟨_, rfl, c.use sm (.int _) q⟩
theorem dcall_int : DCall X (.type "int") vInt := by
  refine ⟨_, call_int1, fun xs ds F S H P Q sm rx q c => ?_⟩
  cases rx with
  | nil => exact (q : False).elim
  | cons r1 r2 =>
  cases r2 with
  | cons _ _ => cases r1 <;> exact (q : False).elim
  | nil =>
  cases r1 <;> first | exact (q : False).elim | skip
  · exact .inr ⟨_, rfl, c.use sm (.int _) q⟩
  · exact .inl ⟨_, rfl, c.use sm (.int _) q⟩
theorem dcall_bool : DCall X (.type "bool") vBool := by
  refine ⟨_, call_bool1, fun xs ds F S H P Q sm rx q c => ?_⟩
  cases rx with
  | nil => exact (q : False).elim
  | cons r1 r2 =>
  cases r2 with
  | cons _ _ => cases r1 <;> exact (q : False).elim
  | nil =>
  cases r1 <;> first | exact (q : False).elim | skip
  · exact .inr ⟨_, rfl, c.use sm (.bl _) q⟩
  · exact .inl ⟨_, rfl, c.use sm (.bl _) q⟩
theorem dcall_min2 (hc : X.calm = true) : DCall X (.builtin "min") vMin2 := by
  refine ⟨_, call_min2 hc, fun xs ds F S H P Q sm rx q c => ?_⟩
  rcases ds with _ | ⟨d1, _ | ⟨d2, _ | ⟨d3, ds⟩⟩⟩ <;> first | exact (q : False).elim | (cases d1 <;> exact (q : False).elim) | skip
  · cases d1 <;> first | exact (q : False).elim | skip
    cases d2 <;> first | exact (q : False).elim | skip
    cases rx with
    | cons r1 r2 =>
    cases r2 with
    | cons r2 r3 =>
    cases r1; cases r2; cases r3
    exact ⟨_, _, rfl, c.use sm (.int _) q⟩
  · cases d1 <;> first | exact (q : False).elim | skip
    cases d2 <;> exact (q : False).elim
theorem dcall_max2 (hc : X.calm = true) : DCall X (.builtin "max") vMax2 := by
  refine ⟨_, call_max2 hc, fun xs ds F S H P Q sm rx q c => ?_⟩
  rcases ds with _ | ⟨d1, _ | ⟨d2, _ | ⟨d3, ds⟩⟩⟩ <;> first | exact (q : False).elim | (cases d1 <;> exact (q : False).elim) | skip
  · cases d1 <;> first | exact (q : False).elim | skip
    cases d2 <;> first | exact (q : False).elim | skip
    cases rx with
    | cons r1 r2 =>
    cases r2 with
    | cons r2 r3 =>
    cases r1; cases r2; cases r3
    exact ⟨_, _, rfl, c.use sm (.int _) q⟩
  · cases d1 <;> first | exact (q : False).elim | skip
    cases d2 <;> exact (q : False).elim
/-- tuple(x) -/
def vTuple : List D → Sto → DK → Prop
  | [.tup ds], S, Q => Q (.tup ds) S
  | [.lst ds], S, Q => Q (.tup ds) S
  | [.ro ds], S, Q => Q (.tup ds) S
  | [.ref a], S, Q => match S a with
    | some (.lst ds) => Q (.tup ds) S
    | _ => False
  | _, _, _ => False
theorem dcall_tuple : DCall X (.type "tuple") vTuple := by
  refine ⟨_, call_tupX, fun xs ds F S H P Q sm rx q c => ?_⟩
  cases rx with
  | nil => exact (q : False).elim
  | cons r1 r2 =>
  cases r2 with
  | cons _ _ => cases r1 <;> exact (q : False).elim
  | nil =>
  cases r1 <;> first | exact (q : False).elim | skip
  · simp only [vTuple] at q
    split at q
    · rename_i e
      obtain ⟨vs, e1, r1⟩ := sm.lst e
      exact ⟨_, _, rfl, .inl ⟨.of e1, fun p o hp hd => c.new sm hp (fz_newT sm hp hd r1) q⟩⟩
    · exact q.elim
  · rename_i hs rl
    exact ⟨_, _, rfl, .inr ⟨sqT_mono (fz_same F S H) hs, c.use sm (.tup hs rl) q⟩⟩
  · rename_i hs rl
    exact ⟨_, _, rfl, .inl ⟨.of (fz_same F S H _ _ hs), fun p o hp hd => c.new sm hp (fz_newT sm hp hd rl) q⟩⟩
  · rename_i hs rl
    exact ⟨_, _, rfl, .inl ⟨(fz_same F S H).seq hs, fun p o hp hd => c.new sm hp (fz_newT sm hp hd rl) q⟩⟩
/-- list(x), a list that nobody changes -/
def vList : List D → Sto → DK → Prop
  | [.tup ds], S, Q => Q (.lst ds) S
  | [.lst ds], S, Q => Q (.lst ds) S
  | [.ro ds], S, Q => Q (.lst ds) S
  | [.ref a], S, Q => match S a with
    | some (.lst ds) => Q (.lst ds) S
    | _ => False
  | _, _, _ => False
theorem dcall_list : DCall X (.type "list") vList := by
  refine ⟨_, call_list_of, fun xs ds F S H P Q sm rx q c => ?_⟩
  cases rx with
  | nil => exact (q : False).elim
  | cons r1 r2 =>
  cases r2 with
  | cons _ _ => cases r1 <;> exact (q : False).elim
  | nil =>
  cases r1 <;> first | exact (q : False).elim | skip
  · simp only [vList] at q
    split at q
    · rename_i e
      obtain ⟨vs, e1, r1⟩ := sm.lst e
      exact ⟨_, _, rfl, .inl (.of e1), fun p hp => c.new sm hp (fz_newL sm hp r1) q⟩
    · exact q.elim
  · rename_i hs rl
    exact ⟨_, _, rfl, .inr (sqT_mono (fz_same F S H) hs), fun p hp => c.new sm hp (fz_newL sm hp rl) q⟩
  · rename_i hs rl
    exact ⟨_, _, rfl, .inl (.of (fz_same F S H _ _ hs)), fun p hp => c.new sm hp (fz_newL sm hp rl) q⟩
  · rename_i hs rl
    exact ⟨_, _, rfl, .inl ((fz_same F S H).seq hs), fun p hp => c.new sm hp (fz_newL sm hp rl) q⟩
def asBls : List D → Option (List Bool)
  | [] => some []
  | .bl b :: r => (asBls r).map (b :: ·)
  | _ :: _ => none
def asInts : List D → Option (List Int)
  | [] => some []
  | .int b :: r => (asInts r).map (b :: ·)
  | _ :: _ => none
theorem asBls_map (bs : List Bool) : asBls (bs.map D.bl) = some bs := by
  induction bs with
  | nil => rfl
  | cons b bs ih => simp [asBls, ih]
theorem asInts_map (bs : List Int) : asInts (bs.map D.int) = some bs := by
  induction bs with
  | nil => rfl
  | cons b bs ih => simp [asInts, ih]
theorem asBls_eq : ∀ {ds : List D} {bs : List Bool}, asBls ds = some bs → ds = bs.map D.bl
  | [], bs, h => by cases h; rfl
  | .bl b :: r, bs, h => by
    simp only [asBls, Option.map_eq_some_iff] at h
    obtain ⟨t, h1, rfl⟩ := h
    rw [asBls_eq h1]; rfl
  | .non :: _, _, h | .int _ :: _, _, h | .str _ :: _, _, h | .tup _ :: _, _, h | .lst _ :: _, _, h | .ro _ :: _, _, h | .ref _ :: _, _, h | .ty _ :: _, _, h | .key _ :: _, _, h => by cases h
theorem asInts_eq : ∀ {ds : List D} {bs : List Int}, asInts ds = some bs → ds = bs.map D.int
  | [], bs, h => by cases h; rfl
  | .int b :: r, bs, h => by
    simp only [asInts, Option.map_eq_some_iff] at h
    obtain ⟨t, h1, rfl⟩ := h
    rw [asInts_eq h1]; rfl
  | .non :: _, _, h | .bl _ :: _, _, h | .str _ :: _, _, h | .tup _ :: _, _, h | .lst _ :: _, _, h | .ro _ :: _, _, h | .ref _ :: _, _, h | .ty _ :: _, _, h | .key _ :: _, _, h => by cases h
/-- the items of a list (or, where t is true, of a tuple) -/
def seqOf (S : Sto) : D → Option (List D)
  | .lst ds => some ds
  | .ro ds => some ds
  | .ref a => match S a with | some (.lst ds) => some ds | _ => none
  | _ => none
theorem seqOf_rel {K : PySem.W.Frag} {Γ : KG K} {F : Addr → Bool} {S : Sto} {H : Hp} {v : V} {d : D} {ds : List D} (sm : Sim Γ F S H) (r : Rel K (fz F S H) v d) (h : seqOf S d = some ds) : ∃ a vs, v = .ref a ∧ SqL K H a vs ∧ RelL K (fz F S H) vs ds := by
  cases r <;> first | (cases h; done) | skip
  · rename_i a
    simp only [seqOf] at h
    split at h
    · rename_i e
      cases h
      obtain ⟨vs, e1, r1⟩ := sm.lst e
      exact ⟨_, _, rfl, .of e1, r1⟩
    · cases h
  · rename_i hs rl
    cases h
    exact ⟨_, _, rfl, .of (fz_same F S H _ _ hs), rl⟩
  · rename_i hs rl
    cases h
    exact ⟨_, _, rfl, (fz_same F S H).seq hs, rl⟩
def vAll : List D → Sto → DK → Prop
  | [x], S, Q => match (seqOf S x).bind asBls with | some bs => Q (.bl (bs.all id)) S | none => False
  | _, _, _ => False
def vAny : List D → Sto → DK → Prop
  | [x], S, Q => match (seqOf S x).bind asBls with | some bs => Q (.bl (bs.any id)) S | none => False
  | _, _, _ => False
def vSum : List D → Sto → DK → Prop
  | [x], S, Q => match (seqOf S x).bind asInts with | some bs => Q (.int bs.sum) S | none => False
  | _, _, _ => False
theorem dcall_all (hc : X.calm = true) : DCall X (.builtin "all") vAll := by
  refine ⟨_, cr_all hc, fun xs ds F S H P Q sm rx q c => ?_⟩
  rcases ds with _ | ⟨d1, _ | ⟨d2, ds⟩⟩ <;> first | exact (q : False).elim | skip
  cases rx with
  | cons r1 r2 =>
  cases r2
  have q : match (seqOf S d1).bind asBls with | some bs => P (.bl (bs.all id)) S | none => False := q
  split at q
  · rename_i bs e
    obtain ⟨ds, e1, e2⟩ := Option.bind_eq_some_iff.mp e
    obtain ⟨a, vs, rfl, hs, rl⟩ := seqOf_rel sm r1 e1
    rw [asBls_eq e2] at rl
    exact ⟨a, bs, rfl, by rw [← rl.bls]; exact hs, c.use sm (.bl _) q⟩
  · exact q.elim
theorem dcall_any (hc : X.calm = true) : DCall X (.builtin "any") vAny := by
  refine ⟨_, cr_any hc, fun xs ds F S H P Q sm rx q c => ?_⟩
  rcases ds with _ | ⟨d1, _ | ⟨d2, ds⟩⟩ <;> first | exact (q : False).elim | skip
  cases rx with
  | cons r1 r2 =>
  cases r2
  have q : match (seqOf S d1).bind asBls with | some bs => P (.bl (bs.any id)) S | none => False := q
  split at q
  · rename_i bs e
    obtain ⟨ds, e1, e2⟩ := Option.bind_eq_some_iff.mp e
    obtain ⟨a, vs, rfl, hs, rl⟩ := seqOf_rel sm r1 e1
    rw [asBls_eq e2] at rl
    exact ⟨a, bs, rfl, by rw [← rl.bls]; exact hs, c.use sm (.bl _) q⟩
  · exact q.elim
theorem dcall_sum (hc : X.calm = true) : DCall X (.builtin "sum") vSum := by
  refine ⟨_, cr_sum hc, fun xs ds F S H P Q sm rx q c => ?_⟩
  rcases ds with _ | ⟨d1, _ | ⟨d2, ds⟩⟩ <;> first | exact (q : False).elim | skip
  cases rx with
  | cons r1 r2 =>
  cases r2
  have q : match (seqOf S d1).bind asInts with | some bs => P (.int bs.sum) S | none => False := q
  split at q
  · rename_i bs e
    obtain ⟨ds, e1, e2⟩ := Option.bind_eq_some_iff.mp e
    obtain ⟨a, vs, rfl, hs, rl⟩ := seqOf_rel sm r1 e1
    rw [asInts_eq e2] at rl
    exact ⟨a, bs, rfl, by rw [← rl.ints]; exact hs, c.use sm (.int _) q⟩
  · exact q.elim
/-- isinstance of plain data and a built-in class -/
def tyOf : D → Option String
  | .non => some "NoneType"
  | .bl _ => some "bool"
  | .int _ => some "int"
  | .str _ => some "str"
  | .tup _ => some "tuple"
  | .lst _ => some "list"
  | .ro _ => some "list"
  | .key _ => none
  | .ref _ => none
  | .ty _ => none
def isiT : D → String → Option Bool
  | .non, n => if n = "int" ∨ n = "bool" ∨ n = "str" ∨ n = "tuple" ∨ n = "list" ∨ n = "dict" then some false else none
  | .bl _, n => if n = "int" ∨ n = "bool" then some true else if n = "str" ∨ n = "tuple" ∨ n = "list" ∨ n = "dict" then some false else none
  | .int _, n => if n = "int" then some true else if n = "bool" ∨ n = "str" ∨ n = "tuple" ∨ n = "list" ∨ n = "dict" then some false else none
  | .str _, n => if n = "str" then some true else if n = "bool" ∨ n = "int" ∨ n = "tuple" ∨ n = "list" ∨ n = "dict" then some false else none
  | .tup _, n => if n = "tuple" then some true else if n = "bool" ∨ n = "int" ∨ n = "str" ∨ n = "list" ∨ n = "dict" then some false else none
  | .lst _, n => if n = "list" then some true else if n = "bool" ∨ n = "int" ∨ n = "str" ∨ n = "tuple" ∨ n = "dict" then some false else none
  | _, _ => none
def vIsi : List D → Sto → DK → Prop
  | [x, .ty n], S, Q => match isiT x n with | some b => Q (.bl b) S | none => False
  | _, _, _ => False
theorem isiT_kit {d : D} {n : String} {b : Bool} (h : isiT d n = some b) : ∃ t, tyOf d = some t ∧ kitB t n = some b := by
  cases d <;> first | (cases h; done) | skip
  all_goals refine ⟨_, rfl, ?_⟩
  all_goals simp only [isiT] at h
  all_goals repeat' split at h
  all_goals first | (cases h; done) | skip
  all_goals cases h
  all_goals rename_i z
  all_goals first
    | (subst z; decide +kernel)
    | (rcases z with z | z | z | z | z | z <;> subst z <;> decide +kernel)
    | (rcases z with z | z | z | z | z <;> subst z <;> decide +kernel)
    | (rcases z with z | z | z | z <;> subst z <;> decide +kernel)
    | (rcases z with z | z <;> subst z <;> decide +kernel)
theorem Rel.tyx {K : PySem.W.Frag} {F : Addr → Bool} {S : Sto} {H : Hp} {v : V} {d : D} {n : String} (r : Rel K (fz F S H) v d) (hd : ∀ ds, d ≠ .ro ds) (h : tyOf d = some n) : TyX K H v (.type n) := by
  cases r <;> first | (cases h; done) | skip
  · cases h; exact .base .non
  · cases h; exact .base (.bl _)
  · cases h; exact .base (.int _)
  · cases h; exact .base (.str _)
  · cases h
    rename_i hs rl
    rcases hs.t with (hs | ⟨o, hs⟩) | ⟨o, its, m, h1, h2, _⟩
    · exact .base (.tup (fz_same F S H _ _ hs))
    · exact .fTuple (fz_same F S H _ _ hs)
    · exact .kTuple h1 h2
  · cases h
    rename_i hs rl
    exact .base (.lst (fz_same F S H _ _ hs))
  · exact absurd rfl (hd _)
theorem dcall_isi : DCall X (.builtin "isinstance") vIsi := by
  refine ⟨_, call_isi, fun xs ds F S H P Q sm rx q c => ?_⟩
  rcases ds with _ | ⟨d1, _ | ⟨d2, _ | ⟨d3, ds⟩⟩⟩ <;> first | exact (q : False).elim | skip
  · cases d2 <;> first | exact (q : False).elim | skip
    rename_i n
    cases rx with
    | cons r1 r2 =>
    cases r2 with
    | cons r2 r3 =>
    cases r2; cases r3
    have q : match isiT d1 n with | some b => P (.bl b) S | none => False := q
    split at q
    · rename_i b e
      obtain ⟨t, e1, e2⟩ := isiT_kit e
      exact ⟨_, _, _, _, b, rfl, .ty n, r1.tyx (fun ds z => by subst z; cases e) e1, kit_ty e2, c.use sm (.bl _) q⟩
    · exact q.elim
  · cases d2 <;> exact (q : False).elim
end
end L3

set_option Elab.async false
set_option maxRecDepth 100000
set_option linter.all false
set_option maxHeartbeats 2000000
namespace L3
open PySem L2
/-! ### statements -/
abbrev dNext : DTS := fun D δ S => D.nx δ S
abbrev dSeq (t u : DTS) : DTS := fun D δ S => t { D with nx := u D } δ S
abbrev dBreak : DTS := fun D δ S => D.bk δ S
abbrev dCont : DTS := fun D δ S => D.ct δ S
abbrev dDrop (te : DTE) : DTS := fun D δ S => te δ S fun _ S1 => D.nx δ S1
abbrev dRet (te : DTE) : DTS := fun D δ S => te δ S D.rt
abbrev dRetN : DTS := fun D _ S => D.rt .non S
abbrev dIf (c : DTT) (t u : DTS) : DTS := fun D δ S => c δ S fun b S1 => if b = true then t D δ S1 else u D δ S1
abbrev dNever : DTS := fun _ _ _ => False
abbrev DTG := D → DSt → Sto → (DSt → Sto → Prop) → Prop
def lfG {K : PySem.W.Frag} (Γ : KG K) (t : DTG) : TG := fun v σ H Q => ∃ F d δ S P, Sim Γ F S H ∧ Rel K (fz F S H) v d ∧ RelS K (fz F S H) σ δ ∧ t d δ S P ∧ CtN Γ F S H P Q
def DPG (X : Cx) (Γ : KG X.K) (e : Expr) (t : DTG) : Prop := PG X e (lfG Γ t)
theorem PGw {X : Cx} {e : Expr} {t u : TG} (h : PG X e t) (w : ∀ v σ H Q, u v σ H Q → t v σ H Q) : PG X e u := ⟨fun pins s σ H v u' Q I r q => h.run pins s σ H v u' Q I r (w _ _ _ _ q)⟩
/-- plain targets: a name, a tuple of names -/
inductive Tg where
  | nm (i : Nat)
  | tp (l : List Nat)
def gAll : List Nat → TGs
  | [] => gNil
  | i :: r => gCons (gName i) (gAll r)
def gTg (K : PySem.W.Frag) : Tg → TG
  | .nm i => gName i
  | .tp l => gTup K l.length (gAll l)
abbrev setAll : List Nat → List D → DSt → DSt
  | i :: r, d :: ds, δ => setAll r ds (dset δ i (some d))
  | _, _, δ => δ
abbrev dTg : Tg → DTG
  | .nm i => fun d δ S Q => Q (dset δ i (some d)) S
  | .tp l => fun d δ S Q => match d with | .tup ds => ds.length = l.length ∧ Q (setAll l ds δ) S | .key ds => ds.length = l.length ∧ Q (setAll l ds δ) S | _ => False
def Tg.slots : Tg → List Nat
  | .nm i => [i]
  | .tp l => l
theorem gAll_ok {K : PySem.W.Frag} {G : Hp} {H : Hp} {Q : St → Hp → Prop} : ∀ (l : List Nat) {vs : List V} {ds : List D} {σ : St} {δ : DSt}, RelL K G vs ds → ds.length = l.length → RelS K G σ δ →
    (∀ σ', RelS K G σ' (setAll l ds δ) → (∀ is : List Nat, (∀ i ∈ l, i ∈ is) → wipe σ' is = wipe σ is) → Q σ' H) → gAll l vs σ H Q
  | [], _, _, σ, δ, .nil, _, rs, k => ⟨rfl, k σ rs fun _ _ => rfl⟩
  | [], _, _, _, _, .cons _ _, h, _, _ => by cases h
  | _ :: _, _, _, _, _, .nil, h, _, _ => by cases h
  | i :: l, _, _, σ, δ, .cons (v := v) (vs := vs) (d := d) (ds := ds) r t, h, rs, k => by
    refine ⟨_, _, rfl, ?_⟩
    show gAll l _ (σ.set i (some v)) H Q
    refine gAll_ok l t (by simpa using h) (rs.dset r i) fun σ' q w => k σ' q fun is hi => ?_
    rw [w is fun j hj => hi j (List.mem_cons_of_mem _ hj)]
    exact wipe_in _ _ (hi i List.mem_cons_self)
where
  wipe_in {σ : St} {i : Nat} (x : Option V) (is : List Nat) (hi : i ∈ is) : wipe (σ.set i x) is = wipe σ is := by
    induction is with
    | nil => cases hi
    | cons j is ih =>
      show (wipe (σ.set i x) is).set j none = (wipe σ is).set j none
      by_cases h : i ∈ is
      · rw [ih h]
      · have e : i = j := by
          rcases List.mem_cons.mp hi with e | e
          · exact e
          · exact absurd e h
        subst e
        have c : ∀ (js : List Nat), i ∉ js → wipe (σ.set i x) js = (wipe σ js).set i x := by
          intro js
          induction js with
          | nil => intro _; rfl
          | cons k js ih2 =>
            intro hk
            show (wipe (σ.set i x) js).set k none = ((wipe σ js).set k none).set i x
            rw [ih2 fun z => hk (List.mem_cons_of_mem _ z), List.set_comm]
            intro z
            subst z
            exact hk List.mem_cons_self
        rw [c is h, List.set_set]
theorem gTg_ok {K : PySem.W.Frag} {F : Addr → Bool} {S : Sto} {H : Hp} {v : V} {d : D} {σ : St} {δ : DSt} {P : DSt → Sto → Prop} {Q : St → Hp → Prop} (tg : Tg) (r : Rel K (fz F S H) v d) (rs : RelS K (fz F S H) σ δ) (h : dTg tg d δ S P)
    (k : ∀ σ' δ', RelS K (fz F S H) σ' δ' → P δ' S → (∀ is : List Nat, (∀ i ∈ tg.slots, i ∈ is) → wipe σ' is = wipe σ is) → Q σ' H) : gTg K tg v σ H Q := by
  cases tg with
  | nm i =>
    show Q (σ.set i (some v)) H
    exact k _ _ (rs.dset r i) h fun is hi => gAll_ok.wipe_in _ is (hi i List.mem_cons_self)
  | tp l =>
    cases r <;> first | exact (h : False).elim | skip
    · rename_i hs rl
      obtain ⟨h1, h2⟩ := h
      refine ⟨_, _, rfl, sqT_mono (fz_same F S H) hs, by rw [rl.length]; exact h1, ?_⟩
      exact gAll_ok l rl h1 rs fun σ' q w => k σ' _ q h2 w
    · rename_i hs rl
      obtain ⟨h1, h2⟩ := h
      refine ⟨_, _, rfl, .of (fz_same F S H _ _ hs), by rw [rl.length]; exact h1, ?_⟩
      exact gAll_ok l rl h1 rs fun σ' q w => k σ' _ q h2 w
theorem dpg_tg {X : Cx} {Γ : KG X.K} {e : Expr} {tg : Tg} (h : PG X e (gTg X.K tg)) : DPG X Γ e (dTg tg) := PGw h fun v σ H Q ⟨F, d, δ, S, P, sm, r, rs, h, c⟩ =>
  gTg_ok tg r rs h fun σ' δ' rs' p _ => c _ _ p _ _ (Go.refl sm) rs'
/-- o[i] = v -/
def vSet : D → D → D → Sto → (Sto → Prop) → Prop
  | .ref a, .int k, v, S, Q => match S a with
    | some (.lst ds) => match ixN ds.length k with | some j => Q (sup S a (.lst (ds.set j v))) | none => False
    | _ => False
  | _, _, _, _, _ => False
abbrev dgSub (to ti : DTE) : DTG := fun d δ S Q => to δ S fun o S1 => ti δ S1 fun i S2 => vSet o i d S2 fun S3 => Q δ S3
section
variable {X : Cx} {Γ : KG X.K} {st : Stmt} {rest : List Stmt} {t u : DTS} {e a : Expr} {te ta to ti : DTE} {pos : Pos}
theorem dpss_nil : DPSs X Γ [] dNext := PSsw pss_nil fun D σ H ⟨F, δ, S, P, sm, rs, h, c⟩ => c.nx _ _ h _ _ (Go.refl sm) rs
theorem dpss_cons (h1 : DPS X Γ st t) (h2 : DPSs X Γ rest u) : DPSs X Γ (st :: rest) (dSeq t u) := PSsw (pss_cons h1 h2) fun D σ H ⟨F, δ, S, P, sm, rs, h, c⟩ =>
  ⟨F, δ, S, { P with nx := u P }, sm, rs, h, ⟨fun δ' S' h' σ' H' g rs' => ⟨F, δ', S', P, g.sim, rs', h', c.mono g⟩, c.rt, c.bk, c.ct⟩⟩
theorem dpss_one (h1 : DPS X Γ st t) : DPSs X Γ [st] t := pss_one h1
theorem dps_pass : DPS X Γ (.Pass pos) dNext := PSw ps_pass fun D σ H ⟨F, δ, S, P, sm, rs, h, c⟩ => c.nx _ _ h _ _ (Go.refl sm) rs
theorem dps_doc {x j pos'} : DPS X Γ (.Expr (.Constant (.str x) j pos) pos') dNext := PSw ps_doc fun D σ H ⟨F, δ, S, P, sm, rs, h, c⟩ => c.nx _ _ h _ _ (Go.refl sm) rs
theorem dps_break : DPS X Γ (.Break pos) dBreak := PSw ps_break fun D σ H ⟨F, δ, S, P, sm, rs, h, c⟩ => c.bk _ _ h _ _ (Go.refl sm) rs
theorem dps_continue : DPS X Γ (.Continue pos) dCont := PSw ps_continue fun D σ H ⟨F, δ, S, P, sm, rs, h, c⟩ => c.ct _ _ h _ _ (Go.refl sm) rs
theorem dps_expr (he : DPE X Γ e te) (hs : swapsWith e none pos.line X.env = pure false := by rfl) : DPS X Γ (.Expr e pos) (dDrop te) := PSw (ps_expr he hs) fun D σ H ⟨F, δ, S, P, sm, rs, h, c⟩ =>
  ⟨F, δ, S, _, sm, rs, h, fun d S1 h1 v H1 g1 r1 => c.nx _ _ h1 _ _ g1 (rs.mono g1.same)⟩
theorem dps_ret (he : DPE X Γ e te) : DPS X Γ (.Return (some e) pos) (dRet te) := PSw (ps_ret he) fun D σ H ⟨F, δ, S, P, sm, rs, h, c⟩ => ⟨F, δ, S, _, sm, rs, h, c.rt⟩
theorem dps_retN : DPS X Γ (.Return none pos) dRetN := PSw ps_retN fun D σ H ⟨F, δ, S, P, sm, rs, h, c⟩ => c.rt.use sm .non h
theorem dps_if {c : Expr} {p q : List Stmt} {tc : DTT} (hc : DPT X Γ c tc) (ha : DPSs X Γ p t) (hb : DPSs X Γ q u) : DPS X Γ (.If c p q pos) (dIf tc t u) := PSw (ps_if hc ha hb) fun D σ H ⟨F, δ, S, P, sm, rs, h, c⟩ =>
  ⟨F, δ, S, _, sm, rs, h, fun b S1 h1 H1 g1 => by
    cases b with
    | true => exact ⟨F, δ, S1, P, g1.sim, rs.mono g1.same, h1, c.mono g1⟩
    | false => exact ⟨F, δ, S1, P, g1.sim, rs.mono g1.same, h1, c.mono g1⟩⟩
theorem dps_never : DPS X Γ st dNever := PSw ps_never fun D σ H ⟨F, δ, S, P, sm, rs, h, c⟩ => (h : False).elim
theorem dpss_never {sts : List Stmt} : DPSs X Γ sts dNever := PSsw pss_never fun D σ H ⟨F, δ, S, P, sm, rs, h, c⟩ => (h : False).elim
/-- target = e -/
abbrev dAsg (te : DTE) (g : DTG) : DTS := fun D δ S => te δ S fun x S1 => g x δ S1 D.nx
theorem lf_asg {K : PySem.W.Frag} {Γ : KG K} {g : DTG} {D : Ends} {σ : St} {H : Hp} (h : lfS Γ (dAsg te g) D σ H) : tAsg (lf Γ te) (lfG Γ g) D σ H := by
  obtain ⟨F, δ, S, P, sm, rs, h, c⟩ := h
  exact ⟨F, δ, S, _, sm, rs, h, fun d S1 h1 v H1 g1 r1 => ⟨F, d, δ, S1, P.nx, g1.sim, r1, rs.mono g1.same, h1, (c.mono g1).nx⟩⟩
theorem dps_asg {tg : Expr} {g : DTG} (he : DPE X Γ e te) (hg : DPG X Γ tg g) (hs : swapsWithSole [tg] e pos.line X.env = pure false := by rfl) (hw : swappedStores [tg] e X.env = pure none := by rfl)
    (h1 : (assignEach [tg] X.env).map (·.2) = [assign tg X.env] := by rfl) : DPS X Γ (.Assign [tg] e pos) (dAsg te g) := PSw (ps_asg he hg hs hw h1) fun D σ H h => lf_asg h
/-- name = e -/
theorem dps_set (i : Nat) {x : Str} {pos' : Pos} (hN : X.N.Nodup) (he : DPE X Γ e te) (hi : X.N[i]? = some x := by rfl) (hx : Loc X.env.scope x := by first | exact Or.inl rfl | exact Or.inr rfl) (hs : swapsWith e (some (.Name x pos')) pos.line X.env = pure false := by rfl)
    (hf : X.fn x = true ∨ X.env.scope.names.lookup x = some .local := by first | exact .inl rfl | exact .inr rfl) : DPS X Γ (.Assign [.Name x pos'] e pos) (dAsg te (dTg (.nm i))) := PSw (ps_set hN hi hx he hs hf) fun D σ H ⟨F, δ, S, P, sm, rs, h, c⟩ =>
  ⟨F, δ, S, _, sm, rs, h, fun d S1 h1 v H1 g1 r1 => c.nx _ _ h1 _ _ g1 ((rs.mono g1.same).dset r1 i)⟩
theorem dpg_name (i : Nat) {x : Str} (hN : X.N.Nodup) (hi : X.N[i]? = some x := by rfl) (hx : Loc X.env.scope x := by first | exact Or.inl rfl | exact Or.inr rfl)
    (hf : X.fn x = true ∨ X.env.scope.names.lookup x = some .local := by first | exact .inl rfl | exact .inr rfl) : PG X (.Name x pos) (gTg X.K (.nm i)) := pg_name hN hi hx hf
theorem dpg_sub {o i : Expr} (ho : DPE X Γ o to) (hi : DPE X Γ i ti) (ha : ∀ v, assign (.Subscript o i pos) X.env v = (do
      let ov ← holding [v] (eval o X.env)
      let iv ← holding [v, ov] (eval i X.env)
      standAt pos
      holding [v, ov, iv] (setItem ov iv v)
      release [v, ov, iv] []) := by intro _; rfl) : DPG X Γ (.Subscript o i pos) (dgSub to ti) := PGw (pg_sub ho hi set_list ha) fun v σ H Q ⟨F, d, δ, S, P, sm, r, rs, h, c⟩ =>
  ⟨F, δ, S, _, sm, rs, h, fun do_ S1 h1 vo H1 g1 ro => ⟨F, δ, S1, _, g1.sim, rs.mono g1.same, h1, fun di S2 h2 vi H2 g2 ri => by
    cases do_ <;> first | exact (h2 : False).elim | skip
    cases di <;> first | exact (h2 : False).elim | skip
    cases ro; cases ri
    simp only [vSet] at h2
    split at h2
    · rename_i ds e
      obtain ⟨vs, e1, r1⟩ := g2.sim.lst e
      split at h2
      · rename_i j e2
        have r' := r.mono (g1.trans g2).same
        have g3 := g2.sim.put (o := .lst (vs.set j v)) (u' := .lst (ds.set j d)) e ⟨_, rfl, r1.set r' j⟩
        exact ⟨_, _, _, j, rfl, rfl, e1, by rw [r1.length]; exact e2, c _ _ h2 _ _ ((g1.trans g2).trans g3) (rs.mono ((g1.trans g2).trans g3).same)⟩
      · exact h2.elim
    · exact h2.elim⟩⟩
/-- x += e, at a name -/
abbrev dAug (i : Nat) (te : DTE) (r : D → D → Sto → DK → Prop) : DTS := fun D δ S => match slot δ i with
  | some x => te δ S fun y S1 => r x y S1 fun z S2 => D.nx (dset δ i (some z)) S2
  | none => False
theorem dps_aug (i : Nat) {x : Str} {op : Operator} {r : D → D → Sto → DK → Prop} {pos' : Pos} (ho : DOp X (inplaceOp op) r) (hN : X.N.Nodup) (he : DPE X Γ e te) (hi : X.N[i]? = some x := by rfl) (hx : Loc X.env.scope x := by first | exact Or.inl rfl | exact Or.inr rfl)
    (hf : X.fn x = true ∨ X.env.scope.names.lookup x = some .local := by first | exact .inl rfl | exact .inr rfl) : DPS X Γ (.AugAssign (.Name x pos') op e pos) (dAug i te r) := by
  obtain ⟨q, h1, h2⟩ := ho.ex
  refine PSw (ps_aug (ti := q) hN hi hx he h1 hf) fun D σ H ⟨F, δ, S, P, sm, rs, h, c⟩ => ?_
  simp only [dAug] at h
  split at h
  · rename_i d e
    obtain ⟨v, e1, r1⟩ := rs.get (slot_get e)
    refine ⟨v, e1, F, δ, S, _, sm, rs, h, fun dy S1 k1 y H1 g1 ry => ?_⟩
    refine h2 v y d dy F S1 H1 _ _ g1.sim (r1.mono g1.same) ry k1 fun dz S2 k2 z H2 g2 rz => ?_
    exact c.nx _ _ k2 _ _ (g1.trans g2) ((rs.mono (g1.trans g2).same).dset rz i)
  · exact h.elim
def vIadd : D → D → Sto → DK → Prop
  | .int i, .int j, S, Q => Q (.int (i + j)) S
  | .str a, .str b, S, Q => a.length + b.length ≤ sizeLine ∧ Q (.str (a ++ b)) S
  | _, _, _, _ => False
theorem dop_iadd : DOp X (inplaceOp .Add) vIadd := by
  refine ⟨_, iop_add.or iop_add_str, fun x y dx dy F S H P Q sm rx ry q c => ?_⟩
  cases dx <;> first | exact (q : False).elim | skip
  all_goals cases dy <;> first | exact (q : False).elim | skip
  all_goals (cases rx; cases ry)
  · exact .inl ⟨_, _, rfl, rfl, c.use sm (.int _) q⟩
  · exact .inr ⟨_, _, rfl, rfl, q.1, c.use sm (.str _) q.2⟩
theorem dop_isub : DOp X (inplaceOp .Sub) vSub := dop_II0 iop_sub fun _ _ _ => .int _
theorem dop_idiv : DOp X (inplaceOp .FloorDiv) vDiv := dop_II iop_fdiv fun _ _ _ => .int _
theorem dop_imul : DOp X (inplaceOp .Mult) (vII CMul fun i j => .int (i * j)) := dop_II iop_mul fun _ _ _ => .int _
end
/-! ### while -/
def whileN (c : DTT) (tb : DTS) : Nat → DTS
  | 0 => fun _ _ _ => False
  | n + 1 => fun D δ S => c δ S fun b S1 => if b = true then tb { D with nx := whileN c tb n D, ct := whileN c tb n D, bk := D.nx } δ S1 else D.nx δ S1
abbrev dWhile (c : DTT) (tb : DTS) : DTS := fun D δ S => ∃ n, whileN c tb n D δ S
section
variable {X : Cx} {Γ : KG X.K} {pos : Pos}
theorem dps_while {c : Expr} {body : List Stmt} {tc : DTT} {tb : DTS} (hc : DPT X Γ c tc) (hb : DPSs X Γ body tb) (hp : PassesOwn (model X.prog X.w) X.A X.env X.xe := by exact PassesOwn.never) : DPS X Γ (.While c body [] pos) (dWhile tc tb) := by
  refine PSw (ps_while hp hc hb) fun D σ H ⟨F, δ, S, P, sm, rs, ⟨n, h⟩, c⟩ => ?_
  refine ⟨fun m σ' H' => ∃ δ' S', Go Γ F S H S' H' ∧ RelS X.K (fz F S' H') σ' δ' ∧ whileN tc tb m P δ' S', ⟨n, δ, S, Go.refl sm, rs, h⟩, ?_⟩
  rintro m σ1 H1 ⟨δ1, S1, g1, rs1, h1⟩
  cases m with
  | zero => exact h1.elim
  | succ m =>
    refine ⟨F, δ1, S1, _, g1.sim, rs1, h1, fun b S2 h2 H2 g2 => ?_⟩
    have g12 := g1.trans g2
    cases b with
    | false => exact c.nx _ _ h2 _ _ g12 (rs1.mono g2.same)
    | true =>
      refine ⟨fun σ' H' => ∃ δ' S', Go Γ F S H S' H' ∧ RelS X.K (fz F S' H') σ' δ' ∧ whileN tc tb m P δ' S', fun σ' H' q => ⟨m, Nat.lt_succ_self m, q⟩, ?_⟩
      refine ⟨F, δ1, S2, _, g2.sim, rs1.mono g2.same, h2, ⟨fun δ' S' h' σ' H' g' rs' => ⟨δ', S', g12.trans g', rs', h'⟩, (c.mono g12).rt, (c.mono g12).nx, fun δ' S' h' σ' H' g' rs' => ⟨δ', S', g12.trans g', rs', h'⟩⟩⟩
end
/-! ### what a for walks -/
/-- the items, and what must stay so of the store while they are walked -/
abbrev DTI := DSt → Sto → ((Sto → Prop) → List D → Sto → Prop) → Prop
/-- J walks the items as long as kp holds of the store (objects made since may be hidden) -/
def WalkD {K : PySem.W.Frag} (Γ : KG K) (F : Addr → Bool) (S : Sto) (H : Hp) (kp : Sto → Prop) (items : List D) (J : It) : Prop :=
  ∀ F' S' H', Same (fz F S H) (fz F' S' H') → Sim Γ F' S' H' → kp S' → (∀ i, i < items.length → J.go i H') ∧ J.stop items.length H' ∧
    ∀ i x H2, i < items.length → J.yld i H' x H2 → ∃ d, items[i]? = some d ∧ Go Γ F' S' H' S' H2 ∧ Rel K (fz F' S' H2) x d
def lfI {K : PySem.W.Frag} (Γ : KG K) (t : DTI) : TI := fun σ H R => ∃ F δ S P, Sim Γ F S H ∧ RelS K (fz F S H) σ δ ∧ t δ S P ∧ ∀ kp items S', P kp items S' → ∀ J H', Go Γ F S H S' H' → WalkD Γ F S' H' kp items J → R J H'
def DPI (X : Cx) (Γ : KG X.K) (tg iter : Expr) (t : DTI) : Prop := PI X tg iter (lfI Γ t)
theorem PIw {X : Cx} {tg e : Expr} {t u : TI} (h : PI X tg e t) (w : ∀ σ H R, u σ H R → t σ H R) : PI X tg e u := ⟨fun pins s σ H R I q => h.run pins s σ H R I (w _ _ _ q)⟩
def forL (kp : Sto → Prop) (g : DTG) (tb : DTS) : List D → DTS
  | [] => fun D δ S => kp S ∧ D.nx δ S
  | d :: r => fun D δ S => kp S ∧ g d δ S fun δ1 S1 => tb { D with nx := forL kp g tb r D, ct := forL kp g tb r D, bk := D.nx } δ1 S1
abbrev dFor (ti : DTI) (g : DTG) (tb : DTS) : DTS := fun D δ S => ti δ S fun kp items S1 => forL kp g tb items D δ S1
section
variable {X : Cx} {Γ : KG X.K} {pos : Pos}
theorem forL_kp {kp : Sto → Prop} {g : DTG} {tb : DTS} {items : List D} {D : DEnds} {δ : DSt} {S : Sto} (h : forL kp g tb items D δ S) : kp S := by
  cases items with
  | nil => exact h.1
  | cons d r => exact h.1
theorem dps_for {tg iter : Expr} {body : List Stmt} {ti : DTI} {g : DTG} {tb : DTS} (hi : DPI X Γ tg iter ti) (hg : DPG X Γ tg g) (hb : DPSs X Γ body tb) (hc : X.calm = true := by rfl) (hp : PassesOwn (model X.prog X.w) X.A X.env X.xe := by exact PassesOwn.never)
    (hs : ∀ x, foldedSetIterable iter X.env x = pure x := by intro _; rfl) : DPS X Γ (.For tg iter body [] pos) (dFor ti g tb) := by
  refine PSw (ps_for hp hc hi hg hb hs) fun D σ H ⟨F, δ, S, P, sm, rs, h, c⟩ => ?_
  refine ⟨F, δ, S, _, sm, rs, h, fun kp items S1 h1 J H1 g1 wk => ?_⟩
  have c1 := c.mono g1
  refine ⟨fun i m σ' H' => m = items.length - i ∧ i ≤ items.length ∧ ∃ δ' S', Go Γ F S1 H1 S' H' ∧ RelS X.K (fz F S' H') σ' δ' ∧ forL kp g tb (items.drop i) P δ' S', ⟨items.length, by simp, Nat.zero_le _, δ, S1, Go.refl g1.sim, rs.mono g1.same, h1⟩, ?_⟩
  rintro i m σ2 H2 ⟨rfl, hi, δ2, S2, g2, rs2, h2⟩
  obtain ⟨w1, w2, w3⟩ := wk F S2 H2 g2.same g2.sim (forL_kp h2)
  by_cases hlt : i < items.length
  · refine .inr ⟨w1 i hlt, fun σ' H' => ∃ δ' S', Go Γ F S1 H1 S' H' ∧ RelS X.K (fz F S' H') σ' δ' ∧ forL kp g tb (items.drop (i + 1)) P δ' S', fun σ' H' q => ⟨items.length - (i + 1), by omega, rfl, hlt, q⟩, fun x H3 y => ?_⟩
    obtain ⟨d, e, g3, rx⟩ := w3 i x H3 hlt y
    have ed : items.drop i = d :: items.drop (i + 1) := by
      rw [List.drop_eq_getElem_cons hlt]
      rw [List.getElem?_eq_getElem hlt] at e
      cases e
      rfl
    rw [ed] at h2
    refine ⟨F, d, δ2, S2, _, g3.sim, rx, rs2.mono g3.same, h2.2, fun δ4 S4 h4 σ4 H4 g4 rs4 => ?_⟩
    have g24 := (g2.trans g3).trans g4
    exact ⟨F, δ4, S4, _, g4.sim, rs4, h4, ⟨fun δ' S' h' σ' H' g' rs' => ⟨δ', S', g24.trans g', rs', h'⟩, (c1.mono g24).rt, (c1.mono g24).nx, fun δ' S' h' σ' H' g' rs' => ⟨δ', S', g24.trans g', rs', h'⟩⟩⟩
  · have e : i = items.length := by omega
    subst e
    rw [List.drop_length] at h2
    exact .inl ⟨w2, c1.nx _ _ h2.2 _ _ g2 rs2⟩
end
/-- a list (known, or mutable and left as it is): what must stay so, its items -/
def itOf (S : Sto) : D → Option ((Sto → Prop) × List D)
  | .lst ds => some (fun _ => True, ds)
  | .ro ds => some (fun _ => True, ds)
  | .ref a => match S a with | some (.lst ds) => some (fun S' => S' a = some (.lst ds), ds) | _ => none
  | _ => none
abbrev iSeq (te : DTE) : DTI := fun δ S Q => te δ S fun x S1 => match itOf S1 x with
  | some p => Q p.1 p.2 S1
  | none => False
abbrev iTupD (te : DTE) : DTI := fun δ S Q => te δ S fun x S1 => match x with
  | .tup ds => Q (fun _ => True) ds S1
  | _ => False
abbrev iStrD (te : DTE) : DTI := fun δ S Q => te δ S fun x S1 => match x with
  | .str z => Q (fun _ => True) (z.cps.toList.map fun c => .str ⟨#[c]⟩) S1
  | _ => False
def rngD (lo : Int) (n : Nat) : List D := (List.range n).map fun i => .int (lo + (i : Nat))
abbrev iRange1 (te : DTE) : DTI := fun δ S Q => te δ S fun x S1 => match x with
  | .int j => -(2 ^ 62) ≤ j ∧ j < 2 ^ 62 ∧ Q (fun _ => True) (rngD 0 j.toNat) S1
  | _ => False
abbrev iRange2 (ta tb : DTE) : DTI := fun δ S Q => ta δ S fun x S1 => tb δ S1 fun y S2 => match x, y with
  | .int i, .int j => (-(2 ^ 62) ≤ i ∧ i < 2 ^ 62 ∧ -(2 ^ 62) ≤ j ∧ j < 2 ^ 62) ∧ Q (fun _ => True) (rngD i (j - i).toNat) S2
  | _, _ => False
def enumD : Nat → List D → List D
  | _, [] => []
  | i, d :: r => .tup [.int (i : Nat), d] :: enumD (i + 1) r
/-- a list or a tuple (false) -/
def itAll (S : Sto) : D → Option ((Sto → Prop) × List D × Bool)
  | .tup ds => some (fun _ => True, ds, false)
  | x => (itOf S x).map fun p => (p.1, p.2, true)
abbrev iEnumD (te : DTE) : DTI := fun δ S Q => te δ S fun x S1 => match itAll S1 x with
  | some p => Q p.1 (enumD 0 p.2.1) S1
  | none => False
def zipD : List D → List D → List D
  | x :: xs, y :: ys => .tup [x, y] :: zipD xs ys
  | _, _ => []
abbrev iZipD (ta tb : DTE) : DTI := fun δ S Q => ta δ S fun x S1 => tb δ S1 fun y S2 => match itOf S2 x, itOf S2 y with
  | some p, some q => Q (fun S' => p.1 S' ∧ q.1 S') (zipD p.2 q.2) S2
  | _, _ => False
abbrev iRevD (te : DTE) : DTI := fun δ S Q => te δ S fun x S1 => match itOf S1 x with
  | some p => Q p.1 p.2.reverse S1
  | none => False
/-- a list that stands at a as long as kp holds -/
def Held {K : PySem.W.Frag} (Γ : KG K) (F : Addr → Bool) (S : Sto) (H : Hp) (kp : Sto → Prop) (a : Addr) (ds : List D) : Prop :=
  ∀ F' S' H', Same (fz F S H) (fz F' S' H') → Sim Γ F' S' H' → kp S' → ∃ xs, SqL K H' a xs ∧ RelL K (fz F' S' H') xs ds
theorem walk_seq {K : PySem.W.Frag} {Γ : KG K} {F : Addr → Bool} {S : Sto} {H : Hp} {a : Addr} {ds : List D} {kp : Sto → Prop} (hs : Held Γ F S H kp a ds) : WalkD Γ F S H kp ds (Itl K a) := fun F' S' H' g s k => by
  obtain ⟨xs, h1, h2⟩ := hs F' S' H' g s k
  have w := walk_list (K := K) (a := a) (xs := xs)
  rw [h2.length] at w
  refine ⟨fun i hi => w.goes i H' hi h1, w.stops H' h1, fun i x H2 hi y => ?_⟩
  obtain ⟨rfl, e⟩ := w.yields i H' x H2 hi h1 y
  obtain ⟨d, e1, r⟩ := h2.get' e
  exact ⟨d, e1, Go.refl s, r⟩
theorem enumD_get : ∀ {ds : List D} {i k : Nat} {d : D}, ds[i]? = some d → (enumD k ds)[i]? = some (.tup [.int ((k + i : Nat) : Int), d])
  | [], i, _, _, h => by simp at h
  | x :: r, 0, k, d, h => by simp at h; subst h; rfl
  | x :: r, i + 1, k, d, h => by
    have := enumD_get (ds := r) (i := i) (k := k + 1) (d := d) (by simpa using h)
    simp only [enumD, List.getElem?_cons_succ]
    rw [this]
    rw [show k + 1 + i = k + (i + 1) by omega]
theorem enumD_length : ∀ {ds : List D} {k : Nat}, (enumD k ds).length = ds.length
  | [], _ => rfl
  | x :: r, k => by simp [enumD, enumD_length (ds := r)]
theorem itOf_rel {K : PySem.W.Frag} {Γ : KG K} {F : Addr → Bool} {S : Sto} {H : Hp} {v : V} {d : D} {p : (Sto → Prop) × List D} (sm : Sim Γ F S H) (r : Rel K (fz F S H) v d) (h : itOf S d = some p) :
    ∃ a vs, v = .ref a ∧ SqL K H a vs ∧ RelL K (fz F S H) vs p.2 ∧ Held Γ F S H p.1 a p.2 := by
  cases r <;> first | (cases h; done) | skip
  · rename_i a
    simp only [itOf] at h
    split at h
    · rename_i ds e
      cases h
      obtain ⟨vs, e1, r1⟩ := sm.lst e
      refine ⟨a, vs, rfl, .of e1, r1, fun F' S' H' g' s' k => ?_⟩
      obtain ⟨vs', e2, r2⟩ := s'.lst k
      exact ⟨vs', .of e2, r2⟩
    · cases h
  · rename_i hs rl
    cases h
    exact ⟨_, _, rfl, .of (fz_same F S H _ _ hs), rl, fun F' S' H' g' _ _ => ⟨_, .of (fz_same F' S' H' _ _ (g' _ _ hs)), rl.mono g'⟩⟩
  · rename_i hs rl
    cases h
    exact ⟨_, _, rfl, (fz_same F S H).seq hs, rl, fun F' S' H' g' _ _ => ⟨_, ((fz_same F' S' H').seq (g'.seq hs)), rl.mono g'⟩⟩
/-- a list or a tuple that stands at a as long as kp holds -/
def HeldB {K : PySem.W.Frag} (Γ : KG K) (F : Addr → Bool) (S : Sto) (H : Hp) (kp : Sto → Prop) (a : Addr) (ds : List D) (b : Bool) : Prop :=
  ∀ F' S' H', Same (fz F S H) (fz F' S' H') → Sim Γ F' S' H' → kp S' → ∃ xs, SqB K H' a xs b ∧ RelL K (fz F' S' H') xs ds
theorem itAll_rel {K : PySem.W.Frag} {Γ : KG K} {F : Addr → Bool} {S : Sto} {H : Hp} {v : V} {d : D} {p : (Sto → Prop) × List D × Bool} (sm : Sim Γ F S H) (r : Rel K (fz F S H) v d) (h : itAll S d = some p) :
    ∃ a vs, v = .ref a ∧ SqB K H a vs p.2.2 ∧ RelL K (fz F S H) vs p.2.1 ∧ HeldB Γ F S H p.1 a p.2.1 p.2.2 := by
  have lists : ∀ q, itOf S d = some q → (q.1, q.2, true) = p → ∃ a vs, v = .ref a ∧ SqB K H a vs p.2.2 ∧ RelL K (fz F S H) vs p.2.1 ∧ HeldB Γ F S H p.1 a p.2.1 p.2.2 := fun q e1 e2 => by
    obtain ⟨a, vs, h1, h2, h3, h4⟩ := itOf_rel sm r e1
    subst e2
    exact ⟨a, vs, h1, h2, h3, h4⟩
  by_cases z : ∃ ds, d = .tup ds
  · obtain ⟨ds, rfl⟩ := z
    cases h
    cases r with
    | tup hs rl => exact ⟨_, _, rfl, sqT_mono (fz_same F S H) hs, rl, fun F' S' H' g' _ _ => ⟨_, sqT_mono (fz_same F' S' H') (hs.mono g'), rl.mono g'⟩⟩
  · have e : itAll S d = (itOf S d).map fun p => (p.1, p.2, true) := by
      cases d <;> first | rfl | exact absurd ⟨_, rfl⟩ z
    rw [e] at h
    obtain ⟨q, e1, e2⟩ := Option.map_eq_some_iff.mp h
    exact lists q e1 e2
theorem walk_en {K : PySem.W.Frag} {Γ : KG K} {F : Addr → Bool} {S : Sto} {H : Hp} {a : Addr} {ds : List D} {kp : Sto → Prop} {b : Bool} (hs : HeldB Γ F S H kp a ds b) : WalkD Γ F S H kp (enumD 0 ds) (ItE K a b) := fun F' S' H' g s k => by
  obtain ⟨xs, h1, h2⟩ := hs F' S' H' g s k
  rw [enumD_length]
  refine ⟨fun i hi => ?_, ⟨xs, h1, Nat.le_of_eq h2.length⟩, fun i x H2 hi y => ?_⟩
  · obtain ⟨v, e, _⟩ := h2.get (List.getElem?_eq_getElem hi)
    exact ⟨xs, v, h1, e⟩
  · obtain ⟨T, o, y1, rfl, hT, hd, rfl, e1⟩ := y
    obtain ⟨d, e3, r⟩ := h2.get' (e1 xs h1)
    refine ⟨_, enumD_get e3, s.new hT, ?_⟩
    rw [Nat.zero_add]
    exact fz_newT s hT hd (.cons (.int _) (.cons r .nil))
theorem zipD_length : ∀ {xs ys : List D}, (zipD xs ys).length = min xs.length ys.length
  | [], _ => by simp [zipD]
  | _ :: _, [] => by simp [zipD]
  | x :: xs, y :: ys => by simp [zipD, zipD_length (xs := xs) (ys := ys)]
theorem zipD_get : ∀ {xs ys : List D} {i : Nat} {x y : D}, xs[i]? = some x → ys[i]? = some y → (zipD xs ys)[i]? = some (.tup [x, y])
  | [], _, _, _, _, h, _ => by simp at h
  | _ :: _, [], _, _, _, _, h => by simp at h
  | a :: xs, b :: ys, 0, x, y, h, h' => by simp at h h'; subst h; subst h'; rfl
  | a :: xs, b :: ys, i + 1, x, y, h, h' => by simpa [zipD] using zipD_get (xs := xs) (ys := ys) (i := i) (by simpa using h) (by simpa using h')
section
variable {X : Cx} {Γ : KG X.K} {tg e a b : Expr} {te ta tb : DTE} {p pos tpos : Pos} {elts : List Expr} {kk : Nat}
theorem dpi_seq (h : DPE X Γ e te) : DPI X Γ tg e (iSeq te) := PIw (pi_list h) fun σ H R ⟨F, δ, S, P, sm, rs, h, c⟩ => ⟨F, δ, S, _, sm, rs, h, fun d S1 h1 v H1 g1 r1 => by
  split at h1
  · rename_i q e
    obtain ⟨a, vs, rfl, hs, _, w⟩ := itOf_rel g1.sim r1 e
    exact ⟨a, rfl, ⟨vs, hs⟩, c _ _ _ h1 _ _ g1 (walk_seq w)⟩
  · exact h1.elim⟩
theorem dpi_tup (h : DPE X Γ e te) : DPI X Γ tg e (iTupD te) := PIw (pi_tup h) fun σ H R ⟨F, δ, S, P, sm, rs, h, c⟩ => ⟨F, δ, S, _, sm, rs, h, fun d S1 h1 v H1 g1 r1 => by
  cases r1 <;> first | exact (h1 : False).elim | skip
  rename_i a vs ds hs rl
  refine ⟨_, rfl, ⟨_, sqT_mono (fz_same F S1 H1) hs⟩, c _ _ _ h1 _ _ g1 fun F' S' H' g' s' _ => ?_⟩
  have h2 := rl.mono g'
  have h3 := sqT_mono (fz_same F' S' H') (hs.mono g')
  have w := walk_tup (K := X.K) (a := a) (xs := vs)
  rw [h2.length] at w
  refine ⟨fun i hi => w.goes i H' hi h3, w.stops H' h3, fun i x H2 hi y => ?_⟩
  obtain ⟨rfl, e⟩ := w.yields i H' x H2 hi h3 y
  obtain ⟨d, e1, r⟩ := h2.get' e
  exact ⟨d, e1, Go.refl s', r⟩⟩
theorem dpi_str (h : DPE X Γ e te) : DPI X Γ tg e (iStrD te) := PIw (pi_str h) fun σ H R ⟨F, δ, S, P, sm, rs, h, c⟩ => ⟨F, δ, S, _, sm, rs, h, fun d S1 h1 v H1 g1 r1 => by
  cases r1 <;> first | exact (h1 : False).elim | skip
  rename_i z
  refine ⟨_, rfl, c _ _ _ h1 _ _ g1 fun F' S' H' g' s' _ => ?_⟩
  have w := walk_str (z := z)
  have hl : (z.cps.toList.map fun c => D.str ⟨#[c]⟩).length = z.cps.size := by simp
  rw [hl]
  refine ⟨fun i hi => w.goes i H' hi True.intro, w.stops H' True.intro, fun i x H2 hi y => ?_⟩
  obtain ⟨rfl, c0, e0, rfl⟩ := w.yields i H' x H2 hi True.intro y
  refine ⟨.str ⟨#[c0]⟩, ?_, Go.refl s', .str _⟩
  rw [List.getElem?_map, Array.getElem?_toList, e0]
  rfl⟩
theorem walk_rng {K : PySem.W.Frag} {Γ : KG K} {F : Addr → Bool} {S : Sto} {H : Hp} {lo : Int} {n : Nat} : WalkD Γ F S H (fun _ => True) (rngD lo n) (Itr lo n) := fun F' S' H' g s _ => by
  have w := walk_range (lo := lo) (n := n)
  have hl : (rngD lo n).length = n := by simp [rngD]
  rw [hl]
  refine ⟨fun i hi => w.goes i H' hi True.intro, w.stops H' True.intro, fun i x H2 hi y => ?_⟩
  obtain ⟨rfl, rfl⟩ := w.yields i H' x H2 hi True.intro y
  refine ⟨.int (lo + i), ?_, Go.refl s, .int _⟩
  unfold rngD
  rw [List.getElem?_map, List.getElem?_range hi]
  rfl
theorem dpi_range1 (hg : Gl X "range") (hm : X.mg "range" = none) (h : DPE X Γ a ta) (hs : starEach [a] X.env = [(false, eval a X.env)] := by rfl) (hs' : starEach [a] X.env = (false, eval a X.env) :: starEach [] X.env := by rfl) : DPI X Γ tg (.Call (.Name "range" p) [a] [] pos) (iRange1 ta) :=
  PIw (pi_range1 hg hm (dpa_cons h dpa_nil hs') hs) fun σ H R ⟨F, δ, S, P, sm, rs, h, c⟩ => ⟨F, δ, S, fun ds S1 => match ds with
  | [x] => (match x with
    | .int j => -(2 ^ 62) ≤ j ∧ j < 2 ^ 62 ∧ P (fun _ => True) (rngD 0 j.toNat) S1
    | _ => False)
  | _ => False, sm, rs, h, fun ds S1 h1 vs H1 g1 r1 => by
    rcases ds with _ | ⟨x, _ | ⟨_, _⟩⟩ <;> first | exact (h1 : False).elim | skip
    cases r1 with
    | cons r1 r2 =>
    cases r2
    cases r1 <;> first | exact (h1 : False).elim | skip
    obtain ⟨h1, h2, h3⟩ := h1
    exact ⟨_, rfl, h1, h2, c _ _ _ h3 _ _ g1 walk_rng⟩⟩
theorem dpi_range2 (hg : Gl X "range") (hm : X.mg "range" = none) (h : DPE X Γ a ta) (h' : DPE X Γ b tb) (hs : starEach [a, b] X.env = (false, eval a X.env) :: starEach [b] X.env := by rfl) (hs1 : starEach [b] X.env = (false, eval b X.env) :: starEach [] X.env := by rfl)
    (hs2 : starEach [a, b] X.env = [(false, eval a X.env), (false, eval b X.env)] := by rfl) (hs3 : starEach [b] X.env = [(false, eval b X.env)] := by rfl) : DPI X Γ tg (.Call (.Name "range" p) [a, b] [] pos) (iRange2 ta tb) :=
  PIw (pi_range2 hg hm (dpa_cons h (dpa_cons h' dpa_nil hs1) hs) hs2 hs3) fun σ H R ⟨F, δ, S, P, sm, rs, h, c⟩ => ⟨F, δ, S, fun ds S1 => match ds with
  | [x, y] => (match x, y with
    | .int i, .int j => (-(2 ^ 62) ≤ i ∧ i < 2 ^ 62 ∧ -(2 ^ 62) ≤ j ∧ j < 2 ^ 62) ∧ P (fun _ => True) (rngD i (j - i).toNat) S1
    | _, _ => False)
  | _ => False, sm, rs, h, fun ds S1 h1 vs H1 g1 r1 => by
    rcases ds with _ | ⟨x, _ | ⟨y, _ | ⟨_, _⟩⟩⟩ <;> first | exact (h1 : False).elim | skip
    cases x <;> first | exact (h1 : False).elim | skip
    cases y <;> first | exact (h1 : False).elim | skip
    cases r1 with
    | cons r1 r2 =>
    cases r2 with
    | cons r2 r3 =>
    cases r3
    cases r1; cases r2
    obtain ⟨h1, h3⟩ := h1
    exact ⟨_, _, rfl, h1, c _ _ _ h3 _ _ g1 walk_rng⟩⟩
theorem dpi_enum (hg : Gl X "enumerate") (hm : X.mg "enumerate" = none) (h : DPE X Γ a ta) (hs : starEach [a] X.env = [(false, eval a X.env)] := by rfl) (hs' : starEach [a] X.env = (false, eval a X.env) :: starEach [] X.env := by rfl) : DPI X Γ (.Tuple elts kk tpos) (.Call (.Name "enumerate" p) [a] [] pos) (iEnumD ta) :=
  PIw (pi_en hg hm (dpa_cons h dpa_nil hs') hs) fun σ H R ⟨F, δ, S, P, sm, rs, h, c⟩ => ⟨F, δ, S, fun ds S1 => match ds with
  | [x] => (match itAll S1 x with
    | some p => P p.1 (enumD 0 p.2.1) S1
    | none => False)
  | _ => False, sm, rs, h, fun ds S1 h1 vs H1 g1 r1 => by
    rcases ds with _ | ⟨x, _ | ⟨_, _⟩⟩ <;> first | exact (h1 : False).elim | skip
    cases r1 with
    | cons r1 r2 =>
    cases r2
    have h1 : match itAll S1 x with
      | some p => P p.1 (enumD 0 p.2.1) S1
      | none => False := h1
    split at h1
    · rename_i q e
      obtain ⟨a, vs, rfl, hs, _, w⟩ := itAll_rel g1.sim r1 e
      exact ⟨a, vs, _, rfl, hs, c _ _ _ h1 _ _ g1 (walk_en w)⟩
    · exact h1.elim⟩
end
/-! ### list comprehensions -/
abbrev dwipe (δ : DSt) : List Nat → DSt
  | [] => δ
  | v :: vs => dset (dwipe δ vs) v none
theorem RelS.wipe {K : PySem.W.Frag} {G : Hp} {σ : St} {δ : DSt} (r : RelS K G σ δ) : ∀ vs : List Nat, RelS K G (L2.wipe σ vs) (dwipe δ vs)
  | [] => r
  | v :: vs => by
    show RelS K G _ (L3.dset (dwipe δ vs) v none)
    rw [dset_eq]
    exact (RelS.wipe r vs).unset v
def lcL (kp : Sto → Prop) (g : DTG) (tt : DTT) (te : DTE) (vs : List Nat) (δ : DSt) : List D → List D → Sto → DK → Prop
  | [], acc, S, Q => kp S ∧ Q (.lst acc) S
  | d :: r, acc, S, Q => kp S ∧ acc.length < sizeLine ∧ g d (dwipe δ vs) S fun δ2 S2 => tt δ2 S2 fun b S3 =>
    if b = true then te δ2 S3 fun y S4 => lcL kp g tt te vs δ r (acc ++ [y]) S4 Q else lcL kp g tt te vs δ r acc S3 Q
abbrev dLc (ti : DTI) (g : DTG) (tt : DTT) (te : DTE) (vs : List Nat) : DTE := fun δ S Q => ti δ S fun kp items S1 => lcL kp g tt te vs δ items [] S1 Q
abbrev dYes : DTT := fun _ S Q => Q true S
theorem lcL_kp {kp : Sto → Prop} {g : DTG} {tt : DTT} {te : DTE} {vs : List Nat} {δ : DSt} {items acc : List D} {S : Sto} {Q : DK} (h : lcL kp g tt te vs δ items acc S Q) : kp S := by
  cases items with
  | nil => exact h.1
  | cons d r => exact h.1
section
variable {X : Cx} {Γ : KG X.K}
theorem lf_lc {K : PySem.W.Frag} {Γ : KG K} {wi : DTI} {tg : Tg} {tt : DTT} {te : DTE} {vs : List Nat} (hv : ∀ i ∈ tg.slots, i ∈ vs) (σ : St) (H : Hp) (Q : VK) (h : lf Γ (dLc wi (dTg tg) tt te vs) σ H Q) : tLc (lfI Γ wi) (gTg K tg) (lfT Γ tt) (lf Γ te) vs σ H Q := by
  obtain ⟨F, δ, S, P, sm, rs, h, c⟩ := h
  refine ⟨F, δ, S, _, sm, rs, h, fun kp items S1 h1 J H1 g1 wk => ?_⟩
  intro Dp hD
  have c1 := c.mono g1
  have s1 := g1.sim.hideNew (o := .lst []) hD
  have fD := (g1.sim.none hD).1
  -- the states of the loop
  refine ⟨fun i m H' => m = items.length - i ∧ i ≤ items.length ∧ ∃ S' vs' acc, Go Γ (hide F Dp) S1 (upd H1 Dp (.lst [])) S' (upd H' Dp (.lst [])) ∧ H' Dp = some (.lst vs') ∧ RelL K (fz (hide F Dp) S' H') vs' acc ∧ lcL kp (dTg tg) tt te vs δ (items.drop i) acc S' P,
    ⟨items.length, by simp, Nat.zero_le _, S1, [], [], by rw [upd_upd]; exact Go.refl s1, upd_same, .nil, h1⟩, ?_⟩
  rintro i m H2 ⟨rfl, hi, S2, vs2, acc, g2, e2, r2, h2⟩
  have s2 : Sim Γ (hide F Dp) S2 H2 := by
    have q := Sim.hidePut g1.sim fD g2.sim (o := .lst vs2)
    rw [upd_upd] at q
    have e : upd H2 Dp (.lst vs2) = H2 := by
      funext b
      by_cases z : b = Dp
      · subst z; rw [upd_same, e2]
      · rw [upd_ne z]
    rw [e] at q
    exact q
  -- from the loop's entry to here, all shown
  have go2 : Go Γ F S1 H1 S2 H2 := by
    refine .of g1.sim ⟨fun b x e => ?_, fun a f => ?_, s2.toSimB.show_ fD⟩
    · have q := g2.same b x (fz_hide_new hD b x e)
      rw [fz_hide_upd] at q
      exact fz_hide_same b x q
    · have np : a ≠ Dp := fun z => by subst z; rw [fD] at f; cases f
      have q := g2.hid a (by simp [hide, np, f])
      rw [upd_ne np, upd_ne np] at q
      exact q
  have rs2 : RelS K (fz (hide F Dp) S2 H2) σ δ := by
    have q : RelS K (fz (hide F Dp) S2 (upd H2 Dp (.lst []))) σ δ := ((rs.mono g1.same).mono (fz_hide_new hD)).mono g2.same
    rw [fz_hide_upd] at q
    exact q
  have sm2 : Same (fz F S1 H1) (fz (hide F Dp) S2 H2) := fun b x e => by
    have q := g2.same b x (fz_hide_new hD b x e)
    rw [fz_hide_upd] at q
    exact q
  obtain ⟨w1, w2, w3⟩ := wk (hide F Dp) S2 H2 sm2 s2 (lcL_kp h2)
  by_cases hlt : i < items.length
  · refine .inr ⟨w1 i hlt, fun H' => ∃ S' vs' acc, Go Γ (hide F Dp) S1 (upd H1 Dp (.lst [])) S' (upd H' Dp (.lst [])) ∧ H' Dp = some (.lst vs') ∧ RelL K (fz (hide F Dp) S' H') vs' acc ∧ lcL kp (dTg tg) tt te vs δ (items.drop (i + 1)) acc S' P,
      fun H' q => ⟨items.length - (i + 1), by omega, rfl, hlt, q⟩, fun x H3 y => ?_⟩
    obtain ⟨d, e, g3, rx⟩ := w3 i x H3 hlt y
    have ed : items.drop i = d :: items.drop (i + 1) := by
      rw [List.drop_eq_getElem_cons hlt]
      rw [List.getElem?_eq_getElem hlt] at e
      cases e
      rfl
    rw [ed] at h2
    obtain ⟨_, hacc, h2⟩ := h2
    -- later states, D behind them
    have later : ∀ {S4 : Sto} {H4 : Hp}, Go Γ (hide F Dp) S2 H2 S4 H4 → Go Γ (hide F Dp) S1 (upd H1 Dp (.lst [])) S4 (upd H4 Dp (.lst [])) := fun {S4 H4} g => by
      refine g2.trans ⟨?_, fun a f => ?_, Sim.hidePut g1.sim fD g.sim⟩
      · rw [fz_hide_upd, fz_hide_upd]
        exact g.same
      · by_cases z : a = Dp
        · subst z; rw [upd_same, upd_same]
        · rw [upd_ne z, upd_ne z]; exact g.hid a f
    refine gTg_ok tg rx ((rs2.wipe vs).mono g3.same) h2 fun σ4 δ4 rs4 h4 hw => ⟨?_, ?_⟩
    · rw [hw vs hv]
      exact wipe_wipe σ vs
    refine ⟨hide F Dp, δ4, S2, _, g3.sim, rs4, h4, fun b S5 h5 H5 g5 => ?_⟩
    have g25 := g3.trans g5
    cases b with
    | false => exact ⟨S5, vs2, acc, later g25, (g25.hid Dp (by simp [hide])).trans e2, r2.mono g25.same, h5⟩
    | true =>
      refine ⟨hide F Dp, δ4, S5, _, g5.sim, rs4.mono g5.same, h5, fun dy S6 h6 vy H6 g6 r6 => ?_⟩
      have g26 := g25.trans g6
      have e6 : H6 Dp = some (.lst vs2) := (g26.hid Dp (by simp [hide])).trans e2
      refine ⟨vs2, e6, by rw [r2.length]; exact hacc, S6, vs2 ++ [vy], acc ++ [dy], ?_, upd_same, ?_, h6⟩
      · rw [upd_upd]
        exact later g26
      · rw [fz_hide_upd]
        exact (r2.mono g26.same).append (.cons r6 .nil)
  · have e : i = items.length := by omega
    subst e
    rw [List.drop_length] at h2
    refine .inl ⟨w2, ?_⟩
    refine c1 _ _ h2.2 _ _ go2 (.lst ?_ (r2.mono fz_hide_same))
    cases z : S2 Dp with
    | none => rw [fz_none fD z]; exact e2
    | some u =>
      have := (s2.at_ Dp u z).1
      simp [hide] at this
where
  wipe_wipe (σ : St) (vs : List Nat) : L2.wipe (L2.wipe σ vs) vs = L2.wipe σ vs := by
    have c : ∀ (js : List Nat) (τ : St), (∀ j ∈ js, j < τ.length → τ[j]? = some none) → L2.wipe τ js = τ := by
      intro js
      induction js with
      | nil => intro τ _; rfl
      | cons j js ih =>
        intro τ h
        show (L2.wipe τ js).set j none = τ
        rw [ih τ fun k hk => h k (List.mem_cons_of_mem _ hk)]
        by_cases hj : j < τ.length
        · have q := h j List.mem_cons_self hj
          rw [List.getElem?_eq_getElem hj] at q
          have q' := Option.some.inj q
          rw [← q']
          exact List.set_getElem_self hj
        · exact List.set_eq_of_length_le (by omega)
    refine c vs _ fun j hj hl => ?_
    have d : ∀ (js : List Nat) (τ : St), j ∈ js → j < τ.length → (L2.wipe τ js)[j]? = some none := by
      intro js
      induction js with
      | nil => intro τ h; cases h
      | cons k js ih =>
        intro τ h hl
        show ((L2.wipe τ js).set k none)[j]? = some none
        rw [List.getElem?_set]
        by_cases z : k = j
        · rw [if_pos z, if_pos (by rw [wipe_length]; omega)]
        · rw [if_neg z]
          refine ih τ ?_ hl
          rcases List.mem_cons.mp h with e | e
          · exact absurd e.symm z
          · exact e
    exact d vs σ hj (by rw [wipe_length] at hl; exact hl)
theorem dpt_yes : ∀ {X : Cx} {Γ : KG X.K}, PTs X [] (lfT Γ dYes) := ⟨fun pins s σ H Q I ⟨F, δ, S, P, sm, rs, h, c⟩ => pts_nil.run pins s σ H Q I (c _ _ h _ (Go.refl sm))⟩
theorem dpts_one {c : Expr} {t : DTT} (h : DPT X Γ c t) : PTs X [c] (lfT Γ t) := pts_one h
theorem dpe_lc {elt tge iter : Expr} {ifs : List Expr} {scope : Scope} {own : List (Str × Nat)} {pos : Pos} {wi : DTI} {tg : Tg} {tt : DTT} {te : DTE} (hN : X.N.Nodup) (hi : DPI X Γ tge iter wi) (ok : BlkOk X.N X.env.scope scope own)
    (hg : ∀ (s : Shared) (H : Hp) (C : Addr) (cl : List (Str × Addr)) (fp : List Addr), PG (X.blk s H scope (compEnvC scope cl C X.env) fp) tge (gTg X.K tg)) (ht : ∀ (s : Shared) (H : Hp) (C : Addr) (cl : List (Str × Addr)) (fp : List Addr), PTs (X.blk s H scope (compEnvC scope cl C X.env) fp) ifs (lfT Γ tt))
    (he : ∀ (s : Shared) (H : Hp) (C : Addr) (cl : List (Str × Addr)) (fp : List Addr), DPE (X.blk s H scope (compEnvC scope cl C X.env) fp) Γ elt te) (hv : ∀ i ∈ tg.slots, i ∈ own.map (·.2) := by decide) (hc : X.calm = true := by rfl) (hs : ∀ x, foldedSetIterable iter X.env x = pure x := by intro _; rfl) :
    DPE X Γ (.ListComp elt [⟨tge, iter, ifs, 0⟩] scope pos) (dLc wi (dTg tg) tt te (own.map (·.2))) :=
  PEw (pe_lc (te := lf Γ te) hc hN hi ok hg ht (fun s H C cl fp => he s H C cl fp) hs) (lf_lc hv)
theorem dps_setLc {i : Nat} {y : Str} {py : Pos} {elt tge iter : Expr} {ifs : List Expr} {scope : Scope} {own : List (Str × Nat)} {pos spos : Pos} {wi : DTI} {tg : Tg} {tt : DTT} {te : DTE} (hN : X.N.Nodup) (hy : X.N[i]? = some y) (hyl : X.env.scope.names.lookup y = some .local)
    (hsw : swapsWith (.ListComp elt [⟨tge, iter, ifs, 0⟩] scope pos) (some (.Name y py)) spos.line X.env = pure true) (hi : DPI X Γ tge iter wi) (ok : BlkOk X.N X.env.scope scope own)
    (hg : ∀ (s : Shared) (H : Hp) (C : Addr) (cl : List (Str × Addr)) (fp : List Addr), PG (X.blk s H scope (compEnvC scope cl C X.env) fp) tge (gTg X.K tg)) (ht : ∀ (s : Shared) (H : Hp) (C : Addr) (cl : List (Str × Addr)) (fp : List Addr), PTs (X.blk s H scope (compEnvC scope cl C X.env) fp) ifs (lfT Γ tt))
    (he : ∀ (s : Shared) (H : Hp) (C : Addr) (cl : List (Str × Addr)) (fp : List Addr), DPE (X.blk s H scope (compEnvC scope cl C X.env) fp) Γ elt te) (hv : ∀ i ∈ tg.slots, i ∈ own.map (·.2) := by decide) (hc : X.calm = true := by rfl) (hs : ∀ x, foldedSetIterable iter X.env x = pure x := by intro _; rfl) :
    DPS X Γ (.Assign [.Name y py] (.ListComp elt [⟨tge, iter, ifs, 0⟩] scope pos) spos) (dAsg (dLc wi (dTg tg) tt te (own.map (·.2))) (dTg (.nm i))) := by
  refine PSw (ps_setLc (te := lf Γ te) hc hN hy hyl hsw hi ok hg ht (fun s H C cl fp => he s H C cl fp) hs) fun D σ H ⟨F, δ, S, P, sm, rs, h, c⟩ => ?_
  refine lf_lc hv σ H _ ⟨F, δ, S, _, sm, rs, h, fun d S1 h1 v H1 g1 r1 => ?_⟩
  exact c.nx _ _ h1 _ _ g1 ((rs.mono g1.same).dset r1 i)
end
/-! ### methods of lists -/
section
variable {X : Cx} {Γ : KG X.K} {o e a : Expr} {to te : DTE} {t : DTA} {es : List Expr} {apos cpos : Pos} {name : Str} {T id : String}
/-- a method of a built-in's object, by data: the receiver's type and the reading -/
structure DMt (X : Cx) (T id : String) (r' : D → List D → Sto → DK → Prop) : Prop where
  ex : ∃ r, MtR X id r ∧ LRM X.K r r' ∧ ∀ {Γ : KG X.K} x dx ds F S H P, Sim Γ F S H → Rel X.K (fz F S H) x dx → r' dx ds S P → tyV X.K T x H
abbrev dBM (r : D → List D → Sto → DK → Prop) (to : DTE) (t : DTA) : DTE := fun δ S Q => to δ S fun x S1 => t δ S1 fun xs S2 => r x xs S2 Q
/-- the receiver is looked at ahead of the arguments: what a list stays -/
def isSeq (S : Sto) : D → Prop
  | .ref a => ∃ ds, S a = some (.lst ds)
  | _ => False
abbrev dLM (r : D → List D → Sto → DK → Prop) (to : DTE) (t : DTA) : DTE := fun δ S Q => to δ S fun x S1 => isSeq S1 x ∧ t δ S1 fun xs S2 => r x xs S2 Q
theorem isSeq_ty {K : PySem.W.Frag} {Γ : KG K} {F : Addr → Bool} {S : Sto} {H : Hp} {v : V} {d : D} (sm : Sim Γ F S H) (r : Rel K (fz F S H) v d) (h : isSeq S d) : tyV K "list" v H := by
  cases r <;> first | exact (h : False).elim | skip
  obtain ⟨ds, e⟩ := h
  obtain ⟨vs, e1, r1⟩ := sm.lst e
  exact .inl ⟨rfl, vs, .of e1⟩
/-- a method of a mutable list -/
theorem dpe_lm {r : V → List V → Hp → VK → Prop} {r' : D → List D → Sto → DK → Prop} (slot : Slot "list" name id) (hty : typeOf (.builtin id) = pure (.type "method_descriptor")) (hm : MtM X id r) (hl : LRM X.K r r') (ho : DPE X Γ o to) (ha : DPA X Γ (e :: es) t)
    (hbase : attributeBase o name X.env (eval o X.env) = eval o X.env := by rfl)
    (hfew : ((backTo cpos (starEach (e :: es) X.env)).all (fun x => !x.1) && (backToKw cpos (keywordEach [] X.env)).all (fun x => x.1.isSome)
      && decide ((e :: es).length + ([] : List Keyword).length + (if ([] : List Keyword).isEmpty then 0 else 1) < 30)) = true := by rfl)
    (hline : (apos.endLine == cpos.line) = true := by rfl) (hs : starEach (e :: es) X.env = (false, eval e X.env) :: starEach es X.env := by rfl) (hplain : (backTo cpos (starEach es X.env)).any (·.1) = false := by rfl) :
    DPE X Γ (.Call (.Attribute o name apos) (e :: es) [] cpos) (dLM r' to t) :=
  PEw (pe_bm PySem.F.plainAttrs_list slot hty hm ho ha hbase hfew hline hs hplain) fun σ H Q ⟨F, δ, S, P, sm, rs, h, c⟩ =>
    ⟨F, δ, S, _, sm, rs, h, fun d S1 ⟨h0, h1⟩ v H1 g1 r1 => ⟨isSeq_ty g1.sim r1 h0, F, δ, S1, _, g1.sim, rs.mono g1.same, h1, fun ds S2 h2 vs H2 g2 r2 => hl v vs d ds F S2 H2 P Q g2.sim (r1.mono g2.same) r2 h2 (c.mono (g1.trans g2))⟩⟩
theorem dpe_lm0 {r : V → List V → Hp → VK → Prop} {r' : D → List D → Sto → DK → Prop} (slot : Slot "list" name id) (hty : typeOf (.builtin id) = pure (.type "method_descriptor")) (hm : MtM X id r) (hl : LRM X.K r r') (ho : DPE X Γ o to)
    (hbase : attributeBase o name X.env (eval o X.env) = eval o X.env := by rfl) (hline : (apos.endLine == cpos.line) = true := by rfl) :
    DPE X Γ (.Call (.Attribute o name apos) [] [] cpos) (dLM r' to dNil) :=
  PEw (pe_bm0 PySem.F.plainAttrs_list slot hty hm ho hbase hline) fun σ H Q ⟨F, δ, S, P, sm, rs, h, c⟩ =>
    ⟨F, δ, S, _, sm, rs, h, fun d S1 ⟨h0, h1⟩ v H1 g1 r1 => ⟨isSeq_ty g1.sim r1 h0, hl v [] d [] F S1 H1 P Q g1.sim r1 .nil h1 (c.mono g1)⟩⟩
/-- xs.append(y) -/
def vAppend : D → List D → Sto → DK → Prop
  | .ref a, [d], S, Q => match S a with
    | some (.lst ds) => ds.length < sizeLine ∧ Q .non (sup S a (.lst (ds ++ [d])))
    | _ => False
  | _, _, _, _ => False
theorem lr_append : LRM X.K rAppend vAppend := fun x xs dx ds F S H P Q sm rx rxs q c => by
  cases rx <;> first | exact (q : False).elim | skip
  rename_i a
  cases rxs with
  | nil => exact (q : False).elim
  | cons r1 r2 =>
  cases r2 with
  | cons _ _ => exact (q : False).elim
  | nil =>
  simp only [vAppend] at q
  split at q
  · rename_i ds e
    obtain ⟨vs, e1, rv⟩ := sm.lst e
    exact ⟨a, vs, _, rfl, rfl, e1, by rw [rv.length]; exact q.1, c.put (o := .lst (vs ++ [_])) (u' := .lst (ds ++ [_])) sm e ⟨_, rfl, rv.append (.cons r1 .nil)⟩ .non q.2⟩
  · exact q.elim
/-- xs.pop() -/
def vPop : D → List D → Sto → DK → Prop
  | .ref a, [], S, Q => match S a with
    | some (.lst ds) => match ds[ds.length - 1]? with | some d => Q d (sup S a (.lst ds.dropLast)) | none => False
    | _ => False
  | _, _, _, _ => False
theorem RelL.dropLast {K : PySem.W.Frag} {G : Hp} {xs : List V} {ds : List D} (r : RelL K G xs ds) : RelL K G xs.dropLast ds.dropLast := by
  rw [List.dropLast_eq_take, List.dropLast_eq_take, r.length]
  exact r.take _
theorem lr_pop : LRM X.K rPop vPop := fun x xs dx ds F S H P Q sm rx rxs q c => by
  cases rx <;> first | exact (q : False).elim | skip
  rename_i a
  cases rxs with
  | cons _ _ => exact (q : False).elim
  | nil =>
  simp only [vPop] at q
  split at q
  · rename_i ds e
    obtain ⟨vs, e1, rv⟩ := sm.lst e
    split at q
    · rename_i d e2
      obtain ⟨v, e3, r3⟩ := rv.get e2
      exact ⟨a, vs, v, rfl, rfl, e1, by rw [rv.length]; exact e3, c.put (o := .lst vs.dropLast) (u' := .lst ds.dropLast) sm e ⟨_, rfl, rv.dropLast⟩ r3 q⟩
    · exact q.elim
  · exact q.elim
end
end L3

set_option Elab.async false
set_option maxRecDepth 100000
set_option linter.all false
set_option maxHeartbeats 2000000
namespace L3
open PySem PySem.Spec PyProof.Rows L2
/-! ### defs and their promises -/
abbrev DSp := List D → Sto → DK → Prop
/-- nothing is known -/
def KG.top (K : PySem.W.Frag) : KG K := ⟨fun _ _ _ => True, fun _ _ _ => True.intro, fun _ _ _ => True.intro, fun _ _ _ _ => True.intro⟩
theorem Ct.top {K : PySem.W.Frag} {Γ : KG K} {F : Addr → Bool} {S : Sto} {H : Hp} {P : DK} {Q : VK} (sm : Sim Γ F S H) (c : Ct Γ F S H P Q) : Ct (KG.top K) F S H P Q := fun d S' h v H' g r => c d S' h v H' (.of sm g.b) r
theorem Sim.top {K : PySem.W.Frag} {Γ : KG K} {F : Addr → Bool} {S : Sto} {H : Hp} (sm : Sim Γ F S H) : Sim (KG.top K) F S H := ⟨sm.toSimB, True.intro⟩
def lfSp (K : PySem.W.Frag) (sp : DSp) : Sp := fun vs H Q _ => ∃ F ds S P, Sim (KG.top K) F S H ∧ RelL K (fz F S H) vs ds ∧ sp ds S P ∧ Ct (KG.top K) F S H P Q
abbrev FnD (P : Program) (w : World) (K : PySem.W.Frag) (mg : Str → Option Value) (base : Heap) (k : Nat) (f : Addr) (fd : FuncData) (ps : List Str) (sp : DSp) : Prop := FnOk P w K mg base CX0 k f fd ps (lfSp K sp)
abbrev dCall (sp : DSp) (t : DTA) : DTE := fun δ S Q => t δ S fun ds S1 => sp ds S1 Q
section
variable {X : Cx} {Γ : KG X.K} {k : Nat} {f : Addr} {fd : FuncData} {ps : List Str} {sp : DSp} {x : Str} {p pos : Pos} {e : Expr} {es : List Expr} {t : DTA}
theorem dpe_call (F : FnD X.prog X.w X.K X.mg X.base k f fd ps sp) (hr : Room k X.A) (hg : Gl X x) (hm : X.mg x = some (.ref f)) (hk : PySem.W.keepIn X.K (.ref f) = true) (hb : Binds X.K fd ps [])
    (ha : DPA X Γ (e :: es) t) (hdb : (x == ("__debug__" : Str)) = false := by decide) (he : starEach (e :: es) X.env = (false, eval e X.env) :: starEach es X.env := by rfl) (hpl : (backTo pos (starEach es X.env)).any (·.1) = false := by rfl) :
    DPE X Γ (.Call (.Name x p) (e :: es) [] pos) (dCall sp t) :=
  PEw (pe_call F hr hg hm hk hb .nil pass0 ha hdb he hpl) fun σ H Q ⟨F, δ, S, P, sm, rs, h, c⟩ => ⟨F, δ, S, _, sm, rs, h, fun ds S1 h1 vs H1 g1 r1 => by
    show lfSp X.K sp (vs ++ []) H1 Q E0
    rw [List.append_nil]
    exact ⟨F, ds, S1, P, g1.sim.top, r1, h1, (c.mono g1).top g1.sim⟩⟩
theorem dpe_call0 (F : FnD X.prog X.w X.K X.mg X.base k f fd ps sp) (hr : Room k X.A) (hg : Gl X x) (hm : X.mg x = some (.ref f)) (hk : PySem.W.keepIn X.K (.ref f) = true) (hb : Binds X.K fd ps [])
    (hdb : (x == ("__debug__" : Str)) = false := by decide) : DPE X Γ (.Call (.Name x p) [] [] pos) (dCall sp dNil) :=
  PEw (pe_call0 F hr hg hm hk hb .nil pass0 hdb) fun σ H Q ⟨F, δ, S, P, sm, rs, h, c⟩ => ⟨F, [], S, P, sm.top, .nil, h, c.top sm⟩
end
/-! what is handed back: parts of the store let go, lists that nobody changes any more -/
mutual
inductive Lw (S' S'' : Sto) : D → D → Prop
  | refl (d : D) : Lw S' S'' d d
  | frz {a : Addr} {ds es : List D} : S' a = some (.lst ds) → S'' a = none → LwL S' S'' ds es → Lw S' S'' (.ref a) (.lst es)
  | tup {ds es : List D} : LwL S' S'' ds es → Lw S' S'' (.tup ds) (.tup es)
inductive LwL (S' S'' : Sto) : List D → List D → Prop
  | nil : LwL S' S'' [] []
  | cons {d e : D} {ds es : List D} : Lw S' S'' d e → LwL S' S'' ds es → LwL S' S'' (d :: ds) (e :: es)
end
theorem LwL.refl {S' S'' : Sto} : ∀ ds : List D, LwL S' S'' ds ds
  | [] => .nil
  | d :: ds => .cons (.refl d) (LwL.refl ds)
section
variable {K : PySem.W.Frag} {Γ : KG K} {F : Addr → Bool} {S' S'' : Sto} {H : Hp}
theorem fz_less (h : ∀ a o, S'' a = some o → S' a = some o) : Same (fz F S' H) (fz F S'' H) := fun b x e => by
  obtain ⟨h0, h1, h2⟩ := fz_of e
  rw [fz_none h0 ?_]
  · exact h2
  · cases q : S'' b with
    | none => rfl
    | some u => rw [h b u q] at h1; cases h1
mutual
theorem Lw.rel (sm : Sim Γ F S' H) (h : ∀ a o, S'' a = some o → S' a = some o) : ∀ {d e : D} {v : V}, Lw S' S'' d e → Rel K (fz F S' H) v d → Rel K (fz F S'' H) v e
  | _, _, _, .refl d, r => r.mono (fz_less h)
  | _, _, _, .frz (a := a) h1 h2 l, r => by
    cases r
    obtain ⟨vs, e1, r1⟩ := sm.lst h1
    refine .lst ?_ (LwL.rel sm h l r1)
    rw [fz_none (sm.at_ _ _ h1).1 h2]
    exact e1
  | _, _, _, .tup l, r => by
    cases r with
    | tup hs rl => exact .tup (SqX.mono (fz_less h) hs) (LwL.rel sm h l rl)
theorem LwL.rel (sm : Sim Γ F S' H) (h : ∀ a o, S'' a = some o → S' a = some o) : ∀ {d e : List D} {v : List V}, LwL S' S'' d e → RelL K (fz F S' H) v d → RelL K (fz F S'' H) v e
  | _, _, _, .nil, .nil => .nil
  | _, _, _, .cons a b, .cons r t => .cons (Lw.rel sm h a r) (LwL.rel sm h b t)
end
end
/-- P holds of what is left -/
def Fin_ (P : DK) : DK := fun d S' => ∃ e S'', (∀ a o, S'' a = some o → S' a = some o) ∧ Lw S' S'' d e ∧ P e S''
theorem Fin_.of {P : DK} {d : D} {S : Sto} (h : P d S) : Fin_ P d S := ⟨d, S, fun _ _ q => q, .refl d, h⟩
theorem Ct.fin {K : PySem.W.Frag} {Γ : KG K} {F : Addr → Bool} {S : Sto} {H : Hp} {P : DK} {Q : VK} (sm : Sim Γ F S H) (c : Ct Γ F S H P Q) : Ct Γ F S H (Fin_ P) Q := fun d S' ⟨e, S'', h1, h2, h3⟩ v H' g r =>
  c e S'' h3 v H' (Go.drop sm g h1) (h2.rel g.sim h1 r)
abbrev dstart : List Str → List D → DSt
  | [], _ => []
  | _ :: N, [] => none :: dstart N []
  | _ :: N, d :: ds => some d :: dstart N ds
theorem rels_start {K : PySem.W.Frag} {G : Hp} : ∀ {N : List Str} {vs : List V} {ds : List D}, RelL K G vs ds → ds.length ≤ N.length → RelS K G (L2.start N vs) (dstart N ds)
  | [], _, _, .nil, _ => .nil
  | [], _, _, .cons _ _, h => by simp at h
  | x :: N, _, _, .nil, h => by
    have q := rels_start (N := N) (K := K) (G := G) .nil (Nat.zero_le _)
    exact .skip q
  | x :: N, _, _, .cons r t, h => by
    have q := rels_start (N := N) t (by simpa using h)
    have e : ∀ (v : V) (vs : List V), L2.start (x :: N) (v :: vs) = some v :: L2.start N vs := fun v vs => by
      unfold L2.start
      simp
    rw [e]
    exact .cons r q
/-! promises by their arguments -/
abbrev a0 (sp : Sto → DK → Prop) : DSp := fun ds S Q => match ds with | [] => sp S Q | _ => False
abbrev a1 (sp : D → Sto → DK → Prop) : DSp := fun ds S Q => match ds with | [a] => sp a S Q | _ => False
abbrev a2 (sp : D → D → Sto → DK → Prop) : DSp := fun ds S Q => match ds with | [a, b] => sp a b S Q | _ => False
abbrev a3 (sp : D → D → D → Sto → DK → Prop) : DSp := fun ds S Q => match ds with | [a, b, c] => sp a b c S Q | _ => False
abbrev a4 (sp : D → D → D → D → Sto → DK → Prop) : DSp := fun ds S Q => match ds with | [a, b, c, d] => sp a b c d S Q | _ => False
abbrev a5 (sp : D → D → D → D → D → Sto → DK → Prop) : DSp := fun ds S Q => match ds with | [a, b, c, d, e] => sp a b c d e S Q | _ => False
abbrev a6 (sp : D → D → D → D → D → D → Sto → DK → Prop) : DSp := fun ds S Q => match ds with | [a, b, c, d, e, f] => sp a b c d e f S Q | _ => False
theorem a0_len {sp} : ∀ ds S P, a0 sp ds S P → ds.length = 0
  | [], _, _, _ => rfl
  | _ :: _, _, _, h => (h : False).elim
theorem a1_len {sp} : ∀ ds S P, a1 sp ds S P → ds.length = 1
  | [_], _, _, _ => rfl
  | [], _, _, h | _ :: _ :: _, _, _, h => (h : False).elim
theorem a2_len {sp} : ∀ ds S P, a2 sp ds S P → ds.length = 2
  | [_, _], _, _, _ => rfl
  | [], _, _, h | [_], _, _, h | _ :: _ :: _ :: _, _, _, h => (h : False).elim
theorem a3_len {sp} : ∀ ds S P, a3 sp ds S P → ds.length = 3
  | [_, _, _], _, _, _ => rfl
  | [], _, _, h | [_], _, _, h | [_, _], _, _, h | _ :: _ :: _ :: _ :: _, _, _, h => (h : False).elim
theorem a4_len {sp} : ∀ ds S P, a4 sp ds S P → ds.length = 4
  | [_, _, _, _], _, _, _ => rfl
  | [], _, _, h | [_], _, _, h | [_, _], _, _, h | [_, _, _], _, _, h | _ :: _ :: _ :: _ :: _ :: _, _, _, h => (h : False).elim
theorem a5_len {sp} : ∀ ds S P, a5 sp ds S P → ds.length = 5
  | [_, _, _, _, _], _, _, _ => rfl
  | [], _, _, h | [_], _, _, h | [_, _], _, _, h | [_, _, _], _, _, h | [_, _, _, _], _, _, h | _ :: _ :: _ :: _ :: _ :: _ :: _, _, _, h => (h : False).elim
theorem a6_len {sp} : ∀ ds S P, a6 sp ds S P → ds.length = 6
  | [_, _, _, _, _, _], _, _, _ => rfl
  | [], _, _, h | [_], _, _, h | [_, _], _, _, h | [_, _, _], _, _, h | [_, _, _, _], _, _, h | [_, _, _, _, _], _, _, h | _ :: _ :: _ :: _ :: _ :: _ :: _ :: _, _, _, h => (h : False).elim
/-- what follows a def's body -/
abbrev DEnds.of (P : DK) : DEnds := { nx := fun _ S' => Fin_ P .non S', rt := Fin_ P }
section
variable {P : Program} {w : World} {K : PySem.W.Frag} {Γ : KG K} {mg : Str → Option Value} {base : Heap}
/-- a def: its derivation, its reading -/
theorem FnD.mk {x qual : Str} {st : Stmt} {f : Addr} {fd : FuncData} {N ps : List Str} {k : Nat} {sp : DSp} {t : DTS} (Fn : Fun K x qual st f fd) (Sc : FnScope N ps (defScope st)) (len : ∀ ds S P, sp ds S P → ds.length = ps.length)
    (hb : ∀ (cdv : Value) (A : Around) (outer : List Env) (s : Shared) (H : Hp) (E : XK), Room k (A.deeper (envOfC qual (defScope st) s.heap.objs.size f cdv)) → DPSs (cxOf CX0 P w K mg base N qual (defScope st) f cdv A outer s H E).nox (KG.top K) (defBody st) t)
    (hread : ∀ ds S P, sp ds S P → t (DEnds.of P) (dstart N ds) S) : FnD P w K mg base (k + 1) f fd ps sp := by
  refine Fn.ok Sc (fun vs H Q E ⟨F, ds, S, P, sm, rl, h, c⟩ => by rw [rl.length]; exact len _ _ _ h) fun cdv A outer s H vs Q E hr ⟨F, ds, S, P, sm, rl, h, c⟩ => ?_
  have hle : ps.length ≤ N.length := by
    have := congrArg List.length Sc.pre
    rw [List.length_take] at this
    omega
  refine ⟨_, hb cdv A outer s H E hr, F, dstart N ds, S, _, sm, rels_start rl (by rw [len _ _ _ h]; exact hle), hread ds S P h, ⟨fun δ' S' h' σ' H' g rs' => ?_, (c.fin sm), fun _ _ q => q.elim, fun _ _ q => q.elim⟩⟩
  exact (c.fin sm) _ _ h' _ _ g .non
/-- the law itself -/
def spTrue : DSp := fun ds S P => ∃ ns : List Int, ds = [.ro (ns.map .int)] ∧ ns.length ≤ 63 ∧ ∀ S', P (.bl true) S'
def spLaw (K : PySem.W.Frag) : Sp := fun vs H Q _ => ∃ (a : Addr) (ns : List Int), vs = [.ref a] ∧ SqL K H a (ns.map V.int) ∧ ns.length ≤ 63 ∧ ∀ H', Q (.bl true) H'
theorem FnD.law {k : Nat} {f : Addr} {fd : FuncData} (F : FnD P w K mg base k f fd ["script"] spTrue) : FnOk P w K mg base CX0 k f fd ["script"] (spLaw K) :=
  F.imp fun vs H Q E ⟨a, ns, e, hs, hl, q⟩ => by
    subst e
    have e0 : fz (fun _ => false) (fun _ => none) H = H := rfl
    refine ⟨fun _ => false, [.ro (ns.map .int)], fun _ => none, fun d _ => d = .bl true, ⟨⟨fun a o (z : none = some o) => (nomatch z), fun a (z : false = true) => (nomatch z)⟩, True.intro⟩, ?_, ⟨ns, rfl, hl, fun _ => rfl⟩, fun d S' e v H' g r => ?_⟩
    · rw [e0]
      exact .cons (.ro hs (.ofInts ns)) .nil
    · subst e
      cases r
      exact q H'
end
end L3

set_option Elab.async false
set_option maxRecDepth 100000
set_option linter.all false
set_option maxHeartbeats 2000000
namespace L3
open PySem L2
/-! ### lemmas for running readings -/
section
variable {α : Type} {a b c d e f g : α} {r : List α}
theorem atI_nat {xs : List α} {i : Nat} : atI xs (i : Int) = xs[i]? := by
  unfold atI ixN
  rw [if_pos (by omega)]
  by_cases h : i < xs.length
  · rw [if_pos (by omega)]
    simp
  · rw [if_neg (by omega)]
    simp at h
    simp [h]
theorem atI_int {xs : List α} {i : Int} (h0 : 0 ≤ i) : atI xs i = xs[i.toNat]? := by
  obtain ⟨n, rfl⟩ := Int.eq_ofNat_of_zero_le h0
  exact atI_nat
@[simp] theorem atI_0 : atI (a :: r) 0 = some a := atI_nat (i := 0)
@[simp] theorem atI_1 : atI (a :: b :: r) 1 = some b := atI_nat (i := 1)
@[simp] theorem atI_2 : atI (a :: b :: c :: r) 2 = some c := atI_nat (i := 2)
@[simp] theorem atI_3 : atI (a :: b :: c :: d :: r) 3 = some d := atI_nat (i := 3)
@[simp] theorem atI_4 : atI (a :: b :: c :: d :: e :: r) 4 = some e := atI_nat (i := 4)
@[simp] theorem atI_5 : atI (a :: b :: c :: d :: e :: f :: r) 5 = some f := atI_nat (i := 5)
end
@[simp] theorem toPs_map_int (p : List Int) : toPs (p.map .int) = p.map .int := by
  induction p with
  | nil => rfl
  | cons x p ih => simp only [List.map_cons, toPs, toP, ih]
@[simp] theorem okEs_map_int (p : List Int) : okEs (p.map .int) = true := by
  induction p with
  | nil => rfl
  | cons x p ih => simp only [List.map_cons, okEs, okE, ih, Bool.and_self]
@[simp] theorem deps_map_int (p : List Int) : deps (p.map .int) = 0 := by
  induction p with
  | nil => rfl
  | cons x p ih => simp only [List.map_cons, deps, dep, ih, Nat.max_self]
theorem eqvAll_ints : ∀ (p q : List Int), PyData.eqvAll (p.map .int) (q.map .int) = decide (p = q)
  | [], [] => by simp [PyData.eqvAll]
  | [], _ :: _ => by simp [PyData.eqvAll]
  | _ :: _, [] => by simp [PyData.eqvAll]
  | a :: p, b :: q => by simp only [List.map_cons, PyData.eqvAll, PyData.eqv, eqvAll_ints p q, List.cons.injEq, Bool.decide_and]; rfl
theorem cut_from {α : Type} (xs : List α) (n : Nat) : cut xs (some (n : Int)) none = xs.drop n := by
  unfold cut
  rw [HT.sIx_nat, HT.sIx_none]
  by_cases h : n ≤ xs.length
  · rw [Nat.min_eq_left h, List.take_of_length_le (by simp)]
  · rw [Nat.min_eq_right (by omega), List.drop_eq_nil_of_le (Nat.le_refl _), List.drop_eq_nil_of_le (by omega)]
    simp
theorem cut_to {α : Type} (xs : List α) (n : Nat) : cut xs none (some (n : Int)) = xs.take n := by
  unfold cut
  rw [HT.sIx_nat, HT.sIx_none]
  simp only [List.drop_zero, Nat.sub_zero]
  by_cases h : n ≤ xs.length
  · rw [Nat.min_eq_left h]
  · rw [Nat.min_eq_right (by omega), List.take_of_length_le (Nat.le_refl _), List.take_of_length_le (by omega)]
theorem cut_map {α β : Type} (f : α → β) (xs : List α) (lo hi : Option Int) : cut (xs.map f) lo hi = (cut xs lo hi).map f := by
  unfold cut
  rw [List.length_map, List.map_take, List.map_drop]
/-- a comprehension whose elements are told by a function, nothing changes -/
theorem lcL_pure {kp : Sto → Prop} {te : DTE} {vs : List Nat} {δ : DSt} {i : Nat} {S : Sto} {Q : DK} (f : D → D) (hk : kp S) : ∀ (ds acc : List D), acc.length + ds.length ≤ sizeLine →
    (∀ d ∈ ds, ∀ P : DK, P (f d) S → te (dset (dwipe δ vs) i (some d)) S P) → Q (.lst (acc ++ ds.map f)) S → lcL kp (dTg (.nm i)) dYes te vs δ ds acc S Q
  | [], acc, _, _, q => ⟨hk, by simpa using q⟩
  | d :: ds, acc, hz, he, q => by
    refine ⟨hk, by simp only [List.length_cons] at hz; omega, ?_⟩
    show (if true = true then te _ S _ else _)
    rw [if_pos rfl]
    refine he d List.mem_cons_self _ ?_
    refine lcL_pure f hk ds (acc ++ [f d]) (by simp only [List.length_append, List.length_cons, List.length_nil] at hz ⊢; omega) (fun e h => he e (List.mem_cons_of_mem _ h)) ?_
    simpa using q
/-- a for, by an invariant over the turn's number -/
theorem forL_inv {kp : Sto → Prop} {g : DTG} {tb : DTS} {D' : DEnds} (I : Nat → DSt → Sto → Prop) (hk : ∀ i δ S, I i δ S → kp S) : ∀ (ds : List D) (i : Nat) (δ : DSt) (S : Sto), I i δ S →
    (∀ (j : Nat) (d : D) δ S, ds[j]? = some d → I (i + j) δ S → ∀ D2 : DEnds, D2.rt = D'.rt → D2.bk = D'.nx → (∀ δ S, I (i + j + 1) δ S → D2.nx δ S) → (∀ δ S, I (i + j + 1) δ S → D2.ct δ S) → g d δ S fun δ1 S1 => tb D2 δ1 S1) →
    (∀ δ S, I (i + ds.length) δ S → D'.nx δ S) → forL kp g tb ds D' δ S
  | [], i, δ, S, h, _, he => ⟨hk _ _ _ h, he _ _ h⟩
  | d :: ds, i, δ, S, h, hs, he => by
    have rec_ : ∀ δ S, I (i + 1) δ S → forL kp g tb ds D' δ S := fun δ S h' => forL_inv I hk ds (i + 1) δ S h' (fun j e δ S h1 h2 D2 a b c c' => hs (j + 1) e δ S (by simpa using h1) (by rw [show i + (j + 1) = i + 1 + j by omega]; exact h2) D2 a b
        (fun δ S z => c δ S (by rw [show i + 1 + j + 1 = i + (j + 1) + 1 by omega]; exact z)) (fun δ S z => c' δ S (by rw [show i + 1 + j + 1 = i + (j + 1) + 1 by omega]; exact z)))
      (fun δ S z => he δ S (by rw [List.length_cons, show i + (ds.length + 1) = i + 1 + ds.length by omega]; exact z))
    exact ⟨hk _ _ _ h, hs 0 d δ S rfl h { D' with nx := forL kp g tb ds D', ct := forL kp g tb ds D', bk := D'.nx } rfl rfl rec_ rec_⟩
/-- a while, by an invariant over the most turns that are left -/
theorem whileN_inv {c : DTT} {tb : DTS} {D' : DEnds} (I : Nat → DSt → Sto → Prop)
    (hs : ∀ n δ S, I n δ S → ∀ D2 : DEnds, D2.rt = D'.rt → D2.bk = D'.nx → (∀ k δ S, n = k + 1 → I k δ S → D2.nx δ S) → (∀ k δ S, n = k + 1 → I k δ S → D2.ct δ S) → c δ S fun b S1 => if b = true then tb D2 δ S1 else D'.nx δ S1) :
    ∀ n δ S, I n δ S → whileN c tb (n + 1) D' δ S
  | 0, δ, S, h => hs 0 δ S h { D' with nx := whileN c tb 0 D', ct := whileN c tb 0 D', bk := D'.nx } rfl rfl (fun k δ S e => by omega) (fun k δ S e => by omega)
  | n + 1, δ, S, h => hs (n + 1) δ S h { D' with nx := whileN c tb (n + 1) D', ct := whileN c tb (n + 1) D', bk := D'.nx } rfl rfl
      (fun k δ S e z => by rw [show n = k by omega]; exact whileN_inv I hs k δ S z) (fun k δ S e z => by rw [show n = k by omega]; exact whileN_inv I hs k δ S z)
theorem Fin_.same {P : DK} {d : D} {S : Sto} (h : P d S) : Fin_ P d S := .of h
/-! ### equations for running readings: nothing is opened that is not known -/
def vAt : Option D → Sto → DK → Prop
  | some d, S, Q => Q d S
  | none, _, _ => False
theorem vAt_some {d S Q} : vAt (some d) S Q = Q d S := rfl
def vAtL : Option SO → Int → Sto → DK → Prop
  | some (.lst ds), i, S, Q => vAt (atI ds i) S Q
  | _, _, _, _ => False
theorem vAtL_lst {ds i S Q} : vAtL (some (.lst ds)) i S Q = vAt (atI ds i) S Q := rfl
section
variable {a b : Addr} {i j : Int} {x y d : D} {xs ys ds : List D} {s t : Str} {p q : Bool} {S : Sto} {Q : DK} {n : String} {lo hi : Option Int}
theorem vIx_tup : vIx (.tup ds) (.int i) S Q = vAt (atI ds i) S Q := by simp only [vIx]; cases atI ds i <;> rfl
theorem vIx_lst : vIx (.lst ds) (.int i) S Q = vAt (atI ds i) S Q := by simp only [vIx]; cases atI ds i <;> rfl
theorem vIx_ro : vIx (.ro ds) (.int i) S Q = vAt (atI ds i) S Q := by simp only [vIx]; cases atI ds i <;> rfl
theorem vIx_ref : vIx (.ref a) (.int i) S Q = vAtL (S a) i S Q := by
  simp only [vIx]
  rcases S a with _ | (ds | _ | _) <;> first | rfl | (simp only [vAtL]; cases atI ds i <;> rfl)
theorem vIx_str : vIx (.str s) (.int i) S Q = (s.length ≤ sizeLine ∧ match atI s.cps.toList i with | some c => Q (.str ⟨#[c]⟩) S | none => False) := rfl
theorem vSl_tup : vSl (.tup ds) lo hi S Q = Q (.tup (cut ds lo hi)) S := rfl
theorem vSl_lst : vSl (.lst ds) lo hi S Q = Q (.lst (cut ds lo hi)) S := rfl
theorem vSl_ro : vSl (.ro ds) lo hi S Q = Q (.lst (cut ds lo hi)) S := rfl
theorem vSl_str : vSl (.str s) lo hi S Q = (s.length ≤ sizeLine ∧ Q (.str (cutS s lo hi)) S) := rfl
def vSlL : Option SO → Option Int → Option Int → Sto → DK → Prop
  | some (.lst ds), lo, hi, S, Q => Q (.lst (cut ds lo hi)) S
  | _, _, _, _, _ => False
theorem vSlL_lst : vSlL (some (.lst ds)) lo hi S Q = Q (.lst (cut ds lo hi)) S := rfl
theorem vSl_ref : vSl (.ref a) lo hi S Q = vSlL (S a) lo hi S Q := by
  simp only [vSl]
  rcases S a with _ | (_ | _ | _) <;> rfl
theorem vLen_str : vLen [.str s] S Q = (s.length ≤ sizeLine ∧ Q (.int s.length) S) := rfl
theorem vLen_tup : vLen [.tup ds] S Q = Q (.int ds.length) S := rfl
theorem vLen_lst : vLen [.lst ds] S Q = Q (.int ds.length) S := rfl
theorem vLen_ro : vLen [.ro ds] S Q = Q (.int ds.length) S := rfl
def vLenL : Option SO → Sto → DK → Prop
  | some (.lst ds), S, Q => Q (.int ds.length) S
  | some (.dK kvs), S, Q => Q (.int kvs.length) S
  | _, _, _ => False
theorem vLenL_lst : vLenL (some (.lst ds)) S Q = Q (.int ds.length) S := rfl
theorem vLenL_dK {kvs : List (Key × D)} : vLenL (some (.dK kvs)) S Q = Q (.int kvs.length) S := rfl
theorem vLen_ref : vLen [.ref a] S Q = vLenL (S a) S Q := by
  simp only [vLen]
  rcases S a with _ | (_ | _ | _) <;> rfl
theorem vAdd_int : vAdd (.int i) (.int j) S Q = Q (.int (i + j)) S := rfl
theorem vAdd_str : vAdd (.str s) (.str t) S Q = (s.length + t.length ≤ sizeLine ∧ Q (.str (s ++ t)) S) := rfl
theorem vAdd_tup : vAdd (.tup xs) (.tup ys) S Q = (xs.length + ys.length ≤ sizeLine ∧ Q (.tup (xs ++ ys)) S) := rfl
theorem vAdd_lst : vAdd (.lst xs) (.lst ys) S Q = (xs.length + ys.length ≤ sizeLine ∧ Q (.lst (xs ++ ys)) S) := rfl
def vAddL : Option SO → List D → Sto → DK → Prop
  | some (.lst ds), ys, S, Q => ds.length + ys.length ≤ sizeLine ∧ Q (.lst (ds ++ ys)) S
  | _, _, _, _ => False
theorem vAddL_lst : vAddL (some (.lst ds)) ys S Q = (ds.length + ys.length ≤ sizeLine ∧ Q (.lst (ds ++ ys)) S) := rfl
theorem vAdd_ref : vAdd (.ref a) (.lst ys) S Q = vAddL (S a) ys S Q := by
  simp only [vAdd]
  rcases S a with _ | (_ | _ | _) <;> rfl
theorem vSub_int : vSub (.int i) (.int j) S Q = Q (.int (i - j)) S := rfl
theorem vLt_int : vLt (.int i) (.int j) S Q = Q (.bl (decide (i < j))) S := rfl
theorem vLe_int : vLe (.int i) (.int j) S Q = Q (.bl (decide (i ≤ j))) S := rfl
theorem vGt_int : vGt (.int i) (.int j) S Q = Q (.bl (decide (j < i))) S := rfl
theorem vGe_int : vGe (.int i) (.int j) S Q = Q (.bl (decide (j ≤ i))) S := rfl
theorem vMod_int : vMod (.int i) (.int j) S Q = (0 < j ∧ Q (.int (i % j)) S) := rfl
theorem vDiv_int : vDiv (.int i) (.int j) S Q = (CDiv i j ∧ Q (.int (i / j)) S) := rfl
theorem vPow_int : vPow (.int i) (.int j) S Q = (CPow i j ∧ Q (.int (i ^ j.toNat)) S) := rfl
theorem vShl_int : vShl (.int i) (.int j) S Q = (CPow i j ∧ Q (.int (i * 2 ^ j.toNat)) S) := rfl
theorem vMul_int : vMul (.int i) (.int j) S Q = ((CMul i j ∨ CMulW i j) ∧ Q (.int (i * j)) S) := rfl
theorem vMul_tup : vMul (.tup ds) (.int j) S Q = (-1000 ≤ j ∧ j ≤ 1000 ∧ ds.length ≤ 1000 ∧ Q (.tup (List.replicate j.toNat ds).flatten) S) := rfl
theorem vMul_lst : vMul (.lst ds) (.int j) S Q = (-(2 ^ 63) ≤ j ∧ j < 2 ^ 63 ∧ ds.length * j.toNat ≤ sizeLine ∧ Q (.lst (List.replicate j.toNat ds).flatten) S) := rfl
theorem vEq_int : vEq (.int i) (.int j) S Q = Q (.bl (decide (i = j))) S := rfl
theorem vEq_str : vEq (.str s) (.str t) S Q = Q (.bl (decide (s = t))) S := rfl
theorem vEq_bl : vEq (.bl p) (.bl q) S Q = Q (.bl (decide (p = q))) S := rfl
theorem vEq_tup : vEq (.tup xs) (.tup ys) S Q = (okE (.tup xs) = true ∧ okE (.tup ys) = true ∧ dep (.tup xs) ≤ 64 ∧ dep (.tup ys) ≤ 64 ∧ Q (.bl (eqv (.tup xs) (.tup ys))) S) := rfl
theorem vEq_lst : vEq (.lst xs) (.lst ys) S Q = (okE (.lst xs) = true ∧ okE (.lst ys) = true ∧ dep (.lst xs) ≤ 64 ∧ dep (.lst ys) ≤ 64 ∧ Q (.bl (eqv (.lst xs) (.lst ys))) S) := rfl
theorem vNe_int : vNe (.int i) (.int j) S Q = Q (.bl (!decide (i = j))) S := rfl
theorem vNe_str : vNe (.str s) (.str t) S Q = Q (.bl (!decide (s = t))) S := rfl
theorem vNe_bl : vNe (.bl p) (.bl q) S Q = Q (.bl (!decide (p = q))) S := rfl
theorem vNe_tup : vNe (.tup xs) (.tup ys) S Q = (okE (.tup xs) = true ∧ okE (.tup ys) = true ∧ dep (.tup xs) ≤ 64 ∧ dep (.tup ys) ≤ 64 ∧ Q (.bl (!eqv (.tup xs) (.tup ys))) S) := rfl
theorem isN_non : isN .non = true := rfl
theorem isN_bl : isN (.bl p) = false := rfl
theorem isN_int : isN (.int i) = false := rfl
theorem isN_str : isN (.str s) = false := rfl
theorem isN_tup : isN (.tup ds) = false := rfl
theorem isN_lst : isN (.lst ds) = false := rfl
theorem isN_ref : isN (.ref a) = false := rfl
theorem vIs_non : vIs x .non S Q = Q (.bl (isN x)) S := rfl
theorem vIsNot_non : vIsNot x .non S Q = Q (.bl (!isN x)) S := rfl
theorem vNeg_int : vNeg (.int i) S Q = Q (.int (-i)) S := rfl
theorem vInt_int : vInt [.int i] S Q = Q (.int i) S := rfl
theorem vInt_bl : vInt [.bl p] S Q = Q (.int (if p then 1 else 0)) S := rfl
theorem vBool_int : vBool [.int i] S Q = Q (.bl (i != 0)) S := rfl
theorem vBool_bl : vBool [.bl p] S Q = Q (.bl p) S := rfl
theorem vAbs_int : vAbs [.int i] S Q = Q (.int (if i < 0 then -i else i)) S := rfl
theorem vMin2_int : vMin2 [.int i, .int j] S Q = Q (.int (if j < i then j else i)) S := rfl
theorem vMax2_int : vMax2 [.int i, .int j] S Q = Q (.int (if j > i then j else i)) S := rfl
theorem vTuple_tup : vTuple [.tup ds] S Q = Q (.tup ds) S := rfl
theorem vTuple_lst : vTuple [.lst ds] S Q = Q (.tup ds) S := rfl
def vTupleL : Option SO → Sto → DK → Prop
  | some (.lst ds), S, Q => Q (.tup ds) S
  | _, _, _ => False
theorem vTupleL_lst : vTupleL (some (.lst ds)) S Q = Q (.tup ds) S := rfl
theorem vTuple_ref : vTuple [.ref a] S Q = vTupleL (S a) S Q := by
  simp only [vTuple]
  rcases S a with _ | (_ | _ | _) <;> rfl
theorem vList_tup : vList [.tup ds] S Q = Q (.lst ds) S := rfl
theorem vList_lst : vList [.lst ds] S Q = Q (.lst ds) S := rfl
def vAllO (f : List Bool → Bool) : Option (List Bool) → Sto → DK → Prop
  | some bs, S, Q => Q (.bl (f bs)) S
  | none, _, _ => False
theorem vAllO_some {f : List Bool → Bool} {bs : List Bool} : vAllO f (some bs) S Q = Q (.bl (f bs)) S := rfl
theorem vAll_x : vAll [x] S Q = vAllO (fun bs => bs.all id) ((seqOf S x).bind asBls) S Q := by
  simp only [vAll]
  cases (seqOf S x).bind asBls <;> rfl
theorem vAny_x : vAny [x] S Q = vAllO (fun bs => bs.any id) ((seqOf S x).bind asBls) S Q := by
  simp only [vAny]
  cases (seqOf S x).bind asBls <;> rfl
theorem seqOf_lst : seqOf S (.lst ds) = some ds := rfl
theorem vIsi_x : vIsi [x, .ty n] S Q = vAllO (fun bs => bs.all id) ((isiT x n).map fun b => [b]) S Q := by
  simp only [vIsi]
  cases isiT x n with
  | none => rfl
  | some b => simp [vAllO]
theorem vIadd_int : vIadd (.int i) (.int j) S Q = Q (.int (i + j)) S := rfl
theorem vIadd_str : vIadd (.str s) (.str t) S Q = (s.length + t.length ≤ sizeLine ∧ Q (.str (s ++ t)) S) := rfl
def vAppL : Option SO → Addr → D → Sto → DK → Prop
  | some (.lst ds), a, d, S, Q => ds.length < sizeLine ∧ Q .non (sup S a (.lst (ds ++ [d])))
  | _, _, _, _, _ => False
theorem vAppL_lst : vAppL (some (.lst ds)) a d S Q = (ds.length < sizeLine ∧ Q .non (sup S a (.lst (ds ++ [d])))) := rfl
theorem vAppend_ref : vAppend (.ref a) [d] S Q = vAppL (S a) a d S Q := by
  simp only [vAppend]
  rcases S a with _ | (_ | _ | _) <;> rfl
def vSetO : Option SO → Addr → Int → D → Sto → (Sto → Prop) → Prop
  | some (.lst ds), a, k, v, S, Q => match ixN ds.length k with | some j => Q (sup S a (.lst (ds.set j v))) | none => False
  | _, _, _, _, _, _ => False
def vSetN : Option Nat → Addr → List D → D → Sto → (Sto → Prop) → Prop
  | some j, a, ds, v, S, Q => Q (sup S a (.lst (ds.set j v)))
  | none, _, _, _, _, _ => False
theorem vSetN_some {j : Nat} {Q : Sto → Prop} : vSetN (some j) a ds d S Q = Q (sup S a (.lst (ds.set j d))) := rfl
theorem vSetO_lst {Q : Sto → Prop} : vSetO (some (.lst ds)) a i d S Q = vSetN (ixN ds.length i) a ds d S Q := by
  simp only [vSetO]
  cases ixN ds.length i <;> rfl
theorem vSet_ref {Q : Sto → Prop} : vSet (.ref a) (.int i) d S Q = vSetO (S a) a i d S Q := by
  simp only [vSet]
  rcases S a with _ | (_ | _ | _) <;> rfl
theorem isSeq_ref : isSeq S (.ref a) = ∃ ds, S a = some (.lst ds) := rfl
theorem ex_lst : (∃ ds, (some (SO.lst xs)) = some (.lst ds)) = True := by simp
theorem isiT_int_int : isiT (.int i) "int" = some true := rfl
theorem isiT_int_bool : isiT (.int i) "bool" = some false := rfl
theorem isiT_int_tuple : isiT (.int i) "tuple" = some false := rfl
theorem isiT_int_str : isiT (.int i) "str" = some false := rfl
theorem isiT_int_list : isiT (.int i) "list" = some false := rfl
theorem isiT_bl_int : isiT (.bl p) "int" = some true := rfl
theorem isiT_bl_bool : isiT (.bl p) "bool" = some true := rfl
theorem isiT_bl_tuple : isiT (.bl p) "tuple" = some false := rfl
theorem isiT_bl_str : isiT (.bl p) "str" = some false := rfl
theorem isiT_bl_list : isiT (.bl p) "list" = some false := rfl
theorem isiT_non_int : isiT .non "int" = some false := rfl
theorem isiT_non_bool : isiT .non "bool" = some false := rfl
theorem isiT_non_tuple : isiT .non "tuple" = some false := rfl
theorem isiT_non_str : isiT .non "str" = some false := rfl
theorem isiT_non_list : isiT .non "list" = some false := rfl
theorem isiT_str_int : isiT (.str s) "int" = some false := rfl
theorem isiT_str_bool : isiT (.str s) "bool" = some false := rfl
theorem isiT_str_tuple : isiT (.str s) "tuple" = some false := rfl
theorem isiT_str_str : isiT (.str s) "str" = some true := rfl
theorem isiT_str_list : isiT (.str s) "list" = some false := rfl
theorem isiT_tup_int : isiT (.tup ds) "int" = some false := rfl
theorem isiT_tup_bool : isiT (.tup ds) "bool" = some false := rfl
theorem isiT_tup_tuple : isiT (.tup ds) "tuple" = some true := rfl
theorem isiT_tup_str : isiT (.tup ds) "str" = some false := rfl
theorem isiT_tup_list : isiT (.tup ds) "list" = some false := rfl
theorem isiT_lst_int : isiT (.lst ds) "int" = some false := rfl
theorem isiT_lst_bool : isiT (.lst ds) "bool" = some false := rfl
theorem isiT_lst_tuple : isiT (.lst ds) "tuple" = some false := rfl
theorem isiT_lst_str : isiT (.lst ds) "str" = some false := rfl
theorem isiT_lst_list : isiT (.lst ds) "list" = some true := rfl
end
theorem all1 {b : Bool} : [b].all id = b := by simp
/-! ### steps -/
abbrev ml (p : List Int) : List D := p.map .int
section
variable {a b c d e f g x y z : D} {i j : Int} {xs ys ds : List D} {p q : List Int} {s t : Str} {u v : Bool} {S : Sto} {Q : DK} {n : String} {A : Addr} {lo hi : Option Int} {so : SO} {X Y : Prop} {k : Nat}
theorem st_ix0 (h : Q a S) : vIx (.tup (a :: xs)) (.int 0) S Q := by rw [vIx_tup, atI_0]; exact h
theorem st_ix1 (h : Q b S) : vIx (.tup (a :: b :: xs)) (.int 1) S Q := by rw [vIx_tup, atI_1]; exact h
theorem st_ix2 (h : Q c S) : vIx (.tup (a :: b :: c :: xs)) (.int 2) S Q := by rw [vIx_tup, atI_2]; exact h
theorem st_ix3 (h : Q d S) : vIx (.tup (a :: b :: c :: d :: xs)) (.int 3) S Q := by rw [vIx_tup, atI_3]; exact h
theorem st_ix4 (h : Q e S) : vIx (.tup (a :: b :: c :: d :: e :: xs)) (.int 4) S Q := by rw [vIx_tup, atI_4]; exact h
theorem st_lx0 (h : Q a S) : vIx (.lst (a :: xs)) (.int 0) S Q := by rw [vIx_lst, atI_0]; exact h
theorem st_lx1 (h : Q b S) : vIx (.lst (a :: b :: xs)) (.int 1) S Q := by rw [vIx_lst, atI_1]; exact h
theorem st_lx2 (h : Q c S) : vIx (.lst (a :: b :: c :: xs)) (.int 2) S Q := by rw [vIx_lst, atI_2]; exact h
theorem st_lx3 (h : Q d S) : vIx (.lst (a :: b :: c :: d :: xs)) (.int 3) S Q := by rw [vIx_lst, atI_3]; exact h
theorem st_len_p (h : Q (.int (p.length : Nat)) S) : vLen [.tup (p.map .int)] S Q := by rw [vLen_tup, List.length_map]; exact h
theorem st_len_lp (h : Q (.int (p.length : Nat)) S) : vLen [.lst (p.map .int)] S Q := by rw [vLen_lst, List.length_map]; exact h
theorem st_len_rp (h : Q (.int (p.length : Nat)) S) : vLen [.ro (p.map .int)] S Q := by rw [vLen_ro, List.length_map]; exact h
theorem st_len_t (h : Q (.int (ds.length : Nat)) S) : vLen [.tup ds] S Q := h
theorem st_len_l (h : Q (.int (ds.length : Nat)) S) : vLen [.lst ds] S Q := h
theorem st_len_s (h1 : s.length ≤ sizeLine) (h : Q (.int (s.length : Nat)) S) : vLen [.str s] S Q := ⟨h1, h⟩
theorem st_add (h : Q (.int (i + j)) S) : vAdd (.int i) (.int j) S Q := h
theorem st_sub (h : Q (.int (i - j)) S) : vSub (.int i) (.int j) S Q := h
theorem st_iadd (h : Q (.int (i + j)) S) : vIadd (.int i) (.int j) S Q := h
theorem st_neg (h : Q (.int (-i)) S) : vNeg (.int i) S Q := h
theorem st_mod (h1 : 0 < j) (h : Q (.int (i % j)) S) : vMod (.int i) (.int j) S Q := ⟨h1, h⟩
theorem st_div (h1 : 0 < j ∧ j < 1073741824) (h : Q (.int (i / j)) S) : vDiv (.int i) (.int j) S Q := ⟨h1, h⟩
theorem st_mul (h1 : -(2 ^ 64) < i ∧ i < 2 ^ 64) (h : Q (.int (i * j)) S) : vMul (.int i) (.int j) S Q := ⟨.inl (.inl h1), h⟩
theorem st_mul' (h1 : -(2 ^ 64) < j ∧ j < 2 ^ 64) (h : Q (.int (i * j)) S) : vMul (.int i) (.int j) S Q := ⟨.inl (.inr h1), h⟩
theorem st_add_pp (h1 : p.length + q.length ≤ sizeLine) (h : Q (.tup ((p ++ q).map .int)) S) : vAdd (.tup (p.map .int)) (.tup (q.map .int)) S Q := by
  rw [vAdd_tup, List.length_map, List.length_map, ← List.map_append]; exact ⟨h1, h⟩
theorem st_add_p1 (h1 : p.length + 1 ≤ sizeLine) (h : Q (.tup ((p ++ [i]).map .int)) S) : vAdd (.tup (p.map .int)) (.tup [.int i]) S Q := by
  rw [vAdd_tup, List.length_map, show [D.int i] = [i].map .int from rfl, ← List.map_append]; exact ⟨h1, h⟩
theorem st_add_1p (h1 : 1 + p.length ≤ sizeLine) (h : Q (.tup ((i :: p).map .int)) S) : vAdd (.tup [.int i]) (.tup (p.map .int)) S Q := by
  rw [vAdd_tup, List.length_map]; exact ⟨h1, h⟩
theorem st_add_t (h1 : xs.length + ys.length ≤ sizeLine) (h : Q (.tup (xs ++ ys)) S) : vAdd (.tup xs) (.tup ys) S Q := ⟨h1, h⟩
theorem st_add_l (h1 : xs.length + ys.length ≤ sizeLine) (h : Q (.lst (xs ++ ys)) S) : vAdd (.lst xs) (.lst ys) S Q := ⟨h1, h⟩
theorem st_add_s (h1 : s.length + t.length ≤ sizeLine) (h : Q (.str (s ++ t)) S) : vAdd (.str s) (.str t) S Q := ⟨h1, h⟩
theorem st_lt (h : Q (.bl (decide (i < j))) S) : vLt (.int i) (.int j) S Q := h
theorem st_le (h : Q (.bl (decide (i ≤ j))) S) : vLe (.int i) (.int j) S Q := h
theorem st_gt (h : Q (.bl (decide (j < i))) S) : vGt (.int i) (.int j) S Q := h
theorem st_ge (h : Q (.bl (decide (j ≤ i))) S) : vGe (.int i) (.int j) S Q := h
theorem st_eqi (h : Q (.bl (decide (i = j))) S) : vEq (.int i) (.int j) S Q := h
theorem st_nei (h : Q (.bl (!decide (i = j))) S) : vNe (.int i) (.int j) S Q := h
theorem st_eqs (h : Q (.bl (decide (s = t))) S) : vEq (.str s) (.str t) S Q := h
theorem st_nes (h : Q (.bl (!decide (s = t))) S) : vNe (.str s) (.str t) S Q := h
theorem st_eqb (h : Q (.bl (decide (u = v))) S) : vEq (.bl u) (.bl v) S Q := h
theorem st_isn_non (h : Q (.bl true) S) : vIs .non .non S Q := h
theorem st_isn_int (h : Q (.bl false) S) : vIs (.int i) .non S Q := h
theorem st_isn_tup (h : Q (.bl false) S) : vIs (.tup ds) .non S Q := h
theorem st_isn_str (h : Q (.bl false) S) : vIs (.str s) .non S Q := h
theorem st_isn_bl (h : Q (.bl false) S) : vIs (.bl u) .non S Q := h
theorem st_isnt_non (h : Q (.bl false) S) : vIsNot .non .non S Q := h
theorem st_isnt_int (h : Q (.bl true) S) : vIsNot (.int i) .non S Q := h
theorem st_isnt_tup (h : Q (.bl true) S) : vIsNot (.tup ds) .non S Q := h
theorem st_isnt_str (h : Q (.bl true) S) : vIsNot (.str s) .non S Q := h
theorem st_int (h : Q (.int i) S) : vInt [.int i] S Q := h
theorem st_intb (h : Q (.int (if u then 1 else 0)) S) : vInt [.bl u] S Q := h
theorem st_abs (h : Q (.int (if i < 0 then -i else i)) S) : vAbs [.int i] S Q := h
theorem st_min2 (h : Q (.int (if j < i then j else i)) S) : vMin2 [.int i, .int j] S Q := h
theorem st_max2 (h : Q (.int (if j > i then j else i)) S) : vMax2 [.int i, .int j] S Q := h
theorem st_tup_l (h : Q (.tup ds) S) : vTuple [.lst ds] S Q := h
theorem st_tup_t (h : Q (.tup ds) S) : vTuple [.tup ds] S Q := h
theorem st_lst_t (h : Q (.lst ds) S) : vList [.tup ds] S Q := h
theorem st_lst_l (h : Q (.lst ds) S) : vList [.lst ds] S Q := h
theorem st_sl_from (h : Q (.tup ((p.drop k).map .int)) S) : vSl (.tup (p.map .int)) (some (k : Int)) none S Q := by
  rw [vSl_tup, cut_from, ← List.map_drop]; exact h
theorem st_sl_to (h : Q (.tup ((p.take k).map .int)) S) : vSl (.tup (p.map .int)) none (some (k : Int)) S Q := by
  rw [vSl_tup, cut_to, ← List.map_take]; exact h
theorem st_iteT (h : X) : if true = true then X else Y := by rw [if_pos rfl]; exact h
theorem st_iteF (h : Y) : if false = true then X else Y := by rw [if_neg Bool.false_ne_true]; exact h
theorem st_dT {C : Prop} [Decidable C] (hc : C) (h : X) : if decide C = true then X else Y := by rw [if_pos (decide_eq_true hc)]; exact h
theorem st_dF {C : Prop} [Decidable C] (hc : ¬ C) (h : Y) : if decide C = true then X else Y := by rw [if_neg (by simpa using hc)]; exact h
theorem st_not {b : Bool} (h : if b = true then Y else X) : if (!b) = true then X else Y := by
  cases b <;> simpa using h
theorem st_isi {b : Bool} (h1 : isiT x n = some b) (h : Q (.bl b) S) : vIsi [x, .ty n] S Q := by
  rw [vIsi_x, h1]
  show Q (.bl ([b].all id)) S
  rw [all1]; exact h
theorem st_all {bs : List Bool} (h : Q (.bl (bs.all id)) S) : vAll [.lst (bs.map .bl)] S Q := by
  rw [vAll_x, seqOf_lst]; simp only [Option.bind_some, asBls_map]; exact h
end
end L3

set_option Elab.async false
set_option maxRecDepth 100000
set_option linter.all false
set_option maxHeartbeats 2000000
namespace L3
open PySem PySem.Spec PyProof.Rows L2
/-! ### exceptions: what a def may let out -/
abbrev DXK := Str → List (Str × D) → Sto → Prop
abbrev DWX := Str → List (Str × D) → DSt → Sto → Prop
abbrev CTab := Str → Addr
abbrev DSpX := List D → Sto → DK → DXK → Prop
/-- fields that may be read of an exception -/
structure ExF (K : PySem.W.Frag) (ct : CTab) (x : Str) (fs : List (Str × D)) : Prop where
  X : XfC K (ct x)
  no : ∀ n d, (n, d) ∈ fs → PySem.W.findIn K (.ref (ct x)) n = some none
/-- the wish of an exception: its class by its name, its fields -/
def WD {K : PySem.W.Frag} (Γ : KG K) (ct : CTab) (PX : DWX) : WX := fun cls d σ H => ∃ F δ S x fs vs dd, Sim Γ F S H ∧ RelS K (fz F S H) σ δ ∧ cls = .ref (ct x) ∧ d = some dd ∧ fz F S H dd = some (.xd vs) ∧ RelF K (fz F S H) vs fs ∧ ExF K ct x fs ∧ PX x fs δ S
def CtX (K : PySem.W.Frag) (ct : CTab) (F : Addr → Bool) (S : Sto) (H : Hp) (PX : DXK) (E : XK) : Prop := ∀ x fs S', PX x fs S' → ∀ vs dd H', GoB K F S H S' H' → fz F S' H' dd = some (.xd vs) → RelF K (fz F S' H') vs fs → ExF K ct x fs → E (.ref (ct x)) (some dd) H'
def lfSpX (K : PySem.W.Frag) (ct : CTab) (sp : DSpX) : Sp := fun vs H Q E => ∃ F ds S P PX, Sim (KG.top K) F S H ∧ RelL K (fz F S H) vs ds ∧ sp ds S P PX ∧ Ct (KG.top K) F S H P Q ∧ CtX K ct F S H PX E
abbrev FnX (P : Program) (w : World) (K : PySem.W.Frag) (mg : Str → Option Value) (base : Heap) (ct : CTab) (k : Nat) (f : Addr) (fd : FuncData) (ps : List Str) (sp : DSpX) : Prop := FnOk P w K mg base (L2.CX P w) k f fd ps (lfSpX K ct sp)
/-- every step since the def's begin -/
def KG.start (K : PySem.W.Frag) (F0 : Addr → Bool) (S0 : Sto) (H0 : Hp) : KG K where
  ok := fun F S H => (∀ a, F0 a = true → F a = true) ∧ ∀ H' : Hp, (∀ a, F a = false ∨ F0 a = true → H' a = H a) → (∀ a, F a = true → ∃ o, H' a = some o) → GoB K F0 S0 H0 S H'
  step := fun {F S H S' H'} s ⟨sub, h⟩ g => by
    refine ⟨sub, fun H2 a1 a2 => ?_⟩
    have e1 : ∀ a, F a = false ∨ F0 a = true → (if F a && !F0 a then H2 a else H a) = H a := fun a q => by
      rcases q with q | q <;> simp [q]
    have g1 := h (fun a => if F a && !F0 a then H2 a else H a) e1 (fun a q => by
      cases z : F0 a with
      | true => simpa [z] using s.hid a q
      | false => simpa [z, q] using a2 a q)
    have sm : SimB K F0 S' H2 := by
      refine ⟨fun a o q => ?_, fun a q => a2 a (sub a q)⟩
      obtain ⟨f0, k⟩ := g.sim.at_ a o q
      refine ⟨?_, ?_⟩
      · cases z : F0 a with
        | false => rfl
        | true => rw [sub a z] at f0; cases f0
      · rw [a1 a (.inl f0)]
        refine k.mono fun b x e => ?_
        obtain ⟨h0, h1, h2⟩ := fz_of e
        have z : F0 b = false := by
          cases z : F0 b with
          | false => rfl
          | true => rw [sub b z] at h0; cases h0
        rw [fz_none z h1, a1 b (.inl h0)]
        exact h2
    refine g1.trans ⟨fun b x e => ?_, fun a q => ?_, sm⟩
    · obtain ⟨h0, h1, h2⟩ := fz_of e
      cases z : F b with
      | true =>
        simp only [z, h0, Bool.not_false, Bool.and_self, if_true] at h2
        rw [fz_none h0 ?_]
        · exact h2
        · cases q : S' b with
          | none => rfl
          | some o =>
            have := (g.sim.at_ b o q).1
            rw [z] at this; cases this
      | false =>
        simp only [z, Bool.false_and, Bool.false_eq_true, if_false] at h2
        obtain ⟨_, q1, q2⟩ := fz_of (g.same b x (by rw [fz_none z h1]; exact h2))
        rw [fz_none h0 q1, a1 b (.inl z)]
        exact q2
    · show H2 a = _
      rw [e1 a (.inr q), a1 a (.inr q)]
      exact g.hid a (sub a q)
  new := fun {F S H p o} s ⟨sub, h⟩ hp => by
    have fp : F p = false := (s.none hp).1
    have f0 : F0 p = false := by
      cases z : F0 p with
      | false => rfl
      | true => rw [sub p z] at fp; cases fp
    have up : ∀ a, a ≠ p → hide F p a = F a := fun a z => by simp [hide, z]
    have pp : hide F p p = true := by simp [hide]
    refine ⟨fun a q => ?_, fun H2 a1 a2 => ?_⟩
    · by_cases z : a = p
      · subst z; exact pp
      · rw [up a z]; exact sub a q
    · have g1 := h (fun a => if a = p then none else H2 a) (fun a q => by
        by_cases z : a = p
        · subst z; simp [hp]
        · simp only [z, if_false]
          rw [a1 a (by rw [up a z]; exact q), upd_ne z]) (fun a q => by
        have z : a ≠ p := fun z => by subst z; rw [fp] at q; cases q
        simp only [z, if_false]
        exact a2 a (by rw [up a z]; exact q))
      obtain ⟨x, hx⟩ := a2 p pp
      have e : H2 = upd (fun a => if a = p then none else H2 a) p x := by
        funext a
        by_cases z : a = p
        · subst z; rw [upd_same, hx]
        · rw [upd_ne z]; simp [z]
      rw [e]
      exact g1.trans (g1.sim.new (by simp))
  put := fun {F S H p o S1 H1} ⟨sub, _⟩ fp s ⟨sub2, h⟩ => by
    refine ⟨sub2, fun H2 a1 a2 => h H2 (fun a q => ?_) a2⟩
    have z : a ≠ p := fun z => by
      subst z
      rcases q with q | q
      · simp [hide] at q
      · rw [sub a q] at fp; cases fp
    rw [a1 a q, upd_ne z]
theorem KG.start_here {K : PySem.W.Frag} {F : Addr → Bool} {S : Sto} {H : Hp} (s : SimB K F S H) : Sim (KG.start K F S H) F S H := ⟨s, fun _ q => q, fun H' a1 a2 => by
  have e : H' = H := by
    funext a
    cases z : F a with
    | false => exact a1 a (.inl z)
    | true => exact a1 a (.inr z)
  rw [e]
  exact ⟨Same.refl _, fun _ _ => rfl, s⟩⟩
theorem KG.start_go {K : PySem.W.Frag} {F F' : Addr → Bool} {S S' : Sto} {H H' : Hp} (s : Sim (KG.start K F S H) F' S' H') : GoB K F S H S' H' ∧ Same (fz F' S' H') (fz F S' H') := by
  obtain ⟨sub, h⟩ := s.knows
  refine ⟨h H' (fun _ _ => rfl) s.hid, fun b x e => ?_⟩
  obtain ⟨h0, h1, h2⟩ := fz_of e
  rw [fz_none ?_ h1]
  · exact h2
  · cases z : F b with
    | false => rfl
    | true => rw [sub b z] at h0; cases h0
/-- of a caught exception the fields -/
def KG.exc {K : PySem.W.Frag} (Γ : KG K) (dd : Addr) (fs : List (Str × D)) : KG K where
  ok := fun F S H => Γ.ok F S H ∧ ∃ vs, fz F S H dd = some (.xd vs) ∧ RelF K (fz F S H) vs fs
  step := fun s ⟨a, vs, e, r⟩ g => ⟨Γ.step s a g, vs, g.same _ _ e, r.mono g.same⟩
  new := fun s ⟨a, vs, e, r⟩ hp => ⟨Γ.new s a hp, vs, fz_hide_new hp _ _ e, r.mono (fz_hide_new hp)⟩
  put := fun ⟨a0, _⟩ f s ⟨a, vs, e, r⟩ => ⟨Γ.put a0 f s a, vs, by rw [fz_hide_upd]; exact e, by rw [fz_hide_upd]; exact r⟩
theorem KG.exc_sim {K : PySem.W.Frag} {Γ : KG K} {dd : Addr} {fs : List (Str × D)} {F : Addr → Bool} {S : Sto} {H : Hp} (s : Sim (Γ.exc dd fs) F S H) : Sim Γ F S H := ⟨s.toSimB, s.knows.1⟩
theorem KG.exc_go {K : PySem.W.Frag} {Γ : KG K} {dd : Addr} {fs : List (Str × D)} {F : Addr → Bool} {S S' : Sto} {H H' : Hp} (g : Go (Γ.exc dd fs) F S H S' H') : Go Γ F S H S' H' := ⟨g.same, g.hid, KG.exc_sim g.sim⟩
section
variable {P : Program} {w : World} {K : PySem.W.Frag} {mg : Str → Option Value} {base : Heap} {ct : CTab}
theorem takes_cx {N : List Str} {qual : Str} {sc : Scope} {f : Addr} {cdv : Value} {A : Around} {outer : List Env} {s : Shared} {H : Hp} {E : XK} : Takes (cxOf (L2.CX P w) P w K mg base N qual sc f cdv A outer s H E) (fun cls d _ H' => E cls d H') := takes_of rfl rfl rfl rfl
/-- a def that may raise: its derivation, its reading -/
theorem FnX.mk {x qual : Str} {st : Stmt} {f : Addr} {fd : FuncData} {N ps : List Str} {k : Nat} {sp : DSpX} {t : DWX → DTS} (Fn : Fun K x qual st f fd) (Sc : FnScope N ps (defScope st)) (len : ∀ ds S P PX, sp ds S P PX → ds.length = ps.length)
    (hb : ∀ (cdv : Value) (A : Around) (outer : List Env) (s : Shared) (H : Hp) (E : XK) (Γ : KG K) (PX : DWX), Room k (A.deeper (envOfC qual (defScope st) s.heap.objs.size f cdv)) → Takes (cxOf (L2.CX P w) P w K mg base N qual (defScope st) f cdv A outer s H E) (WD Γ ct PX) →
      DPSs (cxOf (L2.CX P w) P w K mg base N qual (defScope st) f cdv A outer s H E) Γ (defBody st) (t PX))
    (hread : ∀ ds S P PX, sp ds S P PX → t (fun x fs _ S' => PX x fs S') (DEnds.of P) (dstart N ds) S) : FnX P w K mg base ct (k + 1) f fd ps sp := by
  refine Fn.okX Sc (fun vs H Q E ⟨F, ds, S, P, PX, sm, rl, h, c, cx⟩ => by rw [rl.length]; exact len _ _ _ _ h) fun cdv A outer s H vs Q E hr ⟨F, ds, S, P, PX, sm, rl, h, c, cx⟩ => ?_
  have hle : ps.length ≤ N.length := by
    have := congrArg List.length Sc.pre
    rw [List.length_take] at this
    omega
  have s0 := KG.start_here sm.toSimB
  have c0 : Ct (KG.start K F S H) F S H P Q := fun d S' q v H' g r => c d S' q v H' (.of sm g.b) r
  refine ⟨_, hb cdv A outer s H E (KG.start K F S H) (fun x fs _ S' => PX x fs S') hr (takes_cx.imp fun cls d σ H' ⟨F', δ, S', x, fs, vs, dd, sm', rs, e1, e2, e3, rf, xf, q⟩ => ?_),
    F, dstart N ds, S, _, s0, rels_start rl (by rw [len _ _ _ _ h]; exact hle), hread ds S P PX h, ⟨fun δ' S' h' σ' H' g rs' => ?_, c0.fin s0, fun _ _ q => q.elim, fun _ _ q => q.elim⟩⟩
  · subst e1 e2
    obtain ⟨g, k⟩ := KG.start_go sm'
    exact cx x fs S' q vs dd H' g (k _ _ e3) (rf.mono k) xf
  · exact c0.fin s0 _ _ h' _ _ g .non
end
/-! ### a call that may let something out -/
abbrev dCallX (sp : DSpX) (PX : DWX) (t : DTA) : DTE := fun δ S Q => t δ S fun ds S1 => sp ds S1 Q fun x fs S2 => PX x fs δ S2
section
variable {X : Cx} {Γ : KG X.K} {ct : CTab} {PX : DWX} {k : Nat} {f : Addr} {fd : FuncData} {ps : List Str} {sp : DSpX} {x : Str} {p pos : Pos} {e : Expr} {es : List Expr} {t : DTA}
theorem dpe_callX (F : FnX X.prog X.w X.K X.mg X.base ct k f fd ps sp) (tk : Takes X (WD Γ ct PX)) (hr : Room k X.A) (hg : Gl X x) (hm : X.mg x = some (.ref f)) (hk : PySem.W.keepIn X.K (.ref f) = true) (hb : Binds X.K fd ps [])
    (ha : DPA X Γ (e :: es) t) (hdb : (x == ("__debug__" : Str)) = false := by decide) (he : starEach (e :: es) X.env = (false, eval e X.env) :: starEach es X.env := by rfl) (hpl : (backTo pos (starEach es X.env)).any (·.1) = false := by rfl) :
    DPE X Γ (.Call (.Name x p) (e :: es) [] pos) (dCallX sp PX t) :=
  PEw (pe_callS (E := WE (WD Γ ct PX)) F hr hg hm hk hb (fun σ => passAt tk σ) ha hdb he hpl) fun σ H Q ⟨F, δ, S, P, sm, rs, h, c⟩ => ⟨F, δ, S, _, sm, rs, h, fun ds S1 h1 vs H1 g1 r1 =>
    ⟨F, ds, S1, P, _, g1.sim.top, r1, h1, (c.mono g1).top g1.sim, fun y fs S2 q ws dd H2 g2 e2 r2 xf =>
      have g2' : Go Γ F S1 H1 S2 H2 := .of g1.sim g2
      ⟨F, δ, S2, y, fs, ws, dd, g2'.sim, (rs.mono g1.same).mono g2'.same, rfl, rfl, e2, r2, xf, q⟩⟩⟩
end
/-! ### raise C(..) -/
theorem RelF.append {K : PySem.W.Frag} {G : Hp} {κ : Type} : ∀ {a b : List (κ × V)} {c d : List (κ × D)}, RelF K G a c → RelF K G b d → RelF K G (a ++ b) (c ++ d)
  | _, _, _, _, .nil, s => s
  | _, _, _, _, .cons r t, s => .cons r (RelF.append t s)
theorem RelF.zip {K : PySem.W.Frag} {G : Hp} : ∀ {ns : List Str} {vs : List V} {ds : List D}, RelL K G vs ds → RelF K G (ns.zip vs) (ns.zip ds)
  | [], _, _, _ => .nil
  | _ :: _, _, _, .nil => .nil
  | _ :: _, _, _, .cons r t => .cons r (RelF.zip t)
theorem RelF.rev {K : PySem.W.Frag} {G : Hp} {κ : Type} : ∀ {a : List (κ × V)} {c : List (κ × D)}, RelF K G a c → RelF K G a.reverse c.reverse
  | _, _, .nil => .nil
  | _, _, .cons r t => by
    rw [List.reverse_cons, List.reverse_cons]
    exact RelF.append (RelF.rev t) (.cons r .nil)
theorem RelF.lookup {K : PySem.W.Frag} {G : Hp} {f : Str} {d : D} : ∀ {a : List (Str × V)} {c : List (Str × D)}, RelF K G a c → c.lookup f = some d → ∃ v, a.lookup f = some v ∧ Rel K G v d
  | _, _, .nil, e => by cases e
  | (g, v) :: a, (_, d') :: c, .cons r t, e => by
    rw [List.lookup_cons] at e ⊢
    split at e
    · rename_i z
      cases e
      exact ⟨v, by simp [z], r⟩
    · rename_i z
      obtain ⟨w, h1, h2⟩ := RelF.lookup t e
      exact ⟨w, by simp [z, h1], h2⟩
/-- an __init__ that notes its arguments -/
def spInit (C : Addr) (ns : List Str) : Sp := fun vs H Q _ => ∃ (a : Addr) (ws : List V), vs = .ref a :: ws ∧ ws.length = ns.length ∧ H a = some (exo a C none) ∧ ∀ d, H d = none → d ≠ a → Q .non (upd (upd H d (exd d (ns.zip ws).reverse)) a (exo a C (some d)))
abbrev dRaise (x : Str) (ns : List Str) (PX : DWX) (t : DTA) : DTS := fun _ δ S => t δ S fun ds S1 => ds.length = ns.length ∧ ds.length ≤ 1000 ∧ PX x (ns.zip ds).reverse δ S1
/-- what a class of exceptions is to be -/
structure ExcC (P : Program) (w : World) (K : PySem.W.Frag) (mg : Str → Option Value) (base : Heap) (ct : CTab) (x : Str) (ns : List Str) : Prop where
  T : OexC K (ct x)
  X : XfC K (ct x)
  gC : mg x = some (.ref (ct x))
  no : ∀ n ∈ ns, PySem.W.findIn K (.ref (ct x)) n = some none
  ini : ∃ fI fd, PySem.W.findIn K (.ref (ct x)) "__init__" = some (some (.ref fI)) ∧ PySem.W.typeIn K (.ref fI) = some (.type "function") ∧ Binds K fd ("self" :: ns) [] ∧ FnOk P w K mg base CX0 1 fI fd ("self" :: ns) (spInit (ct x) ns)
section
variable {X : Cx} {Γ : KG X.K} {ct : CTab} {PX : DWX} {x : Str} {ns : List Str} {p pos pos2 : Pos} {e : Expr} {es : List Expr} {t : DTA}
theorem dps_raise (C : ExcC X.prog X.w X.K X.mg X.base ct x ns) (hc : X.calm = true) (tk : Takes X (WD Γ ct PX)) (hr : Room 2 X.A) (hg : Gl X x) (ha : DPA X Γ (e :: es) t)
    (hdb : (x == ("__debug__" : Str)) = false := by decide) (he : starEach (e :: es) X.env = (false, eval e X.env) :: starEach es X.env := by rfl) (hpl : (backTo pos (starEach es X.env)).any (·.1) = false := by rfl) :
    DPS X Γ (.Raise (some (.Call (.Name x p) (e :: es) [] pos)) none pos2) (dRaise x ns PX t) := by
  obtain ⟨fI, fd, h1, h2, h3, h4⟩ := C.ini
  refine PSw (ps_raise hc tk (pmk_oex (dvs := []) C.T h1 h2 h4 hr h3 .nil (by exact pass0) hg C.gC ha hdb he hpl)) fun D σ H ⟨F, δ, S, P, sm, rs, h, c⟩ => ?_
  refine ⟨F, δ, S, _, sm, rs, h, fun ds S1 ⟨q1, q2, q3⟩ vs H1 g1 r1 => ⟨by rw [r1.length]; exact q2, fun a ha => ?_⟩⟩
  refine ⟨a, vs, by rw [List.append_nil], by rw [r1.length]; exact q1, upd_same, fun d hd hda => ⟨rfl, d, (ns.zip vs).reverse, upd_same, by rw [upd_ne hda]; exact upd_same, ?_, ?_⟩⟩
  · rw [upd_ne hda] at hd
    exact hd
  · have hd1 : H1 d = none := by
      rw [upd_ne hda] at hd
      exact hd
    have e : upd (del (upd (upd (upd H1 a (exo a (ct x) none)) d (exd d (ns.zip vs).reverse)) a (exo a (ct x) (some d))) a) d (.xd (ns.zip vs).reverse) = upd H1 d (.xd (ns.zip vs).reverse) := by
      funext b
      by_cases z : b = d
      · subst z; rw [upd_same, upd_same]
      · rw [upd_ne z, upd_ne z]
        by_cases y : b = a
        · subst y; rw [del_same, ha]
        · rw [del_ne y, upd_ne y, upd_ne z, upd_ne y]
    rw [e]
    have g2 : Go Γ F S1 H1 S1 (upd H1 d (.xd (ns.zip vs).reverse)) := g1.sim.new hd1
    exact ⟨F, δ, S1, x, (ns.zip ds).reverse, _, d, g2.sim, (rs.mono g1.same).mono g2.same, rfl, rfl, fz_new g1.sim hd1, RelF.rev (RelF.zip (r1.mono g2.same)), ⟨C.X, fun n d m => C.no n (List.of_mem_zip (List.mem_reverse.mp m)).1⟩, q3⟩
end
end L3

set_option Elab.async false
set_option maxRecDepth 100000
set_option linter.all false
set_option maxHeartbeats 2000000
namespace L3
open PySem PySem.Spec PyProof.Rows L2
/-! ### try with any clauses, each with or without a name -/
abbrev Suite := Addr → Value → Option Addr → TS
/-- the ends of a named clause: the name is gone behind it -/
abbrev goneE : Option Nat → Ends → Ends
  | none, D => D
  | some i, D => { nx := fun σ' H' => D.nx (σ'.set i none) H', rt := D.rt, bk := fun σ' H' => D.bk (σ'.set i none) H', ct := fun σ' H' => D.ct (σ'.set i none) H' }
abbrev heldS : Option Nat → Addr → L2.St → L2.St
  | none, _, σ => σ
  | some i, a, σ => σ.set i (some (.ref a))
def wMix (K : PySem.W.Frag) (W0 : WX) (D : Ends) : List (Value × Option Nat × Suite) → WX
  | [] => W0
  | (c, o, ts) :: r => fun cl dd τ G => ∃ k, PySem.W.exmOne K cl c = some k ∧ (k = true → ∀ p, G p = none → ts p cl dd (goneE o D) (heldS o p τ) G) ∧ (k = false → wMix K W0 D r cl dd τ G)
/-- a clause's name and slot -/
def SlotOk (X : Cx) : Option Str → Option Nat → Prop
  | none, none => True
  | some n, some i => X.N.Nodup ∧ X.N[i]? = some n ∧ X.env.kindOf n = some .local
  | _, _ => False
inductive HMix (X : Cx) : List ExceptHandler → List (Value × Option Nat × Suite) → Prop
  | nil : HMix X [] []
  | cons {y : Str} {c : Value} {on : Option Str} {o : Option Nat} {ts : Suite} {b : Stmt} {bs : List Stmt} {p1 p2 : Pos} {hr : List ExceptHandler} {lr : List (Value × Option Nat × Suite)} (nm : Names X y c) (sl : SlotOk X on o)
      (su : ∀ (p : Addr) (ob : Obj) (cl : Value) (dd : Option Addr) (pn : List (Addr × Obj)), Zc cl dd ob → (∃ ws, ob.data = .fields ws) → PSs (X.suite p ((p, ob) :: pn)) (b :: bs) (ts p cl dd)) (r : HMix X hr lr) :
      HMix X (.ExceptHandler (some (.Name y p1)) on (b :: bs) p2 :: hr) ((c, o, ts) :: lr)
section
variable {X : Cx} {pins : List (Addr × Obj)} {D : Ends} {W0 : WX}
/-- a suite's end is the clause's end -/
theorem suite_end {p : Addr} {q : Addr × Obj} {pn : List (Addr × Obj)} {fl : Flow} {s : Shared} (ok : X.Ok) (e : SP (X.suite p (q :: (X.pn ++ pins))) [] D fl s) : SP X pins D fl s := by
  cases fl with
  | next => obtain ⟨τ, G, I, z⟩ := e; exact ⟨τ, G, I.unsuite ok, z⟩
  | brk => obtain ⟨τ, G, I, z⟩ := e; exact ⟨τ, G, I.unsuite ok, z⟩
  | cont => obtain ⟨τ, G, I, z⟩ := e; exact ⟨τ, G, I.unsuite ok, z⟩
  | ret u => obtain ⟨v, τ, G, I, r, z⟩ := e; exact ⟨v, τ, G, I.unsuite ok, r, z⟩
theorem suite_end_as {p : Addr} {q : Addr × Obj} {i : Nat} {n : Str} {pos : Pos} {fl : Flow} {s : Shared} (ok : X.Ok) (hN : X.N.Nodup) (hi : X.N[i]? = some n) (hl : X.env.kindOf n = some .local)
    (e : SP (X.suite p (q :: (X.pn ++ pins))) [] (goneE (some i) D) fl s) : wpAny (model X.prog X.w) X.A (do bindName X.env n .none; unbindBehindTheSuite X.env n pos) (fun _ s7 => SP X pins D fl s7) X.xe s := by
  cases fl with
  | next => obtain ⟨τ, G, I, z⟩ := e; exact gone_ok (I.unsuite ok) hN hi hl fun s7 J => ⟨_, _, J, z⟩
  | brk => obtain ⟨τ, G, I, z⟩ := e; exact gone_ok (I.unsuite ok) hN hi hl fun s7 J => ⟨_, _, J, z⟩
  | cont => obtain ⟨τ, G, I, z⟩ := e; exact gone_ok (I.unsuite ok) hN hi hl fun s7 J => ⟨_, _, J, z⟩
  | ret u => obtain ⟨v, τ, G, I, r, z⟩ := e; exact gone_ok (I.unsuite ok) hN hi hl fun s7 J => ⟨_, _, _, J, r, z⟩
/-- an exception that has come to the clauses -/
structure AtHand (X : Cx) (pins : List (Addr × Obj)) (B : Heap) (p : Addr) (cl : Value) (dd : Option Addr) (τ : L2.St) (G : Hp) (W0 : WX) (s : Shared) (h : Heap) : Prop where
  fly : HandSPX.FlyingZ B (X.env :: X.outer) p (Zc cl dd) h
  inv : ∀ h', B.StaysIn h' → h.UpToSlots h' → Inv X pins τ G { s with heap := h' }
  here : Inv X pins τ G { s with heap := h }
  free : G p = none
  notL : p ≠ X.env.locals
  notF : p ∉ X.fs
  out : W0 cl dd τ G → ∀ h', HandSPX.HeldZ B (X.env :: X.outer) p (Zc cl dd) X.env.locals h' → h.UpToSlots h' → X.xe (.ref p) { s with heap := h' }
theorem mix_run (hf : X.env.frame = some X.env.locals) (ok : X.Ok) {B : Heap} {p : Addr} {cl : Value} {dd : Option Addr} {τ : L2.St} {G : Hp} {s : Shared} {h : Heap} (A : AtHand X pins B p cl dd τ G W0 s h) :
    ∀ {hs : List ExceptHandler} {l : List (Value × Option Nat × Suite)}, HMix X hs l → wMix X.K W0 D l cl dd τ G → wpAny (model X.prog X.w) X.A (handleBy (.ref p) X.env hs) (SP X pins D) X.xe { s with heap := h }
  | _, _, .nil, w => by
    refine wpAny_handleBy_nil ?_
    obtain ⟨_, _, _, oe, vs, T, _, _, he, _, hd, h1, _⟩ := id A.fly
    unfold PySem.passOn
    refine wpAny_bind (wpAny_field he hd h1 ?_)
    rw [if_neg (show ¬ ((Value.ref T == Value.none) = true) by simp)]
    have last : wpAny (model X.prog X.w) X.A (setFlight (.ref p) X.env.frame) (fun _ t => wpAny (model X.prog X.w) X.A (throw (.ref p) : Sem Flow) (SP X pins D) X.xe t) X.xe { s with heap := h } := by
      rw [hf]
      exact HandSPX.setFlight_upZ A.fly fun h' held up => wpAny_throw (A.out w h' held up)
    first
      | exact wpAny_bind (wpAny_pure (wpAny_bind last))
      | exact wpAny_bind last
  | _, _, .cons (y := y) (c := c) (on := on) (o := o) (ts := ts) (b := b) (bs := bs) (p1 := p1) (p2 := p2) nm sl su r, w => by
    obtain ⟨k, hk, yes, no⟩ := w
    obtain ⟨ob, ws, hob, hz, hdat⟩ := A.fly.there
    have look := PySem.W.exm_one (M := model X.prog X.w) A.here.kIn (fun A' Q E t kk q => wpAny_typeOf_ref (kk _ _ hob) (by rw [hz.1]; exact q)) hk
    have I0 := A.here.suite hob hdat A.free A.notL A.notF
    refine wpAny_handleBy_cons (codeAny_handlers_test ?_) (fun q => by cases q)
    have named : ∀ {Q : Value → Shared → Prop} {E : Value → Shared → Prop}, Q c { s with heap := h } → wpAny (model X.prog X.w) (X.A.mark (some (.ref p))) (eval (.Name y p1) X.env) Q E { s with heap := h } := fun {Q E} q => by
      rcases nm with ⟨g1, g2, g3 | ⟨g3, g4, g5⟩⟩
      · exact ld_glob (X := X.suite p ((p, ob) :: (X.pn ++ pins))) I0 g1 g3 q g2
      · exact ld_blt (X := X.suite p ((p, ob) :: (X.pn ++ pins))) I0 g1 g3 g4 q g5 g2
    refine named (look.here ?_)
    cases k with
    | false =>
      show wpAny _ X.A (handleBy (.ref p) X.env _) _ _ _
      exact mix_run hf ok A r (no rfl)
    | true =>
      cases on with
      | none =>
        cases o with
        | some i => exact (sl : False).elim
        | none =>
          refine codeAny_handlers_suite (HandSPX.lands_againZ A.fly fun h4 fl4 up4 => ?_)
          obtain ⟨ob4, ws4, hob4, hz4, hd4⟩ := fl4.there
          have I4 := (A.inv h4 fl4.1 up4).suite hob4 hd4 A.free A.notL A.notF
          exact wpAny_mono ((su p ob4 cl dd (X.pn ++ pins) hz4 ⟨_, hd4⟩).run [] _ _ G _ I4 (yes rfl p A.free)) (fun fl t e => suite_end (pn := []) ok e) fun _ _ z => z.elim
      | some n =>
        cases o with
        | none => exact (sl : False).elim
        | some i =>
          obtain ⟨hN, hi, hl⟩ := sl
          refine codeAny_handlers_suite_as (HandSPX.lands_againZ A.fly fun h4 fl4 up4 => ?_)
          obtain ⟨ob4, ws4, hob4, hz4, hd4⟩ := fl4.there
          have I4 := (A.inv h4 fl4.1 up4).suite hob4 hd4 A.free A.notL A.notF
          refine store_ok (X := X.suite p ((p, ob4) :: (X.pn ++ pins))) (v := .ref p) I4 hN hi (.inl hl) rfl (fun s5 I5 => ?_) (.inr hl)
          exact wpAny_mono ((su p ob4 cl dd (X.pn ++ pins) hz4 ⟨_, hd4⟩).run [] s5 _ G _ I5 (yes rfl p A.free)) (fun fl t e => suite_end_as ok hN hi hl e) fun _ _ z => z.elim
theorem ps_try_mix {body : List Stmt} {h0 : ExceptHandler} {hs : List ExceptHandler} {l : List (Value × Option Nat × Suite)} {pos : Pos} {tb : WX → TS} (hst : X.stack = X.env :: X.outer) (hf : X.env.frame = some X.env.locals) (tk : Takes X W0)
    (hb : ∀ (W : WX) (pn : List (Addr × Obj)) (xe : Value → Shared → Prop), Takes (X.tr pn xe) W → PassesOwn (model X.prog X.w) X.A X.env xe → PSs (X.tr pn xe) body (tb W)) (hm : HMix X (h0 :: hs) l) :
    PS X (.Try body (h0 :: hs) [] [] pos) (fun D σ H => tb (wMix X.K W0 D l) D σ H) := by
  refine ⟨fun pins s σ H D I q => wpAny_Try_except ?_⟩
  have ok := I.ok
  have hfr : X.A.frames = some (X.env :: X.outer) := by rw [ok.frames, hst]
  refine wpAny_mono ((hb (wMix X.K W0 D l) (X.pn ++ pins) _ (fun u s' xx => ?_) PassesOwn.looking).run [] s σ H D (I.toTry _) q) (fun fl s1 e => ?_) fun _ _ z => z
  · obtain ⟨p, B, sI, pins', τ, G, cl, dd, rfl, J0, nb, up, sky, na, os, ag, w⟩ := xx
    have J := J0.ofTry ok
    rw [show (X.tr (X.pn ++ pins) _).stack = X.env :: X.outer from hst] at sky
    refine Sky.land Zc.steady hfr hf sky fun h3 fl3 up3 => ?_
    obtain ⟨ob, ws, hob, hz, hdat⟩ := fl3.there
    have nfr : p ∉ frs (X.env :: X.outer) := fun m => by
      obtain ⟨_, o', e', nf⟩ := fl3.2.2.1.mem m
      rw [hob] at e'
      cases e'
      exact nf _ hdat
    refine mix_run (W0 := W0) (B := B) (p := p) (cl := cl) (dd := dd) (τ := τ) (G := G) (s := s') (h := h3) hf ok ⟨fl3, fun h' st u => J.landed nb st ((up.trans up3).trans u) os ag, J.landed nb fl3.1 (up.trans up3) os ag, na, fun z => ?_, fun m => ?_, fun w0 h' held u => ?_⟩ hm w
    · exact nfr (List.mem_filterMap.mpr ⟨X.env, List.mem_cons_self, by rw [hf, z]⟩)
    · obtain ⟨e, he, z⟩ := List.mem_filterMap.mp m
      exact nfr (List.mem_filterMap.mpr ⟨e, List.mem_cons_of_mem _ he, z⟩)
    · exact tk _ _ ⟨p, B, sI, pins, τ, G, cl, dd, rfl, J, nb, (up.trans up3).trans u, .inr (.inr (by rw [hst]; exact held)), na, os, ag, w0⟩
  · cases fl with
    | next => obtain ⟨τ, G, J, z⟩ := e; exact wpAny_execs_nil ⟨τ, G, J.ofTry ok, z⟩
    | brk => obtain ⟨τ, G, J, z⟩ := e; exact ⟨τ, G, J.ofTry ok, z⟩
    | cont => obtain ⟨τ, G, J, z⟩ := e; exact ⟨τ, G, J.ofTry ok, z⟩
    | ret u => obtain ⟨v, τ, G, J, r, z⟩ := e; exact ⟨v, τ, G, J.ofTry ok, r, z⟩
end
end L3

set_option Elab.async false
set_option maxRecDepth 100000
set_option linter.all false
set_option maxHeartbeats 2000000
namespace L3
open PySem PySem.Spec PyProof.Rows L2
/-! ### try, by data -/
abbrev goneD : Option Nat → DEnds → DEnds
  | none, D => D
  | some i, D => { nx := fun δ S => D.nx (dset δ i none) S, rt := D.rt, bk := fun δ S => D.bk (dset δ i none) S, ct := fun δ S => D.ct (dset δ i none) S }
abbrev heldD : Option Nat → Addr → DSt → DSt
  | none, _, δ => δ
  | some i, a, δ => dset δ i (some (.ref a))
abbrev DClause := Str × Option Nat × (Addr → List (Str × D) → DTS)
def dHs (sub : Str → Str → Option Bool) (PX : DWX) (D : DEnds) : List DClause → DWX
  | [] => PX
  | (y, o, h) :: r => fun x fs δ S => ∃ k, sub x y = some k ∧ (k = true → ∀ a, S a = none → h a fs (goneD o D) (heldD o a δ) S) ∧ (k = false → dHs sub PX D r x fs δ S)
abbrev dTry (sub : Str → Str → Option Bool) (tb : DWX → DTS) (hs : List DClause) (PX : DWX) : DTS := fun D δ S => tb (dHs sub PX D hs) D δ S
theorem st_caught {sub : Str → Str → Option Bool} {PX : DWX} {D : DEnds} {y x : Str} {o : Option Nat} {h : Addr → List (Str × L3.D) → DTS} {r : List DClause} {fs : List (Str × L3.D)} {δ : DSt} {S : Sto} (e : sub x y = some true)
    (q : ∀ a, S a = none → h a fs (goneD o D) (heldD o a δ) S) : dHs sub PX D ((y, o, h) :: r) x fs δ S := ⟨true, e, fun _ => q, fun z => by cases z⟩
theorem st_missed {sub : Str → Str → Option Bool} {PX : DWX} {D : DEnds} {y x : Str} {o : Option Nat} {h : Addr → List (Str × L3.D) → DTS} {r : List DClause} {fs : List (Str × L3.D)} {δ : DSt} {S : Sto} (e : sub x y = some false)
    (q : dHs sub PX D r x fs δ S) : dHs sub PX D ((y, o, h) :: r) x fs δ S := ⟨false, e, (fun z => by cases z), fun _ => q⟩
/-- which class is caught by which name -/
def SubOk (K : PySem.W.Frag) (ct : CTab) (sub : Str → Str → Option Bool) : Prop := ∀ x y b, sub x y = some b → PySem.W.exmOne K (.ref (ct x)) (.ref (ct y)) = some b
def suiteOf (K : PySem.W.Frag) (Γ : KG K) (ct : CTab) (h : Addr → List (Str × D) → DTS) : Suite := fun a cls d Dn σ H => ∃ dd fs x, d = some dd ∧ cls = .ref (ct x) ∧ ExF K ct x fs ∧ lfS (Γ.exc dd fs) (h a fs) Dn σ H
abbrev clauseOf (K : PySem.W.Frag) (Γ : KG K) (ct : CTab) (c : DClause) : Value × Option Nat × Suite := (.ref (ct c.1), c.2.1, suiteOf K Γ ct c.2.2)
def KG.also {K : PySem.W.Frag} (Γ : KG K) (Δ : KG K) : KG K where
  ok := fun F S H => Γ.ok F S H ∧ Δ.ok F S H
  step := fun s a g => ⟨Γ.step s a.1 g, Δ.step s a.2 g⟩
  new := fun s a h => ⟨Γ.new s a.1 h, Δ.new s a.2 h⟩
  put := fun a0 f s a => ⟨Γ.put a0.1 f s a.1, Δ.put a0.2 f s a.2⟩
theorem CtE.gone {K : PySem.W.Frag} {Γ : KG K} {F : Addr → Bool} {S : Sto} {H : Hp} {P : DEnds} {D : Ends} (o : Option Nat) (c : CtE Γ F S H P D) : CtE Γ F S H (goneD o P) (goneE o D) := by
  cases o with
  | none => exact c
  | some i =>
    refine ⟨fun δ S' h σ H' g r => c.nx _ _ h _ _ g ?_, c.rt, fun δ S' h σ H' g r => c.bk _ _ h _ _ g ?_, fun δ S' h σ H' g r => c.ct _ _ h _ _ g ?_⟩
    all_goals rw [dset_eq]
    all_goals exact r.unset i
theorem CtE.exc {K : PySem.W.Frag} {Γ : KG K} {F : Addr → Bool} {S : Sto} {H : Hp} {P : DEnds} {D : Ends} {dd : Addr} {fs : List (Str × L3.D)} (c : CtE Γ F S H P D) : CtE (Γ.exc dd fs) F S H P D :=
  ⟨fun δ S' h σ H' g r => c.nx _ _ h _ _ (KG.exc_go g) r, fun d S' h v H' g r => c.rt _ _ h _ _ (KG.exc_go g) r, fun δ S' h σ H' g r => c.bk _ _ h _ _ (KG.exc_go g) r, fun δ S' h σ H' g r => c.ct _ _ h _ _ (KG.exc_go g) r⟩
theorem RelS.held {K : PySem.W.Frag} {G : Hp} {σ : L2.St} {δ : DSt} (o : Option Nat) (a : Addr) (r : RelS K G σ δ) : RelS K G (heldS o a σ) (heldD o a δ) := by
  cases o with
  | none => exact r
  | some i => exact r.dset (.ref a) i
theorem mix_data {K : PySem.W.Frag} {Γ : KG K} {ct : CTab} {sub : Str → Str → Option Bool} {PX : DWX} {P : DEnds} {D : Ends} (so : SubOk K ct sub) {F : Addr → Bool} {S : Sto} {H : Hp} {σ : L2.St} {δ : DSt} {x : Str} {fs : List (Str × L3.D)} {vs : List (Str × V)} {dd : Addr}
    (sm : Sim Γ F S H) (rs : RelS K (fz F S H) σ δ) (e : fz F S H dd = some (.xd vs)) (rf : RelF K (fz F S H) vs fs) (xf : ExF K ct x fs) (c : CtE Γ F S H P D) :
    ∀ hs : List DClause, dHs sub PX P hs x fs δ S → wMix K (WD Γ ct PX) D (hs.map (clauseOf K Γ ct)) (.ref (ct x)) (some dd) σ H
  | [], q => ⟨F, δ, S, x, fs, vs, dd, sm, rs, rfl, rfl, e, rf, xf, q⟩
  | (y, o, h) :: r, ⟨k, h1, h2, h3⟩ => ⟨k, so x y k h1, fun z p hp => ⟨dd, fs, x, rfl, rfl, xf, F, heldD o p δ, S, goneD o P, ⟨sm.toSimB, sm.knows, vs, e, rf⟩, rs.held o p, h2 z p (sm.none hp).2, (c.gone o).exc⟩,
      fun z => mix_data so sm rs e rf xf c r (h3 z)⟩
inductive DMix (X : Cx) (Γ : KG X.K) (ct : CTab) : List ExceptHandler → List DClause → Prop
  | nil : DMix X Γ ct [] []
  | cons {y : Str} {on : Option Str} {o : Option Nat} {h : Addr → List (Str × D) → DTS} {b : Stmt} {bs : List Stmt} {p1 p2 : Pos} {hr : List ExceptHandler} {lr : List DClause} (nm : Names X y (.ref (ct y))) (sl : SlotOk X on o)
      (su : ∀ (a : Addr) (ob : Obj) (dd : Addr) (fs : List (Str × D)) (x : Str) (pn : List (Addr × Obj)), Zc (.ref (ct x)) (some dd) ob → (∃ ws, ob.data = .fields ws) → ExF X.K ct x fs → DPSs (X.suite a ((a, ob) :: pn)) (Γ.exc dd fs) (b :: bs) (h a fs)) (r : DMix X Γ ct hr lr) :
      DMix X Γ ct (.ExceptHandler (some (.Name y p1)) on (b :: bs) p2 :: hr) ((y, o, h) :: lr)
theorem DMix.mix {X : Cx} {Γ : KG X.K} {ct : CTab} : ∀ {hs : List ExceptHandler} {l : List DClause}, DMix X Γ ct hs l → HMix X hs (l.map (clauseOf X.K Γ ct))
  | _, _, .nil => .nil
  | _, _, .cons nm sl su r => .cons nm sl (fun p ob cl dd pn hz hd => ⟨fun pins s σ H Dn I ⟨d1, fs, x, e1, e2, xf, q⟩ => by
      subst e1 e2
      exact (su p ob d1 fs x pn hz hd xf).run pins s σ H Dn I q⟩) (DMix.mix r)
section
variable {X : Cx} {Γ : KG X.K} {ct : CTab} {PX : DWX}
theorem dps_try {body : List Stmt} {h0 : ExceptHandler} {hs : List ExceptHandler} {l : List DClause} {pos : Pos} {tb : DWX → DTS} {sub : Str → Str → Option Bool} (so : SubOk X.K ct sub) (hst : X.stack = X.env :: X.outer) (hf : X.env.frame = some X.env.locals) (tk : Takes X (WD Γ ct PX))
    (hb : ∀ (Δ : KG X.K) (QX : DWX) (pn : List (Addr × Obj)) (xe : Value → Shared → Prop), Takes (X.tr pn xe) (WD Δ ct QX) → PassesOwn (model X.prog X.w) X.A X.env xe → DPSs (X.tr pn xe) Δ body (tb QX)) (hm : DMix X Γ ct (h0 :: hs) l) :
    DPS X Γ (.Try body (h0 :: hs) [] [] pos) (dTry sub tb l PX) := by
  refine PSw (ps_try_mix (W0 := WD Γ ct PX) (tb := fun W Dn σ H => ∃ (Δ : KG X.K) (QX : DWX), (∀ cl d τ G, WD Δ ct QX cl d τ G → W cl d τ G) ∧ lfS Δ (tb QX) Dn σ H) hst hf tk (fun W pn xe tw po => ⟨fun pins s σ H Dn I ⟨Δ, QX, w, q⟩ => (hb Δ QX pn xe (tw.imp w) po).run pins s σ H Dn I q⟩) hm.mix)
    fun Dn σ H ⟨F, δ, S, P, sm, rs, h, c⟩ => ?_
  have s0 := KG.start_here sm.toSimB
  refine ⟨Γ.also (KG.start X.K F S H), dHs sub PX P l, fun cl d τ G ⟨F', δ', S', x, fs, vs, dd, sm', rs', e1, e2, e3, rf, xf, q⟩ => ?_, F, δ, S, P, ⟨sm.toSimB, sm.knows, s0.knows⟩, rs, h, ?_⟩
  · subst e1 e2
    obtain ⟨g, k⟩ := KG.start_go ⟨sm'.toSimB, sm'.knows.2⟩
    have g' : Go Γ F S H S' G := .of sm g
    exact mix_data so g'.sim (rs'.mono k) (k _ _ e3) (rf.mono k) xf (c.mono g') l q
  · exact ⟨fun δ S' h σ H' g r => c.nx _ _ h _ _ (.of sm g.b) r, fun d S' h v H' g r => c.rt _ _ h _ _ (.of sm g.b) r, fun δ S' h σ H' g r => c.bk _ _ h _ _ (.of sm g.b) r, fun δ S' h σ H' g r => c.ct _ _ h _ _ (.of sm g.b) r⟩
end
/-! ### a field of the caught exception -/
abbrev dXf (a : Addr) (fs : List (Str × D)) (n : Str) (te : DTE) : DTE := fun δ S Q => te δ S fun x S1 => x = .ref a ∧ ∃ d, fs.lookup n = some d ∧ Q d S1
theorem st_xf {a : Addr} {fs : List (Str × D)} {n : Str} {d : D} {S : Sto} {Q : DK} (e : fs.lookup n = some d) (q : Q d S) : (D.ref a) = .ref a ∧ ∃ d, fs.lookup n = some d ∧ Q d S := ⟨rfl, d, e, q⟩
theorem mem_lookup {n : Str} {d : D} : ∀ {fs : List (Str × D)}, fs.lookup n = some d → (n, d) ∈ fs
  | [], e => by cases e
  | (m, d') :: r, e => by
    rw [List.lookup_cons] at e
    split at e
    · rename_i z
      cases e
      have := eq_of_beq z
      subst this
      exact List.mem_cons_self
    · exact List.mem_cons_of_mem _ (mem_lookup e)
theorem dpe_xf {X : Cx} {Γ : KG X.K} {ct : CTab} {a dd : Addr} {ob : Obj} {x : Str} {fs : List (Str × D)} {pn : List (Addr × Obj)} {e : Expr} {te : DTE} {pos : Pos} {n : Str} (hz : Zc (.ref (ct x)) (some dd) ob) (hd : ∃ ws, ob.data = .fields ws) (xf : ExF X.K ct x fs)
    (he : DPE (X.suite a ((a, ob) :: pn)) (Γ.exc dd fs) e te) (hb : attributeBase e n X.env (eval e X.env) = eval e X.env := by rfl) : DPE (X.suite a ((a, ob) :: pn)) (Γ.exc dd fs) (.Attribute e n pos) (dXf a fs n te) := by
  by_cases hl : ∃ d, fs.lookup n = some d
  · obtain ⟨d0, hl⟩ := hl
    refine PEw (pe_xf xf.X (xf.no n d0 (mem_lookup hl)) hz hd he hb) fun σ H Q ⟨F, δ, S, P, sm, rs, h, c⟩ => ⟨F, δ, S, _, sm, rs, h, fun d S1 ⟨e1, d1, e2, q⟩ v H1 g1 r1 => ?_⟩
    subst e1
    cases r1
    obtain ⟨_, vs, e3, rf⟩ := g1.sim.knows
    obtain ⟨v, l1, r1⟩ := rf.lookup e2
    exact ⟨rfl, rfl, dd, vs, v, rfl, fz_same _ _ _ _ _ e3, l1, c.mono g1 |>.use g1.sim r1 q⟩
  · have hp := he
    refine ⟨fun pins s σ H Q I ⟨F, δ, S, P, sm, rs, h, c⟩ => ?_⟩
    refine attr_of hb (thn (he.run pins s σ H (fun _ _ => False) I ⟨F, δ, S, _, sm, rs, h, fun d S1 ⟨e1, d1, e2, q⟩ v H1 g1 r1 => hl ⟨d1, e2⟩⟩) fun u s1 hh => ?_)
    obtain ⟨x, H1, I1, rx, z⟩ := hh
    exact z.elim
end L3

set_option Elab.async false
set_option maxRecDepth 100000
set_option linter.all false
set_option maxHeartbeats 2000000
namespace L3
open PySem PySem.Spec PyProof.Rows L2
/-! ### classes of exceptions: __init__ notes its arguments -/
section
variable {P : Program} {w : World} {K : PySem.W.Frag} {mg : Str → Option Value} {base : Heap}
def tIni (K : PySem.W.Frag) : Nat → List Str → TS
  | _, [] => tNext
  | i, f :: fs => tSeq (tOst K f (tVar 0) (tVar i)) (tIni K (i + 1) fs)
theorem upd_swap {H : Hp} {a d : Addr} {x y z : HO} (h : d ≠ a) : upd (upd (upd H d x) a y) d z = upd (upd H d z) a y := by
  funext b
  by_cases e : b = d
  · subst e; rw [upd_same, upd_ne h, upd_same]
  · rw [upd_ne e]
    by_cases g : b = a
    · subst g; rw [upd_same, upd_same]
    · rw [upd_ne g, upd_ne e, upd_ne g, upd_ne e]
theorem ini_old {C a d : Addr} (T : OexC K C) (hda : d ≠ a) {D : Ends} {σ : L2.St} {H : Hp} (h0 : σ[0]? = some (some (.ref a))) : ∀ (ns : List Str) (ws : List V) (i : Nat) (fs : List (Str × V)), ns.length = ws.length → fs.length + ns.length ≤ 900 → (∀ n ∈ ns, PySem.W.findIn K (.ref C) n = some none) →
    (∀ j v, ws[j]? = some v → σ[i + j]? = some (some v)) → D.nx σ (upd (upd H d (exd d ((ns.zip ws).reverse ++ fs))) a (exo a C (some d))) → tIni K i ns D σ (upd (upd H d (exd d fs)) a (exo a C (some d)))
  | [], [], i, fs, _, _, _, _, q => q
  | n :: ns, v :: ws, i, fs, hl, hz, hn, hs, q => by
    refine ⟨v, by simpa using hs 0 v rfl, .ref a, h0, a, C, rfl, T, hn n List.mem_cons_self, .inr ⟨d, fs, upd_same, by rw [upd_ne hda, upd_same], by omega, ?_⟩⟩
    rw [upd_swap hda]
    refine ini_old T hda h0 ns ws (i + 1) ((n, v) :: fs) (by simpa using hl) (by simp only [List.length_cons] at hz ⊢; omega) (fun m hm => hn m (List.mem_cons_of_mem _ hm)) (fun j u e => ?_) ?_
    · rw [show i + 1 + j = i + (j + 1) by omega]
      exact hs (j + 1) u (by simpa using e)
    · simpa [List.append_assoc] using q
theorem ini_new {C a : Addr} (T : OexC K C) {D : Ends} {σ : L2.St} {H : Hp} (h0 : σ[0]? = some (some (.ref a))) (ha : H a = some (exo a C none)) (n : Str) (ns : List Str) (v : V) (ws : List V) (hl : ns.length = ws.length) (hz : ns.length ≤ 800) (hn : ∀ m ∈ n :: ns, PySem.W.findIn K (.ref C) m = some none)
    (hs : ∀ j u, (v :: ws)[j]? = some u → σ[1 + j]? = some (some u)) (q : ∀ d, H d = none → d ≠ a → D.nx σ (upd (upd H d (exd d (((n :: ns).zip (v :: ws)).reverse))) a (exo a C (some d)))) : tIni K 1 (n :: ns) D σ H := by
  refine ⟨v, by simpa using hs 0 v rfl, .ref a, h0, a, C, rfl, T, hn n List.mem_cons_self, .inl ⟨ha, fun d hd hda => ?_⟩⟩
  refine ini_old T hda h0 ns ws 2 [(n, v)] hl (by simp only [List.length_cons, List.length_nil]; omega) (fun m hm => hn m (List.mem_cons_of_mem _ hm)) (fun j u e => ?_) ?_
  · have := hs (j + 1) u (by simpa using e)
    rwa [show 1 + (j + 1) = 2 + j by omega] at this
  · simpa using q d hd hda
theorem ini_ok {qual : Str} {st : Stmt} {f : Addr} {fd : FuncData} {C : Addr} {n : Str} {ns N : List Str} (T : OexC K C) (hno : ∀ m ∈ n :: ns, PySem.W.findIn K (.ref C) m = some none) (Fn : Fun K "__init__" qual st f fd) (Sc : FnScope N ("self" :: n :: ns) (defScope st)) (hz : ns.length ≤ 800)
    (hb : ∀ (cdv : Value) (A : Around) (outer : List Env) (s : Shared) (H : Hp) (E : XK), PSs (cxOf CX0 P w K mg base N qual (defScope st) f cdv A outer s H E).nox (defBody st) (tIni K 1 (n :: ns))) : FnOk P w K mg base CX0 1 f fd ("self" :: n :: ns) (spInit C (n :: ns)) := by
  refine Fn.ok Sc (fun vs H Q E ⟨a, ws, e, hl, _⟩ => by rw [e, List.length_cons, hl]; rfl) fun cdv A outer s H vs Q E hr ⟨a, ws, e, hl, ha, q⟩ => ⟨_, hb cdv A outer s H E, ?_⟩
  subst e
  cases ws with
  | nil => simp at hl
  | cons v ws =>
    have st : ∀ (j : Nat) (u : V), (V.ref a :: v :: ws)[j]? = some u → (L2.start N (V.ref a :: v :: ws))[j]? = some (some u) := fun j u e => by
      unfold L2.start
      rw [List.getElem?_append_left (by rw [List.length_map]; exact (List.getElem?_eq_some_iff.mp e).1), List.getElem?_map, e]
      rfl
    exact ini_new T (st 0 _ rfl) ha n ns v ws (by simpa using hl.symm) hz hno (fun j u e => st (1 + j) u (by rw [show 1 + j = j + 1 by omega]; exact e)) fun d hd hda => q d hd hda
end
end L3

set_option Elab.async false
set_option maxRecDepth 100000
set_option linter.all false
set_option maxHeartbeats 2000000
namespace L3
open PySem PySem.Spec PyProof.Rows L2
/-! ### iterating a tuple or a list, as it comes -/
abbrev iAnyD (te : DTE) : DTI := fun δ S Q => iSeq te δ S Q ∨ iTupD te δ S Q
section
variable {X : Cx} {Γ : KG X.K} {e tg : Expr} {te : DTE}
theorem dpi_any (h : DPE X Γ e te) : DPI X Γ tg e (iAnyD te) := ⟨fun pins s σ H R I ⟨F, δ, S, P, sm, rs, q, c⟩ => q.elim (fun q => (dpi_seq h).run pins s σ H R I ⟨F, δ, S, P, sm, rs, q, c⟩) fun q => (dpi_tup h).run pins s σ H R I ⟨F, δ, S, P, sm, rs, q, c⟩⟩
end
/-! ### the table of the classes -/
def subL (l : List (Str × Str × Bool)) (x y : Str) : Option Bool := (l.find? fun e => e.1 == x && e.2.1 == y).map (·.2.2)
theorem SubOk.of {K : PySem.W.Frag} {ct : CTab} (l : List (Str × Str × Bool)) (h : ∀ e ∈ l, PySem.W.exmOne K (.ref (ct e.1)) (.ref (ct e.2.1)) = some e.2.2) : SubOk K ct (subL l) := fun x y b q => by
  unfold subL at q
  cases e : l.find? fun e => e.1 == x && e.2.1 == y with
  | none => rw [e] at q; cases q
  | some z =>
    rw [e] at q
    cases q
    have h1 := List.find?_some e
    simp only [Bool.and_eq_true, beq_iff_eq] at h1
    rw [← h1.1, ← h1.2]
    exact h z (List.mem_of_find?_eq_some e)
def ctOf (l : List (Str × Addr)) : CTab := fun x => (l.lookup x).getD 0
theorem exm_of {K : PySem.W.Frag} {c y : Addr} {b : Bool} (h1 : PySem.W.subIn K (.ref y) (.type "BaseException") = some true) (h2 : PySem.W.isClsIn K y = true) (h3 : PySem.W.typeIn K (.ref y) = some (.type "type")) (h4 : PySem.W.subIn K (.ref c) (.ref y) = some b) : PySem.W.exmOne K (.ref c) (.ref y) = some b := by
  have e1 : (PySem.W.subIn K (.ref y) (.type "BaseException") == some true) = true := by rw [h1]; rfl
  have h2' : (PySem.W.clsIn K y).isSome = true := h2
  have e2 : ((PySem.W.clsIn K y).isSome && PySem.W.typeIn K (.ref y) == some (.type "type")) = true := by rw [h2', h3]; rfl
  show (if _ = true then (if ((PySem.W.clsIn K y).isSome && PySem.W.typeIn K (.ref y) == some (.type "type")) = true then PySem.W.subIn K (.ref c) (.ref y) else none) else none) = some b
  rw [if_pos e1, if_pos e2]
  exact h4
/-- nothing is let out -/
abbrev dNoX : DWX := fun _ _ _ _ => False
theorem takes_no {X : Cx} {Γ : KG X.K} {ct : CTab} : Takes X (WD Γ ct dNoX) := fun _ _ ⟨_, _, _, _, _, _, _, _, _, _, _, _, _, _, _, _, F, δ, S, x, fs, vs, dd, _, _, _, _, _, _, _, z⟩ => z.elim
abbrev x0 (sp : Sto → DK → DXK → Prop) : DSpX := fun ds S Q E => match ds with | [] => sp S Q E | _ => False
abbrev x1 (sp : D → Sto → DK → DXK → Prop) : DSpX := fun ds S Q E => match ds with | [a] => sp a S Q E | _ => False
abbrev x2 (sp : D → D → Sto → DK → DXK → Prop) : DSpX := fun ds S Q E => match ds with | [a, b] => sp a b S Q E | _ => False
abbrev x3 (sp : D → D → D → Sto → DK → DXK → Prop) : DSpX := fun ds S Q E => match ds with | [a, b, c] => sp a b c S Q E | _ => False
abbrev x4 (sp : D → D → D → D → Sto → DK → DXK → Prop) : DSpX := fun ds S Q E => match ds with | [a, b, c, d] => sp a b c d S Q E | _ => False
abbrev x5 (sp : D → D → D → D → D → Sto → DK → DXK → Prop) : DSpX := fun ds S Q E => match ds with | [a, b, c, d, e] => sp a b c d e S Q E | _ => False
theorem x1_len {sp} : ∀ ds S P E, x1 sp ds S P E → ds.length = 1
  | [_], _, _, _, _ => rfl
  | [], _, _, _, h | _ :: _ :: _, _, _, _, h => (h : False).elim
theorem x2_len {sp} : ∀ ds S P E, x2 sp ds S P E → ds.length = 2
  | [_, _], _, _, _, _ => rfl
  | [], _, _, _, h | [_], _, _, _, h | _ :: _ :: _ :: _, _, _, _, h => (h : False).elim
theorem x3_len {sp} : ∀ ds S P E, x3 sp ds S P E → ds.length = 3
  | [_, _, _], _, _, _, _ => rfl
  | [], _, _, _, h | [_], _, _, _, h | [_, _], _, _, _, h | _ :: _ :: _ :: _ :: _, _, _, _, h => (h : False).elim
theorem x4_len {sp} : ∀ ds S P E, x4 sp ds S P E → ds.length = 4
  | [_, _, _, _], _, _, _, _ => rfl
  | [], _, _, _, h | [_], _, _, _, h | [_, _], _, _, _, h | [_, _, _], _, _, _, h | _ :: _ :: _ :: _ :: _ :: _, _, _, _, h => (h : False).elim
theorem FnD.none {P : Program} {w : World} {K : PySem.W.Frag} {mg : Str → Option Value} {base : Heap} {k : Nat} {f : Addr} {fd : FuncData} {ps : List Str} : FnD P w K mg base k f fd ps (fun _ _ _ => False) :=
  ⟨fun vs H Q E ⟨_, _, _, _, _, _, h, _⟩ => h.elim, fun _ _ _ _ _ _ _ _ _ _ _ _ _ ⟨_, _, _, _, _, _, h, _⟩ => h.elim⟩
/-- the parts of a class's text -/
def clsBody : Stmt → List Stmt
  | .ClassDef _ _ _ body .. => body
  | _ => []
/-- a module's constant -/
def Known (K : PySem.W.Frag) (d : D) (u : Value) : Prop := ∃ v, RelV v u ∧ ∀ G, Rel K G v d
theorem dpe_globE {X : Cx} {Γ : KG X.K} {x : Str} {d : D} {u : Value} {pos : Pos} (k : Known X.K d u) (hm : X.mg x = some u) (hg : Gl X x) (hd : (x == ("__debug__" : Str)) = false := by decide) : DPE X Γ (.Name x pos) (dC d) := by
  obtain ⟨v, q, r⟩ := k
  exact dpe_glob hg hm q r hd
theorem Known.int {K : PySem.W.Frag} {i : Int} {t : Nat} : Known K (.int i) (.int i t) := ⟨.int i, ⟨_, rfl⟩, fun _ => .int i⟩
inductive KnownL (K : PySem.W.Frag) : List D → List Value → Prop
  | nil : KnownL K [] []
  | cons {d : D} {ds : List D} {u : Value} {us : List Value} : Known K d u → KnownL K ds us → KnownL K (d :: ds) (u :: us)
theorem KnownL.ex {K : PySem.W.Frag} : ∀ {ds : List D} {us : List Value}, KnownL K ds us → ∃ vs, Vals vs us ∧ ∀ G, RelL K G vs ds
  | _, _, .nil => ⟨[], .nil, fun _ => .nil⟩
  | _, _, .cons ⟨v, h, r⟩ t => by
    obtain ⟨vs, h2, r2⟩ := KnownL.ex t
    exact ⟨v :: vs, .cons h h2, fun G => .cons (r G) (r2 G)⟩
theorem Known.tup {K : PySem.W.Frag} {a : Addr} {sl : Array (Option Value)} {items : Array Value} {n : Nat} {ds : List D} (h : K.lookup a = some ⟨.type "tuple", none, .seq items n, sl⟩) (hs : items.size ≤ 1000) (k : KnownL K ds items.toList) : Known K (.tup ds) (.ref a) := by
  obtain ⟨vs, h2, r2⟩ := k.ex
  exact ⟨.ref a, rfl, fun G => .tup (.inr ⟨_, items, n, h, rfl, rfl, rfl, by rw [sizeLine_eq]; omega, h2⟩) (r2 G)⟩
/-! ### a, b = x, y -/
abbrev dPar (i j : Nat) (ta : DTA) : DTS := fun D δ S => ta δ S fun ds S1 => match ds with | [u, v] => D.nx (dset (dset δ i (some u)) j (some v)) S1 | _ => False
abbrev dPar3 (i j l : Nat) (ta : DTA) : DTS := fun D δ S => ta δ S fun ds S1 => match ds with | [u, v, w] => D.nx (dset (dset (dset δ i (some u)) j (some v)) l (some w)) S1 | _ => False
section
variable {X : Cx} {Γ : KG X.K} {i j l : Nat} {x y z : Str} {a b c : Expr} {ta : DTA} {px py pz pt pos : Pos} {kt k2 : _} {pt2 : Pos}
theorem dps_par (hN : X.N.Nodup) (hi : X.N[i]? = some x) (hj : X.N[j]? = some y) (hij : i ≠ j) (hx : X.env.scope.names.lookup x = some .local) (hy : X.env.scope.names.lookup y = some .local) (ha : DPA X Γ [a, b] ta)
    (hc : X.calm = true := by rfl) (hw : swappedStores [.Tuple [.Name x px, .Name y py] kt pt] (.Tuple [a, b] k2 pt2) X.env = pure (some [x, y]) := by rfl)
    (hs : swapsWithSole [.Tuple [.Name x px, .Name y py] kt pt] (.Tuple [a, b] k2 pt2) pos.line X.env = pure false := by rfl) :
    DPS X Γ (.Assign [.Tuple [.Name x px, .Name y py] kt pt] (.Tuple [a, b] k2 pt2) pos) (dPar i j ta) := PSw (ps_par hc hN hi hj hij hx hy ha hw hs) fun D σ H ⟨F, δ, S, P, sm, rs, h, c⟩ => ⟨F, δ, S, _, sm, rs, h, fun ds S1 h1 vs H1 g1 r1 => by
  match ds, r1, h1 with
  | [_, _], .cons r (.cons q .nil), h1 => exact ⟨_, _, rfl, c.nx _ _ h1 _ _ g1 (((rs.mono g1.same).dset r i).dset q j)⟩⟩
theorem dps_par3 (hN : X.N.Nodup) (hi : X.N[i]? = some x) (hj : X.N[j]? = some y) (hl : X.N[l]? = some z) (hij : i ≠ j) (hil : i ≠ l) (hjl : j ≠ l) (hx : X.env.scope.names.lookup x = some .local) (hy : X.env.scope.names.lookup y = some .local) (hz : X.env.scope.names.lookup z = some .local) (ha : DPA X Γ [a, b, c] ta)
    (hc : X.calm = true := by rfl) (hw : swappedStores [.Tuple [.Name x px, .Name y py, .Name z pz] kt pt] (.Tuple [a, b, c] k2 pt2) X.env = pure (some [x, y, z]) := by rfl)
    (hs : swapsWithSole [.Tuple [.Name x px, .Name y py, .Name z pz] kt pt] (.Tuple [a, b, c] k2 pt2) pos.line X.env = pure false := by rfl) :
    DPS X Γ (.Assign [.Tuple [.Name x px, .Name y py, .Name z pz] kt pt] (.Tuple [a, b, c] k2 pt2) pos) (dPar3 i j l ta) := PSw (ps_par3 hc hN hi hj hl hij hil hjl hx hy hz ha hw hs) fun D σ H ⟨F, δ, S, P, sm, rs, h, c⟩ => ⟨F, δ, S, _, sm, rs, h, fun ds S1 h1 vs H1 g1 r1 => by
  match ds, r1, h1 with
  | [_, _, _], .cons r (.cons q (.cons t .nil)), h1 => exact ⟨_, _, _, rfl, c.nx _ _ h1 _ _ g1 ((((rs.mono g1.same).dset r i).dset q j).dset t l)⟩⟩
end
end L3

set_option Elab.async false
set_option maxRecDepth 100000
set_option linter.all false
set_option maxHeartbeats 2000000
namespace L3
open PySem PySem.Spec PyProof.Rows L2
/-! ### truth -/
def vTru : D → Sto → (Bool → Sto → Prop) → Prop
  | .non, S, Q => Q false S
  | .bl b, S, Q => Q b S
  | .int i, S, Q => Q (i != 0) S
  | .str y, S, Q => y.length ≤ sizeLine ∧ Q ((y.length : Int) != 0) S
  | .tup ds, S, Q => Q (!ds.isEmpty) S
  | .key ds, S, Q => Q (!ds.isEmpty) S
  | .lst ds, S, Q => Q (!ds.isEmpty) S
  | .ro ds, S, Q => Q (!ds.isEmpty) S
  | .ref a, S, Q => match S a with
    | some (.lst ds) => Q (!ds.isEmpty) S
    | some (.dK ds) => Q (!ds.isEmpty) S
    | _ => False
  | .ty _, _, _ => False
theorem RelL.emp {K : PySem.W.Frag} {G : Hp} {xs : List V} {ds : List D} (r : RelL K G xs ds) : xs.isEmpty = ds.isEmpty := by cases r <;> rfl
theorem RelF.emp {K : PySem.W.Frag} {G : Hp} {κ : Type} {xs : List (κ × V)} {ds : List (κ × D)} (r : RelF K G xs ds) : xs.isEmpty = ds.isEmpty := by cases r <;> rfl
theorem vTru_ok {K : PySem.W.Frag} {Γ : KG K} {F : Addr → Bool} {S : Sto} {H : Hp} {v : V} {d : D} {P : Bool → Sto → Prop} (sm : Sim Γ F S H) (r : Rel K (fz F S H) v d) (h : vTru d S P) : ∃ k, TruV K v H k ∧ P k S := by
  cases r
  · exact ⟨_, rfl, h⟩
  · exact ⟨_, rfl, h⟩
  · exact ⟨_, rfl, h⟩
  · exact ⟨_, ⟨h.1, rfl⟩, h.2⟩
  · simp only [vTru] at h
    split at h
    · rename_i e
      obtain ⟨vs, e1, r1⟩ := sm.lst e
      exact ⟨_, .inl ⟨_, .of e1, rfl⟩, by rw [r1.emp]; exact h⟩
    · rename_i e
      obtain ⟨vs, e1, r1⟩ := (sm.at_ _ _ e).2
      exact ⟨_, .inr (.inr ⟨_, e1, rfl⟩), by rw [r1.emp]; exact h⟩
    · exact h.elim
  · exact h.elim
  · rename_i hs rl
    exact ⟨_, .inr (.inl ⟨_, sqT_mono (fz_same F S H) hs, rfl⟩), by rw [rl.emp]; exact h⟩
  · rename_i hs rl
    exact ⟨_, .inl ⟨_, .of (fz_same F S H _ _ hs), rfl⟩, by rw [rl.emp]; exact h⟩
  · rename_i hs rl
    exact ⟨_, .inl ⟨_, (fz_same F S H).seq hs, rfl⟩, by rw [rl.emp]; exact h⟩
  · rename_i hs rl
    exact ⟨_, .inr (.inl ⟨_, .of (fz_same F S H _ _ hs), rfl⟩), by rw [rl.emp]; exact h⟩
abbrev dTru (te : DTE) : DTT := fun δ S Q => te δ S fun x S1 => vTru x S1 Q
section
variable {X : Cx} {Γ : KG X.K} {a b o e i : Expr} {ta tb to te ti : DTE} {t : DTA} {es : List Expr} {pos apos cpos p : Pos}
theorem dpt_truth (h : DPE X Γ a ta) (he : ∀ whole, isTrue a X.env whole = (do let v ← whole; standAt a.pos; holding [v] (truthy v)) := by intro _; rfl) : DPT X Γ a (dTru ta) :=
  PTw (pt_truth h he) fun σ H Q ⟨F, δ, S, P, sm, rs, h, c⟩ => ⟨F, δ, S, _, sm, rs, h, fun d S1 h1 v H1 g1 r1 => by
    obtain ⟨k, h2, h3⟩ := vTru_ok g1.sim r1 h1
    exact ⟨k, h2, c _ _ h3 _ g1⟩⟩
/-! ### in -/
def flatD : D → Bool
  | .non => true
  | .bl _ => true
  | .int _ => true
  | .str _ => true
  | _ => false
def eqD : D → D → Bool
  | .non, .non => true
  | .bl a, .bl b => a == b
  | .bl a, .int b => (if a then 1 else 0) == b
  | .int a, .bl b => a == (if b then 1 else 0)
  | .int a, .int b => a == b
  | .str a, .str b => a == b
  | _, _ => false
def inD (x : D) (xs : List D) : Bool := xs.any fun y => eqD y x
theorem Rel.flat {K : PySem.W.Frag} {G : Hp} {v : V} {d : D} (r : Rel K G v d) (h : flatD d = true) : flatV v = true := by
  cases r <;> first | rfl | cases h
theorem RelL.flat {K : PySem.W.Frag} {G : Hp} : ∀ {vs : List V} {ds : List D}, RelL K G vs ds → ds.all flatD = true → vs.all flatV = true
  | _, _, .nil, _ => rfl
  | _, _, .cons r t, h => by
    rw [List.all_cons, Bool.and_eq_true] at h
    rw [List.all_cons, Bool.and_eq_true]
    exact ⟨r.flat h.1, RelL.flat t h.2⟩
theorem Rel.eqD {K : PySem.W.Frag} {G : Hp} {v w : V} {d e : D} (r : Rel K G v d) (s : Rel K G w e) (hd : flatD d = true) (he : flatD e = true) : eqV v w = L3.eqD d e := by
  cases r <;> first | (cases hd; done) | skip
  all_goals cases s <;> first | rfl | (cases he; done)
theorem RelL.inD {K : PySem.W.Frag} {G : Hp} {w : V} {e : D} (s : Rel K G w e) (he : flatD e = true) : ∀ {vs : List V} {ds : List D}, RelL K G vs ds → ds.all flatD = true → inV w vs = L3.inD e ds
  | _, _, .nil, _ => rfl
  | _, _, .cons (v := v) (d := d) r t, h => by
    rw [List.all_cons, Bool.and_eq_true] at h
    unfold inV L3.inD
    rw [List.any_cons, List.any_cons, r.eqD s h.1 he]
    have := RelL.inD s he t h.2
    unfold inV L3.inD at this
    rw [this]
def seqAny (S : Sto) : D → Option (List D)
  | .tup ds => some ds
  | .key ds => some ds
  | x => seqOf S x
theorem seqAny_rel {K : PySem.W.Frag} {Γ : KG K} {F : Addr → Bool} {S : Sto} {H : Hp} {v : V} {d : D} {ds : List D} (sm : Sim Γ F S H) (r : Rel K (fz F S H) v d) (h : seqAny S d = some ds) : ∃ a vs, v = .ref a ∧ (SqL K H a vs ∨ SqT K H a vs) ∧ RelL K (fz F S H) vs ds := by
  by_cases z : ∃ es, d = .tup es ∨ d = .key es
  · obtain ⟨es, rfl | rfl⟩ := z
    · cases h
      cases r with
      | tup hs rl => exact ⟨_, _, rfl, .inr (sqT_mono (fz_same F S H) hs), rl⟩
    · cases h
      cases r with
      | key hs rl => exact ⟨_, _, rfl, .inr (.of (fz_same F S H _ _ hs)), rl⟩
  · have e : seqAny S d = seqOf S d := by
      cases d <;> first | rfl | exact absurd ⟨_, .inl rfl⟩ z | exact absurd ⟨_, .inr rfl⟩ z
    rw [e] at h
    obtain ⟨a, vs, h1, h2, h3⟩ := seqOf_rel sm r h
    exact ⟨a, vs, h1, .inl h2, h3⟩
def vInS (neg : Bool) (x : D) (ds : List D) (S : Sto) (Q : DK) : Prop := flatD x = true ∧ ds.all flatD = true ∧ Q (.bl (if neg then !inD x ds else inD x ds)) S
def vInO (neg : Bool) (x : D) (S : Sto) (Q : DK) : Option (List D) → Prop
  | some ds => vInS neg x ds S Q
  | none => False
def vIn (neg : Bool) (x y : D) (S : Sto) (Q : DK) : Prop := vInO neg x S Q (seqAny S y)
theorem dop_inAny (neg : Bool) {f : Value → Value → Sem Value} (h : OpR X f (rIn X.K neg)) : DOp X f (vIn neg) := by
  refine ⟨_, h, fun x y dx dy F S H P Q sm rx ry q c => ?_⟩
  unfold vIn at q
  cases e : seqAny S dy with
  | none => rw [e] at q; exact q.elim
  | some ds =>
    rw [e] at q
    obtain ⟨h1, h2, h3⟩ := q
    obtain ⟨a, vs, rfl, hs, rl⟩ := seqAny_rel sm ry e
    refine ⟨a, vs, rfl, hs, rx.flat h1, rl.flat h2, ?_⟩
    rw [rl.inD rx h1 h2]
    exact c.use sm (.bl _) h3
theorem dop_in : DOp X (compareOp .In) (vIn false) := dop_inAny false op_in_seq
theorem dop_notin : DOp X (compareOp .NotIn) (vIn true) := dop_inAny true op_notIn_seq
end
/-! ### methods of lists -/
section
variable {X : Cx} {Γ : KG X.K}
/-- xs.pop(i) -/
def vPopAt : D → List D → Sto → DK → Prop
  | .ref a, [.int i], S, Q => match S a with
    | some (.lst ds) => -(2 ^ 62) ≤ i ∧ i < 2 ^ 62 ∧ match ixN ds.length i with | some k => ∃ d, ds[k]? = some d ∧ Q d (sup S a (.lst (ds.eraseIdx k))) | none => False
    | _ => False
  | _, _, _, _ => False
theorem RelL.erase {K : PySem.W.Frag} {G : Hp} : ∀ {xs : List V} {ds : List D} (k : Nat), RelL K G xs ds → RelL K G (xs.eraseIdx k) (ds.eraseIdx k)
  | _, _, _, .nil => .nil
  | _, _, 0, .cons _ t => t
  | _, _, k + 1, .cons r t => .cons r (RelL.erase k t)
theorem lr_popAt : LRM X.K rPopAt vPopAt := fun x xs dx ds F S H P Q sm rx rxs q c => by
  cases rx <;> first | exact (q : False).elim | skip
  rcases ds with _ | ⟨d, _ | ⟨_, _⟩⟩ <;> first | exact (q : False).elim | skip
  · cases d <;> first | exact (q : False).elim | skip
    cases rxs with
    | cons r1 r2 =>
    cases r2; cases r1
    simp only [vPopAt] at q
    split at q
    · rename_i es e
      obtain ⟨vs, e1, rv⟩ := sm.lst e
      obtain ⟨b0, b1, q⟩ := q
      split at q
      · rename_i k ek
        obtain ⟨d, e2, q⟩ := q
        obtain ⟨v, e3, r3⟩ := rv.get e2
        refine ⟨_, vs, _, k, v, rfl, rfl, e1, by omega, by omega, by rw [rv.length]; exact (ixN_seq ek).1, e3, c.put (o := .lst (vs.eraseIdx k)) (u' := .lst (es.eraseIdx k)) sm e ⟨_, rfl, rv.erase k⟩ r3 q⟩
      · exact q.elim
    · exact q.elim
  · cases d <;> exact (q : False).elim
/-- xs.insert(i, x) -/
def vInsert : D → List D → Sto → DK → Prop
  | .ref a, [.int i, d], S, Q => match S a with
    | some (.lst ds) => ds.length < sizeLine ∧ 0 ≤ i ∧ i < 2 ^ 62 ∧ Q .non (sup S a (.lst (ds.take i.toNat ++ [d] ++ ds.drop i.toNat)))
    | _ => False
  | _, _, _, _ => False
theorem lr_insert : LRM X.K (fun x vs H Q => ∃ (l : Addr) (xs : List V) (i : Int) (y : V), x = .ref l ∧ vs = [.int i, y] ∧ H l = some (.lst xs) ∧ xs.length < sizeLine ∧ 0 ≤ i ∧ i < 2 ^ 63 ∧ Q .non (upd H l (.lst (xs.take i.toNat ++ [y] ++ xs.drop i.toNat)))) vInsert := fun x xs dx ds F S H P Q sm rx rxs q c => by
  cases rx <;> first | exact (q : False).elim | skip
  rcases ds with _ | ⟨d, _ | ⟨d2, _ | ⟨_, _⟩⟩⟩ <;> first | exact (q : False).elim | (cases d <;> exact (q : False).elim) | skip
  cases d <;> first | exact (q : False).elim | skip
  cases rxs with
  | cons r1 r2 =>
  cases r2 with
  | cons r2 r3 =>
  cases r3; cases r1
  simp only [vInsert] at q
  split at q
  · rename_i es e
    obtain ⟨vs, e1, rv⟩ := sm.lst e
    obtain ⟨b0, b1, b2, q⟩ := q
    exact ⟨_, vs, _, _, rfl, rfl, e1, by rw [rv.length]; exact b0, b1, by omega, c.put (o := .lst (vs.take _ ++ [_] ++ vs.drop _)) (u' := .lst (es.take _ ++ [_] ++ es.drop _)) sm e ⟨_, rfl, ((rv.take _).append (.cons r2 .nil)).append (rv.drop _)⟩ .non q⟩
  · exact q.elim
/-- xs.extend(ys) -/
def vExtend : D → List D → Sto → DK → Prop
  | .ref a, [.lst es], S, Q => match S a with
    | some (.lst ds) => ds.length + es.length ≤ sizeLine ∧ Q .non (sup S a (.lst (ds ++ es)))
    | _ => False
  | _, _, _, _ => False
theorem lr_extend : LRM X.K rExtend vExtend := fun x xs dx ds F S H P Q sm rx rxs q c => by
  cases rx <;> first | exact (q : False).elim | skip
  rcases ds with _ | ⟨d, _ | ⟨_, _⟩⟩ <;> first | exact (q : False).elim | (cases d <;> exact (q : False).elim) | skip
  cases d <;> first | exact (q : False).elim | skip
  cases rxs with
  | cons r1 r2 =>
  cases r2
  cases r1 with
  | lst hb rb =>
  simp only [vExtend] at q
  split at q
  · rename_i es e
    obtain ⟨vs, e1, rv⟩ := sm.lst e
    obtain ⟨b0, q⟩ := q
    exact ⟨_, _, vs, _, rfl, rfl, e1, fz_same F S H _ _ hb, by rw [rv.length, rb.length]; exact b0, c.put (o := .lst (vs ++ _)) (u' := .lst (es ++ _)) sm e ⟨_, rfl, rv.append rb⟩ .non q⟩
  · exact q.elim
/-! ### sorted, of ints -/
def vSortedI : List D → Sto → DK → Prop
  | [x], S, Q => match (seqOf S x).bind asInts with | some ns => ∀ ns' : List Int, ns'.Perm ns → ns'.Pairwise (· ≤ ·) → Q (.lst (ns'.map .int)) S | none => False
  | _, _, _ => False
theorem dcall_sortedI : DCall X (.builtin "sorted") vSortedI := by
  refine ⟨_, cr_sortedI, fun xs ds F S H P Q sm rx q c => ?_⟩
  rcases ds with _ | ⟨d1, _ | ⟨d2, ds⟩⟩ <;> first | exact (q : False).elim | skip
  cases rx with
  | cons r1 r2 =>
  cases r2
  have q : match (seqOf S d1).bind asInts with | some ns => ∀ ns' : List Int, ns'.Perm ns → ns'.Pairwise (· ≤ ·) → P (.lst (ns'.map .int)) S | none => False := q
  split at q
  · rename_i bs e
    obtain ⟨ds, e1, e2⟩ := Option.bind_eq_some_iff.mp e
    obtain ⟨a, vs, rfl, hs, rl⟩ := seqOf_rel sm r1 e1
    rw [asInts_eq e2] at rl
    exact ⟨a, bs, rfl, by rw [← rl.ints]; exact hs, fun ns' p h1 h2 hp => c.new sm hp (fz_newL sm hp (RelL.ofInts ns')) (q ns' h1 h2)⟩
  · exact q.elim
end
/-! ### dicts -/
def keyOf : D → Option Key
  | .int i => some (Sum.inl i)
  | .str s => some (Sum.inr s)
  | _ => none
def keysOf : List D → Option (List Key)
  | [] => some []
  | d :: r => match keyOf d, keysOf r with
    | some k, some ks => some (k :: ks)
    | _, _ => none
section
variable {κ : Type} [DecidableEq κ]
def valD (kvs : List (κ × D)) (k : κ) : Option D := (kvs.find? fun kv => decide (kv.1 = k)).map (·.2)
def putD (kvs : List (κ × D)) (k : κ) (v : D) : List (κ × D) := if (kvs.any fun kv => decide (kv.1 = k)) = true then kvs.map fun kv => if kv.1 = k then (kv.1, v) else kv else kvs ++ [(k, v)]
theorem RelF.val {K : PySem.W.Frag} {G : Hp} {k : κ} : ∀ {vs : List (κ × V)} {ds : List (κ × D)}, RelF K G vs ds → (valV vs k).isSome = (valD ds k).isSome ∧ ∀ d, valD ds k = some d → ∃ v, valV vs k = some v ∧ Rel K G v d
  | _, _, .nil => ⟨rfl, fun d h => by cases h⟩
  | _, _, .cons (k := j) r t => by
    obtain ⟨h1, h2⟩ := RelF.val (k := k) t
    by_cases e : j = k
    · subst e
      simp only [valV, valD, List.find?_cons, decide_true, Option.map_some]
      exact ⟨rfl, fun d h => by cases h; exact ⟨_, rfl, r⟩⟩
    · simp only [valV, valD, List.find?_cons, decide_eq_false e] at h1 h2 ⊢
      exact ⟨h1, h2⟩
theorem RelF.any {K : PySem.W.Frag} {G : Hp} {k : κ} : ∀ {vs : List (κ × V)} {ds : List (κ × D)}, RelF K G vs ds → (vs.any fun kv => decide (kv.1 = k)) = ds.any fun kv => decide (kv.1 = k)
  | _, _, .nil => rfl
  | _, _, .cons r t => by rw [List.any_cons, List.any_cons, RelF.any t]
theorem RelF.mapPut {K : PySem.W.Frag} {G : Hp} {k : κ} {v : V} {d : D} (q : Rel K G v d) : ∀ {vs : List (κ × V)} {ds : List (κ × D)}, RelF K G vs ds → RelF K G (vs.map fun kv => if kv.1 = k then (kv.1, v) else kv) (ds.map fun kv => if kv.1 = k then (kv.1, d) else kv)
  | _, _, .nil => .nil
  | _, _, .cons (k := j) r t => by
    rw [List.map_cons, List.map_cons]
    by_cases e : j = k
    · rw [if_pos e, if_pos e]
      exact .cons q (RelF.mapPut q t)
    · rw [if_neg e, if_neg e]
      exact .cons r (RelF.mapPut q t)
theorem RelF.put {K : PySem.W.Frag} {G : Hp} {k : κ} {v : V} {d : D} (q : Rel K G v d) {vs : List (κ × V)} {ds : List (κ × D)} (r : RelF K G vs ds) : RelF K G (putK vs k v) (putD ds k d) := by
  unfold putK putD
  rw [r.any]
  split
  · exact r.mapPut q
  · exact r.append (.cons q .nil)
end
theorem Rel.key1 {K : PySem.W.Frag} {G : Hp} {v : V} {d : D} {k : Key} (r : Rel K G v d) (h : keyOf d = some k) : v = kV k := by
  cases r <;> first | (cases h; done) | skip
  all_goals (cases h; rfl)
theorem RelL.keys {K : PySem.W.Frag} {G : Hp} : ∀ {vs : List V} {ds : List D} {ks : List Key}, RelL K G vs ds → keysOf ds = some ks → vs = ks.map kV
  | _, _, _, .nil, h => by cases h; rfl
  | _, _, _, .cons r t, h => by
    unfold keysOf at h
    split at h
    · rename_i k ks e1 e2
      cases h
      rw [r.key1 e1, RelL.keys t e2]
      rfl
    · cases h
/-- what a key finds: of a dict some answer -/
def dGetD (S : Sto) : D → D → Option (Option D)
  | .ref a, y => match S a with
    | some (.dK kvs) => (keyOf y).map (valD kvs)
    | some (.dT kvs) => match y with | .key ds => (keysOf ds).map (valD kvs) | _ => none
    | _ => none
  | _, _ => none
theorem dGetD_rel {K : PySem.W.Frag} {Γ : KG K} {F : Addr → Bool} {S : Sto} {H : Hp} {v w : V} {x y : D} {o : Option D} (sm : Sim Γ F S H) (rx : Rel K (fz F S H) v x) (ry : Rel K (fz F S H) w y) (h : dGetD S x y = some o) :
    ∃ a r, v = .ref a ∧ DGet H a w r ∧ r.isSome = o.isSome ∧ ∀ d, o = some d → ∃ u, r = some u ∧ Rel K (fz F S H) u d := by
  cases x <;> first | (cases h; done) | skip
  rename_i a
  cases rx
  simp only [dGetD] at h
  split at h
  · rename_i kvs e
    obtain ⟨k, e1, rfl⟩ := Option.map_eq_some_iff.mp h
    obtain ⟨vs, e2, r2⟩ := (sm.at_ _ _ e).2
    obtain ⟨h1, h2⟩ := r2.val (k := k)
    rw [ry.key1 e1]
    exact ⟨a, _, rfl, .k e2, h1, h2⟩
  · rename_i kvs e
    split at h
    · rename_i ds
      obtain ⟨k, e1, rfl⟩ := Option.map_eq_some_iff.mp h
      obtain ⟨vs, e2, r2⟩ := (sm.at_ _ _ e).2
      obtain ⟨h1, h2⟩ := r2.val (k := k)
      cases ry with
      | key hs rl =>
      rw [rl.keys e1] at hs
      exact ⟨a, _, rfl, .t e2 (fz_same F S H _ _ hs), h1, h2⟩
    · cases h
  · cases h
abbrev dDGet (to ti : DTE) : DTE := fun δ S Q => to δ S fun x S1 => ti δ S1 fun y S2 => ∃ d, dGetD S2 x y = some (some d) ∧ Q d S2
abbrev dDIn (ti to : DTE) : DTE := fun δ S Q => ti δ S fun y S1 => to δ S1 fun x S2 => ∃ o, dGetD S2 x y = some o ∧ Q (.bl o.isSome) S2
abbrev dDNotIn (ti to : DTE) : DTE := fun δ S Q => ti δ S fun y S1 => to δ S1 fun x S2 => ∃ o, dGetD S2 x y = some o ∧ Q (.bl (!o.isSome)) S2
/-- what the store is behind a[y] = v -/
def dPutD (S : Sto) (v : D) : D → D → Option Sto
  | .ref a, y => match S a with
    | some (.dK kvs) => match keyOf y with | some k => if kvs.length < sizeLine then some (sup S a (.dK (putD kvs k v))) else none | none => none
    | some (.dT kvs) => match y with
      | .key ds => match keysOf ds with | some k => if kvs.length < sizeLine then some (sup S a (.dT (putD kvs k v))) else none | none => none
      | _ => none
    | _ => none
  | _, _ => none
abbrev dDPut (to ti tv : DTE) : DTS := fun D δ S => tv δ S fun v S1 => to δ S1 fun x S2 => ti δ S2 fun y S3 => ∃ S4, dPutD S3 v x y = some S4 ∧ D.nx δ S4
theorem dPutD_rel {K : PySem.W.Frag} {Γ : KG K} {F : Addr → Bool} {S S4 : Sto} {H : Hp} {v w u : V} {x y d : D} (sm : Sim Γ F S H) (rx : Rel K (fz F S H) v x) (ry : Rel K (fz F S H) w y) (rd : Rel K (fz F S H) u d) (h : dPutD S d x y = some S4) :
    ∃ a H4, v = .ref a ∧ DPut H a w u H4 ∧ Go Γ F S H S4 H4 := by
  cases x <;> first | (cases h; done) | skip
  rename_i a
  cases rx
  simp only [dPutD] at h
  split at h
  · rename_i kvs e
    split at h
    · rename_i k e1
      split at h
      · rename_i hl
        cases h
        obtain ⟨vs, e2, r2⟩ := (sm.at_ _ _ e).2
        rw [ry.key1 e1]
        exact ⟨a, _, rfl, .k e2 (by rw [r2.length]; exact hl), sm.put e ⟨_, rfl, r2.put rd⟩⟩
      · cases h
    · cases h
  · rename_i kvs e
    split at h
    · rename_i ds
      split at h
      · rename_i k e1
        split at h
        · rename_i hl
          cases h
          obtain ⟨vs, e2, r2⟩ := (sm.at_ _ _ e).2
          cases ry with
          | key hs rl =>
          rw [rl.keys e1] at hs
          exact ⟨a, _, rfl, .t e2 (fz_same F S H _ _ hs) (by rw [r2.length]; exact hl), sm.put e ⟨_, rfl, r2.put rd⟩⟩
        · cases h
      · cases h
    · cases h
  · cases h
section
variable {X : Cx} {Γ : KG X.K} {a b o e i value : Expr} {ta tb to te ti tv : DTE} {t : DTA} {es : List Expr} {pos apos cpos p tpos : Pos}
theorem dpe_dget (hu : X.A.units + 1 < cLine) (ho : DPE X Γ o to) (hi : DPE X Γ i ti) (hs : NoSl i := by intro _ _; rfl) : DPE X Γ (.Subscript o i pos) (dDGet to ti) :=
  PEw (pe_dget hu ho hi hs) fun σ H Q ⟨F, δ, S, P, sm, rs, h, c⟩ => ⟨F, δ, S, _, sm, rs, h, fun dx S1 h1 x H1 g1 rx => ⟨F, δ, S1, _, g1.sim, rs.mono g1.same, h1, fun dy S2 ⟨d, h2, h3⟩ y H2 g2 ry => by
    obtain ⟨a, r, rfl, g, _, k⟩ := dGetD_rel g2.sim (rx.mono g2.same) ry h2
    obtain ⟨u, rfl, ru⟩ := k d rfl
    exact ⟨a, u, rfl, g, (c.mono (g1.trans g2)).use g2.sim ru h3⟩⟩⟩
theorem lf_din {Q : VK} {σ : L2.St} {H : Hp} (h : lf Γ (dDIn ti to) σ H Q) : tDIn (lf Γ ti) (lf Γ to) σ H Q := by
  obtain ⟨F, δ, S, P, sm, rs, h, c⟩ := h
  refine ⟨F, δ, S, _, sm, rs, h, fun dy S1 h1 y H1 g1 ry => ⟨F, δ, S1, _, g1.sim, rs.mono g1.same, h1, fun dx S2 ⟨d, h2, h3⟩ x H2 g2 rx => ?_⟩⟩
  obtain ⟨a, r, rfl, g, e, k⟩ := dGetD_rel g2.sim rx (ry.mono g2.same) h2
  exact ⟨a, r, rfl, g, (c.mono (g1.trans g2)).use g2.sim (by rw [e]; exact .bl _) h3⟩
theorem lf_dnotin {Q : VK} {σ : L2.St} {H : Hp} (h : lf Γ (dDNotIn ti to) σ H Q) : tDNotIn (lf Γ ti) (lf Γ to) σ H Q := by
  obtain ⟨F, δ, S, P, sm, rs, h, c⟩ := h
  refine ⟨F, δ, S, _, sm, rs, h, fun dy S1 h1 y H1 g1 ry => ⟨F, δ, S1, _, g1.sim, rs.mono g1.same, h1, fun dx S2 ⟨d, h2, h3⟩ x H2 g2 rx => ?_⟩⟩
  obtain ⟨a, r, rfl, g, e, k⟩ := dGetD_rel g2.sim rx (ry.mono g2.same) h2
  exact ⟨a, r, rfl, g, (c.mono (g1.trans g2)).use g2.sim (by rw [e]; exact .bl _) h3⟩
theorem dpe_din (hu : X.A.units + 1 < cLine) (hi : DPE X Γ i ti) (ho : DPE X Γ o to) (hm : behindInMarks .In o = false := by rfl) : DPE X Γ (.Compare i [.In] [o] pos) (dDIn ti to) := PEw (pe_cmp (pc_din hu hi ho) hm) fun σ H Q h => lf_din h
theorem dpe_dnotin (hu : X.A.units + 1 < cLine) (hi : DPE X Γ i ti) (ho : DPE X Γ o to) (hm : behindInMarks .NotIn o = false := by rfl) : DPE X Γ (.Compare i [.NotIn] [o] pos) (dDNotIn ti to) := PEw (pe_cmp (pc_dnotin hu hi ho) hm) fun σ H Q h => lf_dnotin h
theorem dpt_din (hu : X.A.units + 1 < cLine) (hi : DPE X Γ i ti) (ho : DPE X Γ o to) (hm : behindInMarks .In o = false := by rfl) : DPT X Γ (.Compare i [.In] [o] pos) (dTest (dDIn ti to)) := PTw (pt_cmp (pc_din hu hi ho) hm) fun σ H Q h => lf_din (lf_test σ H Q h)
theorem dpt_dnotin (hu : X.A.units + 1 < cLine) (hi : DPE X Γ i ti) (ho : DPE X Γ o to) (hm : behindInMarks .NotIn o = false := by rfl) : DPT X Γ (.Compare i [.NotIn] [o] pos) (dTest (dDNotIn ti to)) := PTw (pt_cmp (pc_dnotin hu hi ho) hm) fun σ H Q h => lf_dnotin (lf_test σ H Q h)
theorem dps_dput (hu : X.A.units + 1 < cLine) (ho : DPE X Γ o to) (hi : DPE X Γ i ti) (hv : DPE X Γ value tv) (hs : swapsWith value (some (.Subscript o i tpos)) pos.line X.env = pure false := by rfl) : DPS X Γ (.Assign [.Subscript o i tpos] value pos) (dDPut to ti tv) :=
  PSw (ps_dput hu ho hi hv hs) fun D σ H ⟨F, δ, S, P, sm, rs, h, c⟩ => ⟨F, δ, S, _, sm, rs, h, fun dv S1 h1 v H1 g1 rv => ⟨F, δ, S1, _, g1.sim, rs.mono g1.same, h1, fun dx S2 h2 x H2 g2 rx =>
    ⟨F, δ, S2, _, g2.sim, (rs.mono g1.same).mono g2.same, h2, fun dy S3 ⟨S4, h3, h4⟩ y H3 g3 ry => by
      have g13 := (g1.trans g2).trans g3
      obtain ⟨a, H4, rfl, dp, g4⟩ := dPutD_rel g3.sim (rx.mono g3.same) ry (rv.mono (g2.trans g3).same) h3
      exact ⟨a, H4, rfl, dp, c.nx _ _ h4 _ _ (g13.trans g4) ((rs.mono g13.same).mono g4.same)⟩⟩⟩⟩
/-- a new dict -/
abbrev dNewK : DTE := fun _ S Q => ∀ p, S p = none → Q (.ref p) (sup S p (.dK []))
abbrev dNewT : DTE := fun _ S Q => ∀ p, S p = none → Q (.ref p) (sup S p (.dT []))
theorem dpe_dnewK : DPE X Γ (.Dict [] [] pos) dNewK := PEw pe_dnewK fun σ H Q ⟨F, δ, S, P, sm, rs, h, c⟩ p hp => c.newM (o := .dK []) (u := .dK []) sm hp ⟨[], rfl, .nil⟩ (.ref p) (h p (sm.none hp).2)
theorem dpe_dnewT : DPE X Γ (.Dict [] [] pos) dNewT := PEw pe_dnewT fun σ H Q ⟨F, δ, S, P, sm, rs, h, c⟩ p hp => c.newM (o := .dT []) (u := .dT []) sm hp ⟨[], rfl, .nil⟩ (.ref p) (h p (sm.none hp).2)
end
/-! ### displays of dicts -/
def dArgs : List DTE → DTA
  | [] => dNil
  | t :: r => dCons t (dArgs r)
abbrev tKey (k : Key) : TE := fun _ H Q => Q (kV k) H
def prs {K : PySem.W.Frag} (Γ : KG K) : List Key → List DTE → List (TE × TE)
  | k :: ks, t :: ts => (tKey k, lf Γ t) :: prs Γ ks ts
  | _, _ => []
def zipK {α : Type} : List Key → List α → List (Key × α)
  | k :: ks, x :: xs => (k, x) :: zipK ks xs
  | _, _ => []
theorem prs_ok {K : PySem.W.Frag} {Γ : KG K} {F : Addr → Bool} : ∀ (ks : List Key) (ts : List DTE), ks.length = ts.length → ∀ {σ : L2.St} {δ : DSt} {S : Sto} {H : Hp} {P : List D → Sto → Prop} {R : List (V × V) → Hp → Prop}, Sim Γ F S H → RelS K (fz F S H) σ δ → dArgs ts δ S P →
    (∀ ds S' vs H', P ds S' → Go Γ F S H S' H' → RelL K (fz F S' H') vs ds → vs.length = ks.length → R ((zipK ks vs).map fun kv => (kV kv.1, kv.2)) H') → tPairs (prs Γ ks ts) σ H R
  | [], [], _, σ, δ, S, H, P, R, sm, rs, h, c => c [] S [] H h (Go.refl sm) .nil rfl
  | k :: ks, t :: ts, hl, σ, δ, S, H, P, R, sm, rs, h, c => by
    refine ⟨F, δ, S, _, sm, rs, h, fun d S1 h1 v H1 g1 r1 => ?_⟩
    exact prs_ok ks ts (by simpa using hl) g1.sim (rs.mono g1.same) h1 fun ds S' vs H' p g r l => c (d :: ds) S' (v :: vs) H' p (g1.trans g) (.cons (r1.mono g.same) r) (by simp [l])
theorem zipK_rel {K : PySem.W.Frag} {G : Hp} : ∀ {ks : List Key} {vs : List V} {ds : List D}, RelL K G vs ds → RelF K G (zipK ks vs) (zipK ks ds)
  | [], _, _, _ => .nil
  | _ :: _, _, _, .nil => .nil
  | _ :: _, _, _, .cons r t => .cons r (zipK_rel t)
theorem zipK_keys {α : Type} : ∀ {ks : List Key} {vs : List α}, ∀ k v, (k, v) ∈ zipK ks vs → k ∈ ks
  | [], _, _, _, h => by cases h
  | _ :: _, [], _, _, h => by cases h
  | j :: ks, x :: xs, k, v, h => by
    rcases List.mem_cons.mp h with h | h
    · cases h; exact List.mem_cons_self
    · exact List.mem_cons_of_mem _ (zipK_keys k v h)
theorem merge_nodup : ∀ (ks : List Key) (vs : List V) (acc : List (Key × V)), ks.Nodup → (∀ k v, (k, v) ∈ acc → k ∉ ks) → mergeK acc (zipK ks vs) = acc ++ zipK ks vs
  | [], _, acc, _, _ => by simp [zipK, mergeK]
  | _ :: _, [], acc, _, _ => by simp [zipK, mergeK]
  | k :: ks, v :: vs, acc, hn, ha => by
    obtain ⟨hk, hn⟩ := List.nodup_cons.mp hn
    have e : putK acc k v = acc ++ [(k, v)] := by
      refine putK_new v ?_
      unfold valV
      rw [List.find?_eq_none.mpr fun x hx => by
        simp only [decide_eq_true_eq]
        intro z
        obtain ⟨a, b⟩ := x
        exact ha a b hx (by rw [show a = k from z]; exact List.mem_cons_self)]
      rfl
    show mergeK (putK acc k v) (zipK ks vs) = acc ++ (k, v) :: zipK ks vs
    rw [e, merge_nodup ks vs _ hn fun a b hx => ?_, List.append_assoc]
    · rfl
    · rcases List.mem_append.mp hx with hx | hx
      · exact fun z => ha a b hx (List.mem_cons_of_mem _ z)
      · cases List.mem_singleton.mp hx
        exact hk
theorem zipK_len {α : Type} : ∀ (ks : List Key) (vs : List α), (zipK ks vs).length ≤ ks.length
  | [], _ => Nat.le_refl _
  | _ :: _, [] => Nat.zero_le _
  | _ :: ks, _ :: vs => Nat.succ_le_succ (zipK_len ks vs)
abbrev dDisp (ks : List Key) (t : DTA) : DTE := fun δ S Q => t δ S fun ds S1 => ∀ p, S1 p = none → Q (.ref p) (sup S1 p (.dK (zipK ks ds)))
theorem dpe_disp {X : Cx} {Γ : KG X.K} {keys : List (Option Expr)} {values : List Expr} {pos : Pos} {ks : List Key} {ts : List DTE} (h : PPs X pos keys values (prs Γ ks ts)) (hn : ks.Nodup) (h15 : ks.length ≤ 15) (hks : ks.length = ts.length) (hall : keys.all (·.isSome) = true := by rfl) (hl : keys.length = values.length := by rfl) (h0 : keys ≠ [] := by simp) (hk15 : keys.length ≤ 15 := by decide) :
    DPE X Γ (.Dict keys values pos) (dDisp ks (dArgs ts)) := PEw (pe_disp h hall hl h0 hk15) fun σ H Q ⟨F, δ, S, P, sm, rs, q, c⟩ p hp => by
  have fp := (sm.none hp).1
  have s1 : Sim Γ (hide F p) S (upd H p (.dK [])) := sm.hideNew hp
  refine prs_ok ks ts hks s1 (rs.mono (fz_hide_new hp)) q fun ds S' vs H' q2 g r l => ?_
  have e2 : H' p = some (.dK []) := (g.hid p (by simp [hide])).trans upd_same
  have np : S' p = none := by
    cases z : S' p with
    | none => rfl
    | some u =>
      have q := (g.sim.at_ p u z).1
      simp [hide] at q
  have zl : (zipK ks vs).length ≤ 15 := Nat.le_trans (zipK_len ks vs) h15
  refine ⟨e2, zipK ks vs, rfl, zl, ?_⟩
  rw [merge_nodup ks vs [] hn (fun _ _ hx => by cases hx), List.nil_append]
  have same2 : Same (fz (hide F p) S' H') (fz F (sup S' p (.dK (zipK ks ds))) (upd H' p (.dK (zipK ks vs)))) := fun b x e => by
    obtain ⟨h0, h1, h2⟩ := fz_of e
    have nb : b ≠ p := fun z => by subst z; simp [hide] at h0
    rw [fz_none (by simpa [hide, nb] using h0) (by rw [sup_ne nb]; exact h1), upd_ne nb]
    exact h2
  have gb : GoB X.K F S H (sup S' p (.dK (zipK ks ds))) (upd H' p (.dK (zipK ks vs))) := by
    refine ⟨fun b x e => same2 _ _ (g.same _ _ (fz_hide_new hp _ _ e)), fun a f => ?_, ⟨fun a u e => ?_, fun a f => ?_⟩⟩
    · have na : a ≠ p := fun z => by subst z; rw [fp] at f; cases f
      rw [upd_ne na, g.hid a (by simp [hide, na, f]), upd_ne na]
    · by_cases na : a = p
      · subst na
        rw [sup_same] at e; cases e
        rw [upd_same]
        exact ⟨fp, _, rfl, zipK_rel (r.mono same2)⟩
      · rw [sup_ne na] at e
        rw [upd_ne na]
        have q := g.sim.at_ a u e
        exact ⟨by simpa [hide, na] using q.1, q.2.mono same2⟩
    · have na : a ≠ p := fun z => by subst z; rw [fp] at f; cases f
      obtain ⟨x, q⟩ := g.sim.hid a (by simp [hide, na, f])
      exact ⟨x, by rw [upd_ne na]; exact q⟩
  exact c _ _ (q2 p np) _ _ (.of sm gb) (.ref p)
end L3

set_option Elab.async false
set_option maxRecDepth 100000
set_option linter.all false
set_option maxHeartbeats 2000000
namespace L3
open PySem PySem.Spec PyProof.Rows L2
/-! ### len, of dicts with tuples as keys too -/
def vLenT : List D → Sto → DK → Prop
  | [.ref a], S, Q => match S a with
    | some (.dT kvs) => Q (.int kvs.length) S
    | _ => False
  | _, _, _ => False
section
variable {X : Cx} {Γ : KG X.K}
theorem dcall_lenT : DCall X (.builtin "len") vLenT := by
  refine ⟨_, call_len_dT, fun xs ds F S H P Q sm rx q c => ?_⟩
  cases rx with
  | nil => exact (q : False).elim
  | cons r1 r2 =>
  cases r2 with
  | cons _ _ => cases r1 <;> exact (q : False).elim
  | nil =>
  cases r1 <;> first | exact (q : False).elim | skip
  simp only [vLenT] at q
  split at q
  · rename_i e
    obtain ⟨vs, e1, r1⟩ := (sm.at_ _ _ e).2
    exact ⟨_, _, rfl, e1, c.use sm (by rw [r1.length]; exact .int _) q⟩
  · exact q.elim
end
/-! ### range(a, b, -1) -/
def downD (hi : Int) (n : Nat) : List D := (List.range n).map fun i => .int (hi - (i : Nat))
abbrev iDown (ta tb tz : DTE) : DTI := fun δ S Q => ta δ S fun x S1 => tb δ S1 fun y S2 => tz δ S2 fun z S3 => match x, y, z with
  | .int i, .int j, .int k => k = -1 ∧ (-(2 ^ 62) ≤ i ∧ i < 2 ^ 62 ∧ -(2 ^ 62) ≤ j ∧ j < 2 ^ 62) ∧ Q (fun _ => True) (downD i (i - j).toNat) S3
  | _, _, _ => False
theorem walk_down {K : PySem.W.Frag} {Γ : KG K} {F : Addr → Bool} {S : Sto} {H : Hp} {hi : Int} {n : Nat} : WalkD Γ F S H (fun _ => True) (downD hi n) (Itc hi (-1) n) := fun F' S' H' g s _ => by
  have hl : (downD hi n).length = n := by simp [downD]
  rw [hl]
  refine ⟨fun i h => h, Nat.le_refl _, fun i x H2 h y => ?_⟩
  obtain ⟨rfl, rfl⟩ := y
  refine ⟨.int (hi - i), ?_, Go.refl s, ?_⟩
  · unfold downD
    rw [List.getElem?_map, List.getElem?_range h]
    rfl
  · rw [show hi - (i : Int) = hi + i * -1 by omega]
    exact .int _
section
variable {X : Cx} {Γ : KG X.K} {tg a b c e : Expr} {ta tb te tz : DTE} {p pos p1 p2 : Pos} {k : Nat}
theorem dpi_down (hg : Gl X "range") (hm : X.mg "range" = none) (h : DPE X Γ a ta) (h' : DPE X Γ b tb) (hc : DPE X Γ c tz) (hs : starEach [a, b, c] X.env = (false, eval a X.env) :: starEach [b, c] X.env := by rfl) (hpl : (backTo pos (starEach [b, c] X.env)).any (·.1) = false := by rfl)
    (hs1 : starEach [b, c] X.env = (false, eval b X.env) :: starEach [c] X.env := by rfl) (hs2 : starEach [c] X.env = (false, eval c X.env) :: starEach [] X.env := by rfl) : DPI X Γ tg (.Call (.Name "range" p) [a, b, c] [] pos) (iDown ta tb tz) :=
  PIw (pi_range3 hg hm (dpa_cons h (dpa_cons h' (dpa_cons hc dpa_nil hs2) hs1) hs) hs hpl) fun σ H R ⟨F, δ, S, P, sm, rs, h, c⟩ => ⟨F, δ, S, fun ds S1 => match ds with
  | [x, y, z] => (match x, y, z with
    | .int i, .int j, .int k => k = -1 ∧ (-(2 ^ 62) ≤ i ∧ i < 2 ^ 62 ∧ -(2 ^ 62) ≤ j ∧ j < 2 ^ 62) ∧ P (fun _ => True) (downD i (i - j).toNat) S1
    | _, _, _ => False)
  | _ => False, sm, rs, h, fun ds S1 h1 vs H1 g1 r1 => by
    rcases ds with _ | ⟨x, _ | ⟨y, _ | ⟨z, _ | ⟨_, _⟩⟩⟩⟩ <;> first | exact (h1 : False).elim | skip
    cases x <;> first | exact (h1 : False).elim | skip
    cases y <;> first | exact (h1 : False).elim | skip
    cases z <;> first | exact (h1 : False).elim | skip
    cases r1 with
    | cons r1 r2 =>
    cases r2 with
    | cons r2 r3 =>
    cases r3 with
    | cons r3 r4 =>
    cases r4
    cases r1; cases r2; cases r3
    obtain ⟨rfl, ⟨b0, b1, b2, b3⟩, h3⟩ := h1
    exact ⟨_, _, _, _, rfl, .neg b0 b1 b2 b3, c _ _ _ h3 _ _ g1 walk_down⟩⟩
/-! ### zip -/
/-- two lists, or two tuples -/
abbrev iZipA (ta tb : DTE) : DTI := fun δ S Q => ta δ S fun x S1 => tb δ S1 fun y S2 => match itAll S2 x, itAll S2 y with
  | some p, some q => p.2.2 = q.2.2 ∧ Q (fun S' => p.1 S' ∧ q.1 S') ((p.2.1.zip q.2.1).map fun z => .key [z.1, z.2]) S2
  | _, _ => False
theorem zip_get {xs ys : List D} {i : Nat} {x y : D} (h : xs[i]? = some x) (h' : ys[i]? = some y) : ((xs.zip ys).map fun z => D.key [z.1, z.2])[i]? = some (.key [x, y]) := by
  have e : (xs.zip ys)[i]? = some (x, y) := List.getElem?_zip_eq_some.mpr ⟨h, h'⟩
  rw [List.getElem?_map, e]
  rfl
theorem walk_zipL {K : PySem.W.Frag} {Γ : KG K} {F : Addr → Bool} {S : Sto} {H : Hp} {a b : Addr} {ds es : List D} {kp kq : Sto → Prop} (h1 : HeldB Γ F S H kp a ds true) (h2 : HeldB Γ F S H kq b es true) : WalkD Γ F S H (fun S' => kp S' ∧ kq S') ((ds.zip es).map fun z => .key [z.1, z.2]) (Itz K a b) := fun F' S' H' g s k => by
  obtain ⟨xs, a1, a2⟩ := h1 F' S' H' g s k.1
  obtain ⟨ys, b1, b2⟩ := h2 F' S' H' g s k.2
  have hl : ((ds.zip es).map fun z => D.key [z.1, z.2]).length = min ds.length es.length := by simp
  rw [hl]
  refine ⟨fun i hi => ?_, ⟨xs, ys, a1, b1, ?_⟩, fun i x H2 hi y => ?_⟩
  · obtain ⟨v, e1, _⟩ := a2.get (List.getElem?_eq_getElem (show i < ds.length by omega))
    obtain ⟨w, e2, _⟩ := b2.get (List.getElem?_eq_getElem (show i < es.length by omega))
    exact ⟨xs, ys, v, w, a1, b1, e1, e2⟩
  · rw [a2.length, b2.length]
    omega
  · obtain ⟨T, u, w, rfl, hT, rfl, e1, e2⟩ := y
    obtain ⟨d, e3, r3⟩ := a2.get' (e1 xs a1)
    obtain ⟨e, e4, r4⟩ := b2.get' (e2 ys b1)
    exact ⟨_, zip_get e3 e4, s.new hT, .key (fz_new s hT) (.cons (r3.mono (same_new hT)) (.cons (r4.mono (same_new hT)) .nil))⟩
theorem walk_zipT {K : PySem.W.Frag} {Γ : KG K} {F : Addr → Bool} {S : Sto} {H : Hp} {a b : Addr} {ds es : List D} {kp kq : Sto → Prop} (h1 : HeldB Γ F S H kp a ds false) (h2 : HeldB Γ F S H kq b es false) : WalkD Γ F S H (fun S' => kp S' ∧ kq S') ((ds.zip es).map fun z => .key [z.1, z.2]) (RZ.ItzT K a b) := fun F' S' H' g s k => by
  obtain ⟨xs, a1, a2⟩ := h1 F' S' H' g s k.1
  obtain ⟨ys, b1, b2⟩ := h2 F' S' H' g s k.2
  have hl : ((ds.zip es).map fun z => D.key [z.1, z.2]).length = min ds.length es.length := by simp
  rw [hl]
  refine ⟨fun i hi => ?_, ⟨xs, ys, a1, b1, ?_⟩, fun i x H2 hi y => ?_⟩
  · obtain ⟨v, e1, _⟩ := a2.get (List.getElem?_eq_getElem (show i < ds.length by omega))
    obtain ⟨w, e2, _⟩ := b2.get (List.getElem?_eq_getElem (show i < es.length by omega))
    exact ⟨xs, ys, v, w, a1, b1, e1, e2⟩
  · rw [a2.length, b2.length]
    omega
  · obtain ⟨T, u, w, rfl, hT, rfl, e1, e2⟩ := y
    obtain ⟨d, e3, r3⟩ := a2.get' (e1 xs a1)
    obtain ⟨e, e4, r4⟩ := b2.get' (e2 ys b1)
    exact ⟨_, zip_get e3 e4, s.new hT, .key (fz_new s hT) (.cons (r3.mono (same_new hT)) (.cons (r4.mono (same_new hT)) .nil))⟩
theorem HeldB.mono {K : PySem.W.Frag} {Γ : KG K} {F : Addr → Bool} {S S1 : Sto} {H H1 : Hp} {kp : Sto → Prop} {a : Addr} {ds : List D} {b : Bool} (h : HeldB Γ F S H kp a ds b) (e : Same (fz F S H) (fz F S1 H1)) : HeldB Γ F S1 H1 kp a ds b := fun F' S' H' g s k => h F' S' H' (e.trans g) s k
variable {e2 : Expr} {elts : List Expr} {kk : Nat} {tpos : Pos}
theorem dpi_zip (hg : Gl X "zip") (hm : X.mg "zip" = none) (h : DPE X Γ e ta) (h' : DPE X Γ e2 tb) (hs : starEach [e, e2] X.env = (false, eval e X.env) :: starEach [e2] X.env := by rfl) (hs2 : starEach [e2] X.env = (false, eval e2 X.env) :: starEach [] X.env := by rfl) (hpl : (backTo pos (starEach [e2] X.env)).any (·.1) = false := by rfl) :
    DPI X Γ (.Tuple elts kk tpos) (.Call (.Name "zip" p) [e, e2] [] pos) (iZipA ta tb) :=
  PIw (RZ.pi_zipA hg hm (dpa_cons h (dpa_cons h' dpa_nil hs2) hs) hs hpl) fun σ H R ⟨F, δ, S, P, sm, rs, h, c⟩ => ⟨F, δ, S, fun ds S1 => match ds with
  | [x, y] => (match itAll S1 x, itAll S1 y with
    | some p, some q => p.2.2 = q.2.2 ∧ P (fun S' => p.1 S' ∧ q.1 S') ((p.2.1.zip q.2.1).map fun z => .key [z.1, z.2]) S1
    | _, _ => False)
  | _ => False, sm, rs, h, fun ds S1 h1 vs H1 g1 r1 => by
    rcases ds with _ | ⟨x, _ | ⟨y, _ | ⟨_, _⟩⟩⟩ <;> first | exact (h1 : False).elim | skip
    cases r1 with
    | cons r1 r2 =>
    cases r2 with
    | cons r2 r3 =>
    cases r3
    have h1 : match itAll S1 x, itAll S1 y with
      | some p, some q => p.2.2 = q.2.2 ∧ P (fun S' => p.1 S' ∧ q.1 S') ((p.2.1.zip q.2.1).map fun z => .key [z.1, z.2]) S1
      | _, _ => False := h1
    split at h1
    · rename_i p q e1 e2
      obtain ⟨a, vs, rfl, s1, _, w1⟩ := itAll_rel g1.sim r1 e1
      obtain ⟨b, ws, rfl, s2, _, w2⟩ := itAll_rel g1.sim r2 e2
      obtain ⟨eb, h1⟩ := h1
      obtain ⟨kp, ds, pb⟩ := p
      obtain ⟨kq, es, qb⟩ := q
      have eb : pb = qb := eb
      subst eb
      cases pb with
      | true => exact ⟨a, b, vs, ws, rfl, .inl ⟨s1, s2, c _ _ _ h1 _ _ g1 (walk_zipL w1 w2)⟩⟩
      | false => exact ⟨a, b, vs, ws, rfl, .inr ⟨s1, s2, c _ _ _ h1 _ _ g1 (walk_zipT w1 w2)⟩⟩
    · exact h1.elim⟩
end
/-! ### calls with keywords -/
def perm {α : Type} (p : List Nat) (xs : List α) : List α := p.filterMap fun i => xs[i]?
theorem Vals.perm {vs : List V} {us : List Value} (r : Vals vs us) : ∀ p : List Nat, Vals (L3.perm p vs) (L3.perm p us)
  | [] => .nil
  | i :: p => by
    unfold L3.perm
    rw [List.filterMap_cons, List.filterMap_cons]
    by_cases h : i < vs.length
    · obtain ⟨u, e, ru⟩ := r.get (List.getElem?_eq_getElem h)
      rw [List.getElem?_eq_getElem h, e]
      exact .cons ru (Vals.perm r p)
    · rw [List.getElem?_eq_none (by omega), List.getElem?_eq_none (by rw [← r.length]; omega)]
      exact Vals.perm r p
theorem RelL.perm {K : PySem.W.Frag} {G : Hp} {vs : List V} {ds : List D} (r : RelL K G vs ds) : ∀ p : List Nat, RelL K G (L3.perm p vs) (L3.perm p ds)
  | [] => .nil
  | i :: p => by
    unfold L3.perm
    rw [List.filterMap_cons, List.filterMap_cons]
    by_cases h : i < ds.length
    · obtain ⟨u, e, ru⟩ := r.get (List.getElem?_eq_getElem h)
      rw [List.getElem?_eq_getElem h, e]
      exact .cons ru (RelL.perm r p)
    · have hl := r.length
      rw [List.getElem?_eq_none (show vs.length ≤ i by omega), List.getElem?_eq_none (show ds.length ≤ i by omega)]
      exact RelL.perm r p
/-- how a call binds: nu values by position, those of ks by name; p says which goes where -/
structure KwB (fd : FuncData) (ps ks : List Str) (nu : Nat) (p : List Nat) : Prop where
  to : ∀ (us ws : List Value), us.length = nu → ws.length = ks.length → bindArgs fd ⟨us, ks.zip ws⟩ = pure (ps.zip (perm p (us ++ ws)))
theorem kwB_of {K : PySem.W.Frag} {x qual : Str} {st : Stmt} {f : Addr} {fd : FuncData} {ps ks : List Str} {nu : Nat} {p : List Nat} (F : Fun K x qual st f fd)
    (h : ∀ (kV doc pm : Value) (an : Option Addr) (cdv ct : Value) (us ws : List Value), us.length = nu → ws.length = ks.length → bindArgs (PySem.W.fnOf x qual (defArgs st) (defBody st) (defScope st) .none kV doc pm an cdv ct) ⟨us, ks.zip ws⟩ = pure (ps.zip (perm p (us ++ ws)))) : KwB fd ps ks nu p := by
  obtain ⟨oc, od, kV, doc, pm, an, cdv, ct, osl, rfl, lk, hcd⟩ := F.ex
  exact ⟨h kV doc pm an cdv ct⟩
section
variable {X : Cx} {CX : CXT} {k nu : Nat} {f : Addr} {fd : FuncData} {ps ks : List Str} {pm : List Nat} {sp : Sp} {E : L2.St → XK} {x : Str} {p pos : Pos} {e : Expr} {es : List Expr} {kws : List Keyword} {t tk : TA}
abbrev tKw (sp : Sp) (pm : List Nat) (nu nk : Nat) (E : L2.St → XK) (t tk : TA) : TE := fun σ H Q => t σ H fun vs H1 => tk σ H1 fun zs H2 => vs.length = nu ∧ zs.length = nk ∧ sp (perm pm (vs ++ zs)) H2 Q (E σ)
theorem run_kw {pins : List (Addr × Obj)} {σ : L2.St} {H : Hp} {s : Shared} {Q : VK} {us ws : List Value} {vs zs : List V} (F : FnOk X.prog X.w X.K X.mg X.base CX k f fd ps sp) (hr : Room k X.A) (hb : KwB fd ps ks nu pm) (hx : PassesAt CX X σ (E σ))
    (I : Inv X pins σ H s) (r : Vals vs us) (rz : Vals zs ws) (h1 : vs.length = nu) (h2 : zs.length = ks.length) (h : sp (perm pm (vs ++ zs)) H Q (E σ)) : wpAny (model X.prog X.w) X.A (call (.ref f) us (ks.zip ws)) (EP X pins σ Q) X.xe s := by
  have r2 : Vals (perm pm (vs ++ zs)) (perm pm (us ++ ws)) := Vals.perm (r.append rz) pm
  refine wpAny_call (codeAny_mono (F.run X.A X.stack s H ⟨us, ks.zip ws⟩ _ _ Q (E σ) hr I.env0 (.of_eq (hb.to us ws (by rw [← r.length]; exact h1) (by rw [← rz.length]; exact h2))) r2 h) fun r s' hq => ?_)
  rcases r with e | fl
  · exact hx pins H s e s' I hq
  · cases fl <;> first | exact hq.elim | exact I.after hq
theorem pe_kw (F : FnOk X.prog X.w X.K X.mg X.base CX k f fd ps sp) (hr : Room k X.A) (hg : Gl X x) (hm : X.mg x = some (.ref f)) (hk : PySem.W.keepIn X.K (.ref f) = true) (hb : KwB fd ps ks nu pm) (hx : ∀ σ, PassesAt CX X σ (E σ))
    (ha : PA X (e :: es) t) (hkw : PK X kws tk) (hall : (backToKw pos (keywordEach kws X.env)).all (·.1.isSome) = true) (hks : (backToKw pos (keywordEach kws X.env)).filterMap (·.1) = ks)
    (hdb : (x == ("__debug__" : Str)) = false) (he : starEach (e :: es) X.env = (false, eval e X.env) :: starEach es X.env) (hpl : ((backTo pos (starEach (e :: es) X.env)).any (·.1) || (backToKw pos (keywordEach kws X.env)).any (·.1.isNone)) = false) :
    PE X (.Call (.Name x p) (e :: es) kws pos) (tKw sp pm nu ks.length E t tk) := by
  refine ⟨fun pins s σ H Q I h => wpAny_Call_Name_kw (ld_glob I hg hm ?_ hdb)⟩
  refine PySem.W.callWith_KW (h₀ := X.base) I.ok.mod.kin hk hall (thn (ha.run pos pins s σ H _ I h) fun us s1 ⟨vs, H1, I1, r, q⟩ => ?_) hpl he
  refine thn (hkw.run pos pins s1 σ H1 _ I1 q) fun ws s2 ⟨zs, H2, I2, rz, q1, q2, q3⟩ => ⟨I2.kIn, ?_⟩
  rw [hks]
  exact run_kw F hr hb (hx σ) I2 r rz q1 q2 q3
theorem pe_kw0 (F : FnOk X.prog X.w X.K X.mg X.base CX k f fd ps sp) (hr : Room k X.A) (hg : Gl X x) (hm : X.mg x = some (.ref f)) (hk : PySem.W.keepIn X.K (.ref f) = true) (hb : KwB fd ps ks nu pm) (hx : ∀ σ, PassesAt CX X σ (E σ))
    (hkw : PK X kws tk) (hall : (backToKw pos (keywordEach kws X.env)).all (·.1.isSome) = true) (hks : (backToKw pos (keywordEach kws X.env)).filterMap (·.1) = ks)
    (hdb : (x == ("__debug__" : Str)) = false) (hpl : ((backTo pos (starEach [] X.env)).any (·.1) || (backToKw pos (keywordEach kws X.env)).any (·.1.isNone)) = false) :
    PE X (.Call (.Name x p) [] kws pos) (tKw sp pm nu ks.length E tNil tk) := by
  refine ⟨fun pins s σ H Q I h => wpAny_Call_Name_kw (ld_glob I hg hm ?_ hdb)⟩
  refine PySem.W.callWith_KW0 (h₀ := X.base) I.ok.mod.kin hk hall (thn (hkw.run pos pins s σ H _ I h) fun ws s2 ⟨zs, H2, I2, rz, q1, q2, q3⟩ => ⟨I2.kIn, ?_⟩) hpl
  rw [hks]
  exact run_kw (vs := []) (us := []) F hr hb (hx σ) I2 .nil rz q1 q2 q3
end
theorem dArgs_app : ∀ (as ks : List DTE) (δ : DSt) (S : Sto) (Q : List D → Sto → Prop), dArgs (as ++ ks) δ S Q = dArgs as δ S (fun ds S1 => dArgs ks δ S1 (fun es S2 => Q (ds ++ es) S2))
  | [], ks, δ, S, Q => rfl
  | a :: as, ks, δ, S, Q => by
    show a δ S (fun x S1 => dArgs (as ++ ks) δ S1 fun ds S2 => Q (x :: ds) S2) = a δ S (fun x S1 => dArgs as δ S1 fun ds S2 => dArgs ks δ S2 fun es S3 => Q (x :: ds ++ es) S3)
    congr 1
    funext x S1
    exact dArgs_app as ks δ S1 _
theorem lf_args {K : PySem.W.Frag} {Γ : KG K} : ∀ (ts : List DTE) {σ : L2.St} {H : Hp} {F : Addr → Bool} {δ : DSt} {S : Sto} {P : List D → Sto → Prop} {R : List V → Hp → Prop}, Sim Γ F S H → RelS K (fz F S H) σ δ → dArgs ts δ S P →
    (∀ ds S' vs H', P ds S' → Go Γ F S H S' H' → RelL K (fz F S' H') vs ds → ds.length = ts.length → R vs H') → lfA Γ (dArgs ts) σ H R
  | ts, σ, H, F, δ, S, P, R, sm, rs, h, c => by
    refine ⟨F, δ, S, fun ds S' => ds.length = ts.length ∧ P ds S', sm, rs, ?_, fun ds S' ⟨l, p⟩ vs H' g r => c ds S' vs H' p g r l⟩
    have e : ∀ (ts : List DTE) (S : Sto) (Q : List D → Sto → Prop), dArgs ts δ S Q = dArgs ts δ S fun ds S' => ds.length = ts.length ∧ Q ds S' := fun ts => by
      induction ts with
      | nil => intro S Q; show Q [] S = (([] : List D).length = 0 ∧ Q [] S); simp
      | cons t ts ih =>
        intro S Q
        show t δ S (fun x S1 => dArgs ts δ S1 fun ds S2 => Q (x :: ds) S2) = t δ S (fun x S1 => dArgs ts δ S1 fun ds S2 => (x :: ds).length = (t :: ts).length ∧ Q (x :: ds) S2)
        congr 1
        funext x S1
        rw [ih S1 fun ds S2 => Q (x :: ds) S2]
        simp
    rw [e] at h
    exact h
abbrev kw1 (f : D → List D) (sp : DSp) : DSp := fun ds S Q => match ds with | [a] => sp (f a) S Q | _ => False
abbrev kw2 (f : D → D → List D) (sp : DSp) : DSp := fun ds S Q => match ds with | [a, b] => sp (f a b) S Q | _ => False
abbrev kw3 (f : D → D → D → List D) (sp : DSp) : DSp := fun ds S Q => match ds with | [a, b, c] => sp (f a b c) S Q | _ => False
abbrev kw4 (f : D → D → D → D → List D) (sp : DSp) : DSp := fun ds S Q => match ds with | [a, b, c, d] => sp (f a b c d) S Q | _ => False
theorem kw1_ok {f : D → List D} {sp : DSp} {p : List Nat} (h : ∀ a, perm p [a] = f a := by intro _; rfl) : ∀ ds S Q, kw1 f sp ds S Q → sp (perm p ds) S Q
  | [a], S, Q, q => by rw [h]; exact q
  | [], _, _, q | _ :: _ :: _, _, _, q => (q : False).elim
theorem kw2_ok {f : D → D → List D} {sp : DSp} {p : List Nat} (h : ∀ a b, perm p [a, b] = f a b := by intro _ _; rfl) : ∀ ds S Q, kw2 f sp ds S Q → sp (perm p ds) S Q
  | [a, b], S, Q, q => by rw [h]; exact q
  | [], _, _, q | [_], _, _, q | _ :: _ :: _ :: _, _, _, q => (q : False).elim
theorem kw3_ok {f : D → D → D → List D} {sp : DSp} {p : List Nat} (h : ∀ a b c, perm p [a, b, c] = f a b c := by intro _ _ _; rfl) : ∀ ds S Q, kw3 f sp ds S Q → sp (perm p ds) S Q
  | [a, b, c], S, Q, q => by rw [h]; exact q
  | [], _, _, q | [_], _, _, q | [_, _], _, _, q | _ :: _ :: _ :: _ :: _, _, _, q => (q : False).elim
theorem kw4_ok {f : D → D → D → D → List D} {sp : DSp} {p : List Nat} (h : ∀ a b c d, perm p [a, b, c, d] = f a b c d := by intro _ _ _ _; rfl) : ∀ ds S Q, kw4 f sp ds S Q → sp (perm p ds) S Q
  | [a, b, c, d], S, Q, q => by rw [h]; exact q
  | [], _, _, q | [_], _, _, q | [_, _], _, _, q | [_, _, _], _, _, q | _ :: _ :: _ :: _ :: _ :: _, _, _, q => (q : False).elim
section
variable {X : Cx} {Γ : KG X.K} {k nu : Nat} {f : Addr} {fd : FuncData} {ps ks : List Str} {pm : List Nat} {sp sp' : DSp} {x : Str} {p pos : Pos} {e : Expr} {es : List Expr} {kws : List Keyword} {ta tk : List DTE}
theorem dpk_nil : PK X [] (lfA Γ (dArgs [])) := ⟨fun pos pins s σ H Q I ⟨F, δ, S, P, sm, rs, h, c⟩ => pk_nil.run pos pins s σ H Q I (c _ _ h _ _ (Go.refl sm) .nil)⟩
theorem dpk_cons {te : DTE} {nm : Option Str} {kpos : Pos} (ha : DPE X Γ e te) (hr : PK X kws (lfA Γ (dArgs tk))) : PK X (⟨nm, e, kpos⟩ :: kws) (lfA Γ (dArgs (te :: tk))) := ⟨fun pos pins s σ H Q I ⟨F, δ, S, P, sm, rs, h, c⟩ =>
  (pk_cons ha hr).run pos pins s σ H Q I ⟨F, δ, S, _, sm, rs, h, fun d S1 h1 v H1 g1 r1 => ⟨F, δ, S1, _, g1.sim, rs.mono g1.same, h1, fun ds S2 h2 vs H2 g2 r2 => c _ _ h2 _ _ (g1.trans g2) (.cons (r1.mono g2.same) r2)⟩⟩⟩
theorem pass0At {σ : L2.St} : PassesAt CX0 X σ E0 := fun pins H s e s' I h => pass0 pins σ H s e s' I h
theorem lf_kw {σ : L2.St} {H : Hp} {Q : VK} (hsp : ∀ ds S Q, sp' ds S Q → sp (perm pm ds) S Q) (h1 : ta.length = nu) (h2 : tk.length = ks.length) (h : lf Γ (dCall sp' (dArgs (ta ++ tk))) σ H Q) : tKw (lfSp X.K sp) pm nu ks.length (fun _ => E0) (lfA Γ (dArgs ta)) (lfA Γ (dArgs tk)) σ H Q := by
  obtain ⟨F, δ, S, P, sm, rs, h, c⟩ := h
  rw [show dCall sp' (dArgs (ta ++ tk)) δ S P = dArgs (ta ++ tk) δ S fun ds S1 => sp' ds S1 P from rfl, dArgs_app] at h
  refine lf_args ta sm rs h fun ds S1 vs H1 q1 g1 r1 l1 => lf_args tk g1.sim (rs.mono g1.same) q1 fun es S2 zs H2 q2 g2 r2 l2 => ⟨by rw [r1.length, l1, h1], by rw [r2.length, l2, h2], ?_⟩
  have r : RelL X.K (fz F S2 H2) (vs ++ zs) (ds ++ es) := (r1.mono g2.same).append r2
  exact ⟨F, _, S2, P, g2.sim.top, r.perm pm, hsp _ _ _ q2, (c.mono (g1.trans g2)).top g2.sim⟩
theorem dpe_kw (F : FnD X.prog X.w X.K X.mg X.base k f fd ps sp) (hr : Room k X.A) (hg : Gl X x) (hm : X.mg x = some (.ref f)) (hk : PySem.W.keepIn X.K (.ref f) = true) (hb : KwB fd ps ks nu pm) (hsp : ∀ ds S Q, sp' ds S Q → sp (perm pm ds) S Q) (h1 : ta.length = nu) (h2 : tk.length = ks.length)
    (ha : DPA X Γ (e :: es) (dArgs ta)) (hkw : PK X kws (lfA Γ (dArgs tk))) (hall : (backToKw pos (keywordEach kws X.env)).all (·.1.isSome) = true := by rfl) (hks : (backToKw pos (keywordEach kws X.env)).filterMap (·.1) = ks := by rfl)
    (hdb : (x == ("__debug__" : Str)) = false := by decide) (he : starEach (e :: es) X.env = (false, eval e X.env) :: starEach es X.env := by rfl) (hpl : ((backTo pos (starEach (e :: es) X.env)).any (·.1) || (backToKw pos (keywordEach kws X.env)).any (·.1.isNone)) = false := by rfl) :
    DPE X Γ (.Call (.Name x p) (e :: es) kws pos) (dCall sp' (dArgs (ta ++ tk))) := PEw (pe_kw (E := fun _ => E0) F hr hg hm hk hb (fun _ => pass0At) ha hkw hall hks hdb he hpl) fun σ H Q h => lf_kw hsp h1 h2 h
theorem dpe_kw0 (F : FnD X.prog X.w X.K X.mg X.base k f fd ps sp) (hr : Room k X.A) (hg : Gl X x) (hm : X.mg x = some (.ref f)) (hk : PySem.W.keepIn X.K (.ref f) = true) (hb : KwB fd ps ks 0 pm) (hsp : ∀ ds S Q, sp' ds S Q → sp (perm pm ds) S Q) (h2 : tk.length = ks.length)
    (hkw : PK X kws (lfA Γ (dArgs tk))) (hall : (backToKw pos (keywordEach kws X.env)).all (·.1.isSome) = true := by rfl) (hks : (backToKw pos (keywordEach kws X.env)).filterMap (·.1) = ks := by rfl)
    (hdb : (x == ("__debug__" : Str)) = false := by decide) (hpl : ((backTo pos (starEach [] X.env)).any (·.1) || (backToKw pos (keywordEach kws X.env)).any (·.1.isNone)) = false := by rfl) :
    DPE X Γ (.Call (.Name x p) [] kws pos) (dCall sp' (dArgs tk)) := PEw (pe_kw0 (E := fun _ => E0) F hr hg hm hk hb (fun _ => pass0At) hkw hall hks hdb hpl) fun σ H Q ⟨F, δ, S, P, sm, rs, h, c⟩ =>
  lf_args tk sm rs h fun es S2 zs H2 q2 g2 r2 l2 => ⟨rfl, by rw [r2.length, l2, h2], ⟨F, _, S2, P, g2.sim.top, r2.perm pm, hsp _ _ _ q2, (c.mono g2).top g2.sim⟩⟩
end
/-! ### a tuple that is a key -/
abbrev dKeyT (t : DTA) : DTE := fun δ S Q => t δ S fun ds S1 => ds.length ≤ 1000 ∧ Q (.key ds) S1
theorem dpe_key {X : Cx} {Γ : KG X.K} {es : List Expr} {t : DTA} {pos : Pos} {x1} (h : DPA X Γ es t) : DPE X Γ (.Tuple es x1 pos) (dKeyT t) :=
  PEw (pe_tup h) fun σ H Q ⟨F, δ, S, P, sm, rs, h, c⟩ => ⟨F, δ, S, _, sm, rs, h, fun ds S1 ⟨hn, h1⟩ xs H1 g1 rx => ⟨by rw [rx.length, sizeLine_eq]; omega, fun p hp =>
    (c.mono g1).new g1.sim hp (.key (fz_new g1.sim hp) (rx.mono (same_new hp))) h1⟩⟩
end L3

set_option Elab.async false
set_option maxRecDepth 100000
set_option linter.all false
set_option maxHeartbeats 2000000
namespace L3
open PySem PySem.Spec PyProof.Rows L2
/-! ### a list that is changed no more -/
def sdel (S : Sto) (a : Addr) : Sto := fun b => if b = a then none else S b
theorem sdel_ne {S : Sto} {a b : Addr} (h : b ≠ a) : sdel S a b = S b := by unfold sdel; rw [if_neg h]
theorem sdel_same {S : Sto} {a : Addr} : sdel S a a = none := by unfold sdel; rw [if_pos rfl]
theorem sdel_sup {S : Sto} {a : Addr} {o : SO} (h : S a = none) : sdel (sup S a o) a = S := by
  funext b
  by_cases e : b = a
  · subst e; rw [sdel_same, h]
  · rw [sdel_ne e, sup_ne e]
theorem sdel_some {S : Sto} {a b : Addr} {o : SO} (h : sdel S a b = some o) : S b = some o := by
  by_cases e : b = a
  · subst e; rw [sdel_same] at h; cases h
  · rwa [sdel_ne e] at h
abbrev dFrz (i : Nat) (t : DTS) : DTS := fun D δ S => ∃ a ds, slot δ i = some (.ref a) ∧ S a = some (.lst ds) ∧ t D (dset δ i (some (.lst ds))) (sdel S a)
theorem RelS.setSame {K : PySem.W.Frag} {G : Hp} : ∀ {σ : L2.St} {δ : DSt} {i : Nat} {v : V} {d : D}, RelS K G σ δ → σ[i]? = some (some v) → Rel K G v d → RelS K G σ (L3.dset δ i (some d)) := fun {σ δ i v d} r e q => by
  have h := r.dset q i
  have e2 : σ.set i (some v) = σ := by
    obtain ⟨hl, e⟩ := List.getElem?_eq_some_iff.mp e
    rw [← e]
    exact List.set_getElem_self hl
  rw [e2] at h
  exact h
theorem dpss_frz {X : Cx} {Γ : KG X.K} {sts : List Stmt} {t : DTS} (i : Nat) (h : DPSs X Γ sts t) : DPSs X Γ sts (dFrz i t) := PSsw h fun D σ H ⟨F, δ, S, P, sm, rs, ⟨a, ds, e1, e2, q⟩, c⟩ => by
  have g : Go Γ F S H (sdel S a) H := Go.drop sm (Go.refl sm) fun b o => sdel_some
  obtain ⟨vs, h1, r1⟩ := sm.lst e2
  obtain ⟨v, h2, r2⟩ := rs.get (slot_get e1)
  cases r2
  have r3 : Rel X.K (fz F (sdel S a) H) (.ref a) (.lst ds) := .lst (by rw [fz_none (sm.at_ _ _ e2).1 sdel_same]; exact h1) (r1.mono g.same)
  exact ⟨F, _, sdel S a, P, g.sim, (rs.mono g.same).setSame h2 r3, q, c.mono g⟩
end L3

set_option Elab.async false
set_option maxRecDepth 100000
set_option linter.all false
set_option maxHeartbeats 2000000
namespace L3
open PySem L2
/-! ### more steps -/
theorem sizeLine_val : sizeLine = 16777216 := sizeLine_eq
abbrev iD (n : Nat) : D := .int (n : Int)
section
variable {a b c d e f g x y z : D} {i j : Int} {xs ys ds : List D} {p q : List Int} {s t : Str} {u v : Bool} {S : Sto} {Q : DK} {n : String} {A : Addr} {lo hi : Option Int} {so : SO} {X Y : Prop} {k : Nat} {R : Bool → Sto → Prop}
theorem st_tru_bl (h : R u S) : vTru (.bl u) S R := h
theorem st_tru_non (h : R false S) : vTru .non S R := h
theorem st_tru_int (h : R (i != 0) S) : vTru (.int i) S R := h
theorem st_tru_tup (h : R (!ds.isEmpty) S) : vTru (.tup ds) S R := h
theorem st_tru_lst (h : R (!ds.isEmpty) S) : vTru (.lst ds) S R := h
theorem st_tru_ref (e : S A = some (.lst ds)) (h : R (!ds.isEmpty) S) : vTru (.ref A) S R := by simp only [vTru, e]; exact h
theorem st_at (e : ds[k]? = some d) (h : Q d S) : vIx (.tup ds) (.int (k : Int)) S Q := by
  rw [vIx_tup, atI_int (Int.natCast_nonneg k), Int.toNat_natCast, e]
  exact h
theorem st_atl (e : ds[k]? = some d) (h : Q d S) : vIx (.lst ds) (.int (k : Int)) S Q := by
  rw [vIx_lst, atI_int (Int.natCast_nonneg k), Int.toNat_natCast, e]
  exact h
theorem st_atr (e0 : S A = some (.lst ds)) (e : ds[k]? = some d) (h : Q d S) : vIx (.ref A) (.int (k : Int)) S Q := by
  simp only [vIx, e0, atI_int (Int.natCast_nonneg k), Int.toNat_natCast, e]
  exact h
theorem st_len_r (e : S A = some (.lst ds)) (h : Q (.int (ds.length : Nat)) S) : vLen [.ref A] S Q := by simp only [vLen, e]; exact h
theorem st_tup_r (e : S A = some (.lst ds)) (h : Q (.tup ds) S) : vTuple [.ref A] S Q := by simp only [vTuple, e]; exact h
theorem st_append {A : Addr} {d : D} {xs : List D} {S : Sto} {Q : DK} (hS : S A = some (.lst xs)) (h1 : xs.length < sizeLine) (h : Q .non (sup S A (.lst (xs ++ [d])))) : vAppend (.ref A) [d] S Q := by
  simp only [vAppend, hS]
  exact ⟨h1, h⟩
theorem inD_nat {x : Nat} : ∀ {l : List Nat}, inD (iD x) (l.map iD) = decide (x ∈ l)
  | [] => by simp [inD]
  | y :: l => by
    have h := inD_nat (x := x) (l := l)
    unfold inD at h ⊢
    rw [List.map_cons, List.any_cons, h]
    have e : eqD (iD y) (iD x) = decide (x = y) := by
      show ((y : Int) == (x : Int)) = _
      by_cases z : x = y
      · subst z; simp
      · rw [decide_eq_false z]
        simp only [beq_eq_false_iff_ne, ne_eq]
        omega
    rw [e]
    simp [List.mem_cons]
theorem flat_nat (l : List Nat) : (l.map iD).all flatD = true := by
  rw [List.all_map]
  exact List.all_eq_true.mpr fun _ _ => rfl
theorem st_in_r {x : Nat} {l : List Nat} (e : S A = some (.lst (l.map iD))) (h : Q (.bl (decide (x ∈ l))) S) : vIn false (iD x) (.ref A) S Q := by
  show vInO false (iD x) S Q (seqOf S (.ref A))
  simp only [seqOf, e, vInO, vInS, flat_nat, inD_nat]
  exact ⟨rfl, trivial, h⟩
theorem st_notin_r {x : Nat} {l : List Nat} (e : S A = some (.lst (l.map iD))) (h : Q (.bl (decide (x ∉ l))) S) : vIn true (iD x) (.ref A) S Q := by
  show vInO true (iD x) S Q (seqOf S (.ref A))
  simp only [seqOf, e, vInO, vInS, flat_nat, inD_nat]
  refine ⟨rfl, trivial, ?_⟩
  simpa using h
end
/-! ### list comprehensions, item by item -/
theorem lcL_idx {kp : Sto → Prop} {g : DTG} {tt : DTT} {te : DTE} {vs : List Nat} {δ : DSt} {S : Sto} {Q : DK} (hk : kp S) (o : Nat → Option D) : ∀ (L acc : List D) (k : Nat), acc.length + L.length ≤ sizeLine →
    (∀ j d, L[j]? = some d → ∀ (P : DK) (N : Sto → Prop), (match o (k + j) with | some y => P y S | none => N S) → g d (dwipe δ vs) S fun δ2 S2 => tt δ2 S2 fun b S3 => if b = true then te δ2 S3 fun y S4 => P y S4 else N S3) →
    Q (.lst (acc ++ (List.range' k L.length).filterMap o)) S → lcL kp g tt te vs δ L acc S Q
  | [], acc, k, _, _, q => ⟨hk, by simpa using q⟩
  | d :: L, acc, k, hz, h, q => by
    have hz' : acc.length + 1 + L.length ≤ sizeLine := by simpa [Nat.add_assoc, Nat.add_comm 1] using hz
    have hn : ∀ j d', L[j]? = some d' → ∀ (P : DK) (N : Sto → Prop), (match o (k + 1 + j) with | some y => P y S | none => N S) → g d' (dwipe δ vs) S fun δ2 S2 => tt δ2 S2 fun b S3 => if b = true then te δ2 S3 fun y S4 => P y S4 else N S3 := fun j d' e P N z => h (j + 1) d' (by simpa using e) P N (by rw [show k + (j + 1) = k + 1 + j by omega]; exact z)
    refine ⟨hk, by omega, h 0 d rfl _ _ ?_⟩
    rw [Nat.add_zero]
    rw [List.length_cons, List.range'_succ, List.filterMap_cons] at q
    split
    · rename_i y e
      rw [e] at q
      refine lcL_idx hk o L (acc ++ [y]) (k + 1) (by simp only [List.length_append, List.length_cons, List.length_nil]; omega) hn ?_
      rw [List.append_assoc]
      exact q
    · rename_i e
      rw [e] at q
      exact lcL_idx hk o L acc (k + 1) (by omega) hn q
theorem lcL_0 {kp : Sto → Prop} {g : DTG} {tt : DTT} {te : DTE} {vs : List Nat} {δ : DSt} {S : Sto} {Q : DK} {L : List D} (hk : kp S) (o : Nat → Option D) (hz : L.length ≤ sizeLine)
    (h : ∀ j d, L[j]? = some d → ∀ (P : DK) (N : Sto → Prop), (match o j with | some y => P y S | none => N S) → g d (dwipe δ vs) S fun δ2 S2 => tt δ2 S2 fun b S3 => if b = true then te δ2 S3 fun y S4 => P y S4 else N S3)
    (q : Q (.lst ((List.range L.length).filterMap o)) S) : lcL kp g tt te vs δ L [] S Q :=
  lcL_idx hk o L [] 0 (by simpa using hz) (fun j d e P N z => h j d e P N (by rw [Nat.zero_add] at z; exact z)) (by rw [List.nil_append, ← List.range_eq_range']; exact q)
theorem fm_congr {α : Type} {f g : α → Option D} : ∀ {l : List α}, (∀ x ∈ l, f x = g x) → l.filterMap f = l.filterMap g
  | [], _ => rfl
  | x :: l, h => by rw [List.filterMap_cons, List.filterMap_cons, h x List.mem_cons_self, fm_congr fun y hy => h y (List.mem_cons_of_mem _ hy)]
theorem fm_all {n : Nat} {o : Nat → Option D} {f : Nat → D} (h : ∀ j, j < n → o j = some (f j)) : (List.range n).filterMap o = (List.range n).map f := by
  rw [← List.filterMap_eq_map]
  exact fm_congr fun j hj => h j (List.mem_range.mp hj)
theorem fm_if {n : Nat} {o : Nat → Option D} {p : Nat → Bool} {f : Nat → D} (h : ∀ j, j < n → o j = if p j = true then some (f j) else none) : (List.range n).filterMap o = ((List.range n).filter p).map f := by
  rw [fm_congr (g := fun j => if p j = true then some (f j) else none) fun j hj => h j (List.mem_range.mp hj)]
  induction List.range n with
  | nil => rfl
  | cons x l ih =>
    rw [List.filterMap_cons, List.filter_cons, ih]
    by_cases e : p x = true
    · simp [e]
    · simp [e]
theorem range_map {α β : Type} (xs : List α) (f : α → β) : (List.range xs.length).map (fun j => (xs[j]?).map f) = xs.map fun x => some (f x) := by
  apply List.ext_getElem
  · simp
  · intro i h1 h2
    simp only [List.getElem_map, List.getElem_range]
    rw [List.getElem?_eq_getElem (by simpa using h2)]
    rfl
/-- of a list item by item its image -/
theorem fm_list {α : Type} (xs : List α) (f : α → D) : (List.range xs.length).filterMap (fun j => (xs[j]?).map f) = xs.map f := by
  rw [show (List.range xs.length).filterMap (fun j => (xs[j]?).map f) = ((List.range xs.length).map (fun j => (xs[j]?).map f)).filterMap id by rw [List.filterMap_map]; rfl, range_map, List.filterMap_map]
  induction xs with
  | nil => rfl
  | cons x xs ih => rw [List.filterMap_cons, ih]; rfl
end L3

set_option linter.all false
set_option maxHeartbeats 1000000
/-! ends of codes: the plain mathematics -/
namespace L3.K9
inductive Row where
  | ret
  | deed (a b : List Int) (n : Nat)
  | call (p n : Nat)
  | choose (l : List Nat)
deriving DecidableEq
def Row.nexts : Row → List Nat
  | .ret => []
  | .deed _ _ n => [n]
  | .call _ n => [n]
  | .choose l => l
abbrev Code := List (List Row)
abbrev Marks := List (List Bool)
def atB (k : List Bool) (n : Nat) : Bool := (k[n]?).getD false
def at2 (m : Marks) (w r : Nat) : Bool := match m[w]? with
  | some k => atB k r
  | none => false
def goesOn (m : Marks) (kept : List Bool) : Row → Bool
  | .ret => true
  | .call p n => at2 m p 0 && atB kept n
  | .deed _ _ n => atB kept n
  | .choose l => l.any fun n => atB kept n
def step : Code → Marks → Marks → Marks
  | rows :: c, k :: ks, m => rows.map (goesOn m k) :: step c ks m
  | _, _, _ => []
def bot (c : Code) : Marks := c.map fun rows => rows.map fun _ => false
def size (c : Code) : Nat := (c.map List.length).sum
def iter (c : Code) : Nat → Marks
  | 0 => bot c
  | n + 1 => step c (iter c n) (iter c n)
def endedM (c : Code) : Marks := iter c (size c)
/-- marks of a code's form -/
def Fits : Code → Marks → Prop
  | [], [] => True
  | rows :: c, k :: ks => k.length = rows.length ∧ Fits c ks
  | _, _ => False
theorem fits_step : ∀ {c : Code} {ks m : Marks}, Fits c ks → Fits c (step c ks m)
  | [], [], _, _ => True.intro
  | rows :: c, k :: ks, m, h => ⟨by simp, fits_step h.2⟩
theorem fits_bot : ∀ c : Code, Fits c (bot c)
  | [] => True.intro
  | rows :: c => ⟨by simp, fits_bot c⟩
theorem fits_iter (c : Code) : ∀ n, Fits c (iter c n)
  | 0 => fits_bot c
  | n + 1 => fits_step (fits_iter c n)
theorem Fits.length : ∀ {c : Code} {m : Marks}, Fits c m → m.length = c.length
  | [], [], _ => rfl
  | _ :: _, _ :: _, h => by simp [Fits.length h.2]
theorem Fits.get : ∀ {c : Code} {m : Marks} {w : Nat} {rows : List Row}, Fits c m → c[w]? = some rows → ∃ k, m[w]? = some k ∧ k.length = rows.length
  | rows :: c, k :: ks, 0, _, h, e => by simp at e; subst e; exact ⟨k, rfl, h.1⟩
  | rows :: c, k :: ks, w + 1, _, h, e => by
    obtain ⟨k', h1, h2⟩ := Fits.get (w := w) h.2 (by simpa using e)
    exact ⟨k', by simpa using h1, h2⟩
  | [], _, w, _, _, e => by simp at e
  | _ :: _, [], _, _, h, _ => h.elim
theorem step_get : ∀ {c : Code} {ks m : Marks} {w : Nat} {rows : List Row} {k : List Bool}, c[w]? = some rows → ks[w]? = some k → (step c ks m)[w]? = some (rows.map (goesOn m k))
  | rows :: c, k :: ks, m, 0, _, _, e, e2 => by simp at e e2; subst e e2; rfl
  | rows :: c, k :: ks, m, w + 1, _, _, e, e2 => by
    have := step_get (m := m) (w := w) (c := c) (ks := ks) (by simpa using e) (by simpa using e2)
    simpa [step] using this
  | [], _, _, w, _, _, e, _ => by simp at e
  | _ :: _, [], _, _, _, _, _, e => by simp at e
def rowAt (c : Code) (w r : Nat) : Option Row := c[w]?.bind fun rows => rows[r]?
theorem at2_step {c : Code} {m : Marks} (h : Fits c m) {w r : Nat} {row : Row} (e : rowAt c w r = some row) : at2 (step c m m) w r = goesOn m (m[w]?.getD []) row := by
  obtain ⟨rows, e1, e2⟩ := Option.bind_eq_some_iff.mp e
  obtain ⟨k, h1, h2⟩ := h.get e1
  unfold at2
  rw [step_get e1 h1, h1]
  show ((rows.map (goesOn m k))[r]?).getD false = _
  rw [List.getElem?_map, e2]
  rfl
theorem at2_none {c : Code} {m : Marks} (h : Fits c m) {w r : Nat} (e : rowAt c w r = none) : at2 m w r = false := by
  unfold at2
  cases e1 : c[w]? with
  | none =>
    have : m[w]? = none := by
      rw [List.getElem?_eq_none_iff] at e1 ⊢
      rw [h.length]; exact e1
    rw [this]
  | some rows =>
    obtain ⟨k, h1, h2⟩ := h.get e1
    rw [h1]
    have e2 : rows[r]? = none := by
      unfold rowAt at e
      rw [e1] at e
      exact e
    have : k[r]? = none := by
      rw [List.getElem?_eq_none_iff] at e2 ⊢
      omega
    show (k[r]?).getD false = false
    rw [this]
    rfl
/-- all of the one are in the other -/
def Le (a b : Marks) : Prop := ∀ w r, at2 a w r = true → at2 b w r = true
theorem Le.kept {a b : Marks} (h : Le a b) {w n : Nat} (e : atB (a[w]?.getD []) n = true) : atB (b[w]?.getD []) n = true := by
  have q := h w n
  unfold at2 at q
  cases e1 : a[w]? with
  | none => rw [e1] at e; cases e
  | some k =>
    rw [e1] at e q
    have q := q e
    cases e2 : b[w]? with
    | none => rw [e2] at q; cases q
    | some k' => rw [e2] at q; exact q
theorem goesOn_le {a b : Marks} (h : Le a b) {w : Nat} {row : Row} (e : goesOn a (a[w]?.getD []) row = true) : goesOn b (b[w]?.getD []) row = true := by
  cases row with
  | ret => rfl
  | deed _ _ n => exact h.kept e
  | call p n =>
    simp only [goesOn, Bool.and_eq_true] at e ⊢
    exact ⟨h p 0 e.1, h.kept e.2⟩
  | choose l =>
    simp only [goesOn, List.any_eq_true] at e ⊢
    obtain ⟨n, h1, h2⟩ := e
    exact ⟨n, h1, h.kept h2⟩
theorem step_le {c : Code} {a b : Marks} (ha : Fits c a) (hb : Fits c b) (h : Le a b) : Le (step c a a) (step c b b) := fun w r e => by
  cases q : rowAt c w r with
  | none => rw [at2_none (fits_step ha) q] at e; cases e
  | some row =>
    rw [at2_step ha q] at e
    rw [at2_step hb q]
    exact goesOn_le h e
theorem at2_bot (c : Code) (w r : Nat) : at2 (bot c) w r = false := by
  unfold at2 bot
  rw [List.getElem?_map]
  cases c[w]? with
  | none => rfl
  | some rows =>
    show atB (rows.map fun _ => false) r = false
    unfold atB
    rw [List.getElem?_map]
    cases rows[r]? <;> rfl
theorem iter_le (c : Code) : ∀ n, Le (iter c n) (iter c (n + 1))
  | 0 => fun w r e => by rw [show iter c 0 = bot c from rfl, at2_bot] at e; cases e
  | n + 1 => step_le (fits_iter c n) (fits_iter c (n + 1)) (iter_le c n)
/-! counting -/
def cnt (k : List Bool) : Nat := (k.filter id).length
def count (m : Marks) : Nat := (m.map cnt).sum
def LeB (a b : List Bool) : Prop := ∀ n, atB a n = true → atB b n = true
theorem cnt_le : ∀ {a b : List Bool}, a.length = b.length → LeB a b → cnt a ≤ cnt b ∧ (cnt a = cnt b → a = b)
  | [], [], _, _ => ⟨Nat.le_refl _, fun _ => rfl⟩
  | x :: a, y :: b, hl, h => by
    obtain ⟨h1, h2⟩ := cnt_le (a := a) (b := b) (by simpa using hl) fun n e => by
      have := h (n + 1)
      simpa [atB] using this (by simpa [atB] using e)
    have h0 := h 0
    simp only [atB, List.getElem?_cons_zero, Option.getD_some] at h0
    cases x <;> cases y
    · simp only [cnt, List.filter_cons, id, Bool.false_eq_true, if_false] at h1 h2 ⊢
      exact ⟨h1, fun e => by rw [h2 e]⟩
    · simp only [cnt, List.filter_cons, id, Bool.false_eq_true, if_false, if_true, List.length_cons] at h1 h2 ⊢
      exact ⟨by omega, fun e => by omega⟩
    · cases h0 rfl
    · simp only [cnt, List.filter_cons, id, if_true, List.length_cons] at h1 h2 ⊢
      exact ⟨by omega, fun e => by rw [h2 (by omega)]⟩
  | [], _ :: _, h, _ | _ :: _, [], h, _ => by simp at h
theorem count_le : ∀ {c : Code} {a b : Marks}, Fits c a → Fits c b → Le a b → count a ≤ count b ∧ (count a = count b → a = b)
  | [], [], [], _, _, _ => ⟨Nat.le_refl _, fun _ => rfl⟩
  | rows :: c, x :: a, y :: b, ha, hb, h => by
    obtain ⟨h1, h2⟩ := count_le (a := a) (b := b) ha.2 hb.2 fun w r e => by
      have := h (w + 1) r
      simp only [at2, List.getElem?_cons_succ] at this e ⊢
      exact this e
    obtain ⟨h3, h4⟩ := cnt_le (a := x) (b := y) (by rw [ha.1, hb.1]) fun n e => by
      have := h 0 n
      simp only [at2, List.getElem?_cons_zero] at this
      exact this e
    simp only [count, List.map_cons, List.sum_cons] at h1 h2 ⊢
    exact ⟨by omega, fun e => by rw [h2 (by omega), h4 (by omega)]⟩
  | [], [], _ :: _, _, h, _ | [], _ :: _, _, h, _, _ | _ :: _, [], _, h, _, _ | _ :: _, _ :: _, [], _, h, _ => h.elim
theorem cnt_len (k : List Bool) : cnt k ≤ k.length := List.length_filter_le _ _
theorem count_size : ∀ {c : Code} {m : Marks}, Fits c m → count m ≤ size c
  | [], [], _ => Nat.le_refl _
  | rows :: c, k :: ks, h => by
    have h1 := count_size h.2
    have h2 := cnt_len k
    have h3 := h.1
    simp only [count, size, List.map_cons, List.sum_cons] at h1 ⊢
    omega
  | [], _ :: _, h | _ :: _, [], h => h.elim
/-- as long as something changes, so many are marked -/
theorem iter_count (c : Code) : ∀ n, (∀ k, k < n → iter c (k + 1) ≠ iter c k) → n ≤ count (iter c n)
  | 0, _ => Nat.zero_le _
  | n + 1, h => by
    have ih := iter_count c n fun k hk => h k (by omega)
    obtain ⟨h1, h2⟩ := count_le (fits_iter c n) (fits_iter c (n + 1)) (iter_le c n)
    have : count (iter c n) ≠ count (iter c (n + 1)) := fun e => h n (by omega) (h2 e).symm
    omega
theorem iter_stay {c : Code} {n : Nat} (e : iter c (n + 1) = iter c n) : ∀ m, n ≤ m → iter c m = iter c n
  | 0, h => by rw [show n = 0 by omega]
  | m + 1, h => by
    by_cases z : n = m + 1
    · rw [z]
    · have ih := iter_stay e m (by omega)
      show step c (iter c m) (iter c m) = _
      rw [ih]
      exact e
/-- what the program stops with -/
theorem endedM_eq {c : Code} {n : Nat} (h : ∀ k, k < n → iter c (k + 1) ≠ iter c k) (e : iter c (n + 1) = iter c n) : iter c n = endedM c := by
  have h1 := iter_count c n h
  have h2 := count_size (fits_iter c n)
  exact (iter_stay e (size c) (by omega)).symm
theorem steps_le {c : Code} {n : Nat} (h : ∀ k, k < n → iter c (k + 1) ≠ iter c k) : n ≤ size c := Nat.le_trans (iter_count c n h) (count_size (fits_iter c n))
theorem endedM_fix (c : Code) : step c (endedM c) (endedM c) = endedM c := by
  have ex : ∃ n, iter c (n + 1) = iter c n := by
    apply Classical.byContradiction
    intro z
    have := steps_le (c := c) (n := size c + 1) fun k _ e => z ⟨k, e⟩
    omega
  have ⟨n, e, hn⟩ : ∃ n, iter c (n + 1) = iter c n ∧ ∀ k, k < n → iter c (k + 1) ≠ iter c k := by
    obtain ⟨n, e⟩ := ex
    induction n using Nat.strongRecOn with
    | _ n ih =>
      by_cases z : ∃ k, k < n ∧ iter c (k + 1) = iter c k
      · obtain ⟨k, hk, e⟩ := z
        exact ih k hk e
      · exact ⟨n, e, fun k hk e => z ⟨k, hk, e⟩⟩
  rw [← endedM_eq hn e]
  exact e
theorem fits_ended (c : Code) : Fits c (endedM c) := fits_iter c _
def E (c : Code) (w r : Nat) : Bool := at2 (endedM c) w r
/-- whether a row leads on, by a set of rows -/
def leads (f : Nat → Nat → Bool) (w : Nat) : Row → Bool
  | .ret => true
  | .call p n => f p 0 && f w n
  | .deed _ _ n => f w n
  | .choose l => l.any fun n => f w n
theorem goesOn_leads (m : Marks) (w : Nat) (row : Row) : goesOn m (m[w]?.getD []) row = leads (at2 m) w row := by
  have k : ∀ n, atB (m[w]?.getD []) n = at2 m w n := fun n => by
    unfold at2
    cases m[w]? <;> rfl
  cases row with
  | ret => rfl
  | deed _ _ n => exact k n
  | call p n => simp only [goesOn, leads, k]
  | choose l => simp only [goesOn, leads, k]
theorem E_eq {c : Code} {w r : Nat} {row : Row} (e : rowAt c w r = some row) : E c w r = leads (E c) w row := by
  have h := at2_step (fits_ended c) e
  rw [endedM_fix, goesOn_leads] at h
  exact h
theorem E_none {c : Code} {w r : Nat} (e : rowAt c w r = none) : E c w r = false := at2_none (fits_ended c) e
theorem leads_mono {f g : Nat → Nat → Bool} (h : ∀ w r, f w r = true → g w r = true) {w : Nat} {row : Row} (e : leads f w row = true) : leads g w row = true := by
  cases row with
  | ret => rfl
  | deed _ _ n => exact h w n e
  | call p n =>
    simp only [leads, Bool.and_eq_true] at e ⊢
    exact ⟨h p 0 e.1, h w n e.2⟩
  | choose l =>
    simp only [leads, List.any_eq_true] at e ⊢
    obtain ⟨n, h1, h2⟩ := e
    exact ⟨n, h1, h w n h2⟩
/-- a set that is closed holds all ended rows -/
theorem E_least {c : Code} {f : Nat → Nat → Bool} (cl : ∀ w r row, rowAt c w r = some row → leads f w row = true → f w r = true) : ∀ w r, E c w r = true → f w r = true := by
  have all : ∀ n w r, at2 (iter c n) w r = true → f w r = true := by
    intro n
    induction n with
    | zero =>
      intro w r e
      rw [show iter c 0 = bot c from rfl, at2_bot] at e
      cases e
    | succ n ih =>
      intro w r e
      cases q : rowAt c w r with
      | none => rw [at2_none (fits_iter c (n + 1)) q] at e; cases e
      | some row =>
        rw [show iter c (n + 1) = step c (iter c n) (iter c n) from rfl, at2_step (fits_iter c n) q, goesOn_leads] at e
        exact cl w r row q (leads_mono ih e)
  exact all _
/-! ### rows that are met -/
def ways (f : Nat → Nat → Bool) : Row → List Nat
  | .call p n => if f p 0 then [n] else []
  | row => row.nexts
def addAll (found : List Nat) : List Nat → List Nat
  | [] => found
  | n :: r => addAll (if n ∈ found then found else found ++ [n]) r
def metGo (rows : List Row) (f : Nat → Nat → Bool) : Nat → Nat → List Nat → List Nat
  | 0, _, found => found
  | fuel + 1, place, found => match found[place]? with
    | none => found
    | some r => match rows[r]? with
      | none => found
      | some row => metGo rows f fuel (place + 1) (addAll found (ways f row))
def rowsOf (c : Code) (w : Nat) : List Row := (c[w]?).getD []
def metL (c : Code) (f : Nat → Nat → Bool) (w : Nat) : List Nat := metGo (rowsOf c w) f ((rowsOf c w).length + 1) 0 [0]
theorem nodup_le : ∀ (n : Nat) {l : List Nat}, l.Nodup → (∀ x ∈ l, x < n) → l.length ≤ n
  | 0, [], _, _ => Nat.le_refl _
  | 0, x :: _, _, h => absurd (h x List.mem_cons_self) (Nat.not_lt_zero _)
  | n + 1, l, hn, h => by
    by_cases m : n ∈ l
    · have h1 := nodup_le n (l := l.erase n) (hn.erase n) fun x hx => by
        have := (hn.mem_erase_iff).mp hx
        have := h x this.2
        omega
      rw [List.length_erase_of_mem m] at h1
      omega
    · have h1 := nodup_le n hn fun x hx => by
        have := h x hx
        have : x ≠ n := fun e => m (e ▸ hx)
        omega
      omega
/-- found so far: no number twice, all of them rows -/
def Ok (n : Nat) (l : List Nat) : Prop := l.Nodup ∧ ∀ x ∈ l, x < n
theorem ok_add {n x : Nat} {l : List Nat} (h : Ok n l) (hx : x < n) : Ok n (if x ∈ l then l else l ++ [x]) := by
  by_cases m : x ∈ l
  · rw [if_pos m]; exact h
  · rw [if_neg m]
    refine ⟨List.nodup_append.mpr ⟨h.1, by simp, fun a ha b hb e => ?_⟩, fun y hy => ?_⟩
    · rw [List.mem_singleton] at hb
      subst e hb
      exact m ha
    · rcases List.mem_append.mp hy with hy | hy
      · exact h.2 y hy
      · rw [List.mem_singleton.mp hy]; exact hx
theorem ok_addAll {n : Nat} : ∀ {ns l : List Nat}, Ok n l → (∀ x ∈ ns, x < n) → Ok n (addAll l ns)
  | [], l, h, _ => h
  | x :: ns, l, h, hx => ok_addAll (ns := ns) (ok_add h (hx x List.mem_cons_self)) fun y hy => hx y (List.mem_cons_of_mem _ hy)
theorem addAll_len : ∀ (ns l : List Nat), l.length ≤ (addAll l ns).length
  | [], l => Nat.le_refl _
  | x :: ns, l => by
    refine Nat.le_trans ?_ (addAll_len ns _)
    split
    · exact Nat.le_refl _
    · simp
theorem Ok.len {n : Nat} {l : List Nat} (h : Ok n l) : l.length ≤ n := nodup_le n h.1 h.2
def RowOk (nw nr : Nat) : Row → Prop
  | .ret => True
  | .deed a b n => a.length ≤ 100 ∧ b.length ≤ 100 ∧ n < nr
  | .call p n => p < nw ∧ n < nr
  | .choose l => l.length ≤ 100 ∧ ∀ n ∈ l, n < nr
def WF (c : Code) : Prop := c.length ≤ 100 ∧ ∀ rows ∈ c, 0 < rows.length ∧ rows.length ≤ 100 ∧ ∀ r ∈ rows, RowOk c.length rows.length r
theorem RowOk.ways {nw nr : Nat} {row : Row} (h : RowOk nw nr row) (f : Nat → Nat → Bool) : ∀ x ∈ ways f row, x < nr := fun x hx => by
  cases row with
  | ret => cases hx
  | deed a b n => cases List.mem_singleton.mp hx; exact h.2.2
  | call p n =>
    simp only [K9.ways] at hx
    split at hx
    · cases List.mem_singleton.mp hx; exact h.2
    · cases hx
  | choose l => exact h.2 x hx
/-- the loop's state: what is left to do gives the end -/
structure Met (rows : List Row) (f : Nat → Nat → Bool) (place : Nat) (found : List Nat) (fin : List Nat) : Prop where
  ok : Ok rows.length found
  le : place ≤ found.length
  eq : metGo rows f (rows.length + 1 - place) place found = fin
theorem Met.done {rows : List Row} {f : Nat → Nat → Bool} {place : Nat} {found fin : List Nat} (h : Met rows f place found fin) (e : place = found.length) : found = fin := by
  have h1 := h.ok.len
  have h2 := h.eq
  obtain ⟨k, hk⟩ : ∃ k, rows.length + 1 - place = k + 1 := ⟨rows.length - place, by omega⟩
  rw [hk] at h2
  unfold metGo at h2
  rw [List.getElem?_eq_none (by omega)] at h2
  exact h2
theorem Met.next {nw : Nat} {rows : List Row} {f : Nat → Nat → Bool} {place r : Nat} {found fin : List Nat} {row : Row} (h : Met rows f place found fin) (e : found[place]? = some r) (er : rows[r]? = some row) (hr : RowOk nw rows.length row) : Met rows f (place + 1) (addAll found (ways f row)) fin := by
  have h1 := h.ok.len
  have h2 := h.eq
  have h3 := (List.getElem?_eq_some_iff.mp e).1
  obtain ⟨k, hk⟩ : ∃ k, rows.length + 1 - place = k + 1 := ⟨rows.length - place, by omega⟩
  rw [hk] at h2
  unfold metGo at h2
  rw [e] at h2
  simp only [er] at h2
  refine ⟨ok_addAll h.ok (hr.ways f), Nat.le_trans h3 (addAll_len _ _), ?_⟩
  rw [show rows.length + 1 - (place + 1) = k by omega]
  exact h2
theorem Met.start {rows : List Row} {f : Nat → Nat → Bool} (h : 0 < rows.length) : Met rows f 0 [0] (metGo rows f (rows.length + 1) 0 [0]) :=
  ⟨⟨by simp, fun x hx => by rw [List.mem_singleton.mp hx]; exact h⟩, Nat.zero_le _, rfl⟩
theorem ok_metGo {nw : Nat} {rows : List Row} {f : Nat → Nat → Bool} (hr : ∀ r ∈ rows, RowOk nw rows.length r) : ∀ (fuel place : Nat) {found : List Nat}, Ok rows.length found → Ok rows.length (metGo rows f fuel place found)
  | 0, _, _, h => h
  | fuel + 1, place, found, h => by
    unfold metGo
    split
    · exact h
    · split
      · exact h
      · rename_i e
        exact ok_metGo hr fuel (place + 1) (ok_addAll h ((hr _ (List.mem_of_getElem? e)).ways f))
theorem ok_metL {c : Code} (wf : WF c) (f : Nat → Nat → Bool) {w : Nat} (hw : w < c.length) : Ok (rowsOf c w).length (metL c f w) := by
  have m : rowsOf c w ∈ c := by
    unfold rowsOf
    rw [List.getElem?_eq_getElem hw]
    exact List.getElem_mem hw
  obtain ⟨h0, h1, h2⟩ := wf.2 _ m
  exact ok_metGo h2 _ _ ⟨by simp, fun x hx => by rw [List.mem_singleton.mp hx]; exact h0⟩
/-! ### words that are needed -/
def needAdd (rows : List Row) (f : Nat → Nat → Bool) (w : Nat) (found : List Nat) : List Nat → List Nat
  | [] => found
  | s :: r => needAdd rows f w (match rows[s]? with
    | some (.call p _) => if f w s = true ∧ p ∉ found then found ++ [p] else found
    | _ => found) r
def needGo (c : Code) (f : Nat → Nat → Bool) (M : Nat → List Nat) : Nat → Nat → List Nat → List Nat
  | 0, _, found => found
  | fuel + 1, place, found => match found[place]? with
    | none => found
    | some w => needGo c f M fuel (place + 1) (needAdd (rowsOf c w) f w found (M w))
/-- the words that a word needs at once -/
def Calls (c : Code) (f : Nat → Nat → Bool) (M : Nat → List Nat) (w p : Nat) : Prop := ∃ s n, s ∈ M w ∧ (rowsOf c w)[s]? = some (.call p n) ∧ f w s = true
inductive Need (c : Code) (f : Nat → Nat → Bool) (M : Nat → List Nat) (w : Nat) : Nat → Prop
  | here : Need c f M w w
  | on {x p : Nat} : Need c f M w x → Calls c f M x p → Need c f M w p
theorem Need.congr {c : Code} {f : Nat → Nat → Bool} {M M' : Nat → List Nat} (h : ∀ w s, s ∈ M w → s ∈ M' w) {w x : Nat} (n : Need c f M w x) : Need c f M' w x := by
  induction n with
  | here => exact .here
  | on _ q ih => obtain ⟨s, n, h1, h2⟩ := q; exact .on ih ⟨s, n, h _ _ h1, h2⟩
theorem call_lt {c : Code} (wf : WF c) {w s p n : Nat} (e : (rowsOf c w)[s]? = some (.call p n)) : p < c.length := by
  unfold rowsOf at e
  cases e1 : c[w]? with
  | none => rw [e1] at e; simp at e
  | some rows =>
    rw [e1] at e
    exact (((wf.2 rows (List.mem_of_getElem? e1)).2.2 _ (List.mem_of_getElem? e)) : RowOk _ _ (.call p n)).1
structure NeedA (c : Code) (f : Nat → Nat → Bool) (w : Nat) (found : List Nat) (ss : List Nat) (out : List Nat) : Prop where
  ok : Ok c.length out
  mono : ∀ x ∈ found, x ∈ out
  len : found.length ≤ out.length
  pre : ∀ (i x : Nat), found[i]? = some x → out[i]? = some x
  new : ∀ s ∈ ss, ∀ p n, (rowsOf c w)[s]? = some (.call p n) → f w s = true → p ∈ out
  only : ∀ x ∈ out, x ∈ found ∨ ∃ s n, s ∈ ss ∧ (rowsOf c w)[s]? = some (.call x n) ∧ f w s = true
theorem needA {c : Code} (wf : WF c) {f : Nat → Nat → Bool} {w : Nat} : ∀ (ss : List Nat) {found : List Nat}, Ok c.length found → NeedA c f w found ss (needAdd (rowsOf c w) f w found ss)
  | [], found, h => ⟨h, fun _ q => q, Nat.le_refl _, fun _ _ q => q, fun _ q => (by cases q), fun x q => .inl q⟩
  | s :: ss, found, h => by
    show NeedA c f w found (s :: ss) (needAdd (rowsOf c w) f w _ ss)
    by_cases z : ∃ p n, (rowsOf c w)[s]? = some (.call p n) ∧ f w s = true ∧ p ∉ found
    · obtain ⟨p, n, e, e1, e2⟩ := z
      have st : (match (rowsOf c w)[s]? with
        | some (.call p _) => if f w s = true ∧ p ∉ found then found ++ [p] else found
        | _ => found) = found ++ [p] := by
        simp only [e]
        exact if_pos ⟨e1, e2⟩
      rw [st]
      have h' : Ok c.length (found ++ [p]) := by
        have := ok_add h (call_lt wf e)
        rwa [if_neg e2] at this
      have ih := needA wf (f := f) (w := w) ss h'
      refine ⟨ih.ok, fun x q => ih.mono x (List.mem_append_left _ q), Nat.le_trans (by simp) ih.len, fun i x q => ih.pre i x ?_, fun t ht p' n' e' f' => ?_, fun x q => ?_⟩
      · rw [List.getElem?_append_left (List.getElem?_eq_some_iff.mp q).1]; exact q
      · rcases List.mem_cons.mp ht with rfl | ht
        · rw [e] at e'
          cases e'
          exact ih.mono _ (by simp)
        · exact ih.new t ht p' n' e' f'
      · rcases ih.only x q with q | ⟨t, n', h1, h2⟩
        · rcases List.mem_append.mp q with q | q
          · exact .inl q
          · cases List.mem_singleton.mp q
            exact .inr ⟨s, n, List.mem_cons_self, e, e1⟩
        · exact .inr ⟨t, n', List.mem_cons_of_mem _ h1, h2⟩
    · have st : (match (rowsOf c w)[s]? with
        | some (.call p _) => if f w s = true ∧ p ∉ found then found ++ [p] else found
        | _ => found) = found := by
        split
        · rename_i p n e
          exact if_neg fun q => z ⟨p, n, e, q⟩
        · rfl
      rw [st]
      have ih := needA wf (f := f) (w := w) ss h
      refine ⟨ih.ok, ih.mono, ih.len, ih.pre, fun t ht p' n' e' f' => ?_, fun x q => ?_⟩
      · rcases List.mem_cons.mp ht with rfl | ht
        · apply ih.mono
          exact Classical.byContradiction fun q => z ⟨p', n', e', f', q⟩
        · exact ih.new t ht p' n' e' f'
      · rcases ih.only x q with q | ⟨t, n', h1, h2⟩
        · exact .inl q
        · exact .inr ⟨t, n', List.mem_cons_of_mem _ h1, h2⟩
/-- the loop over the needed words -/
structure Ned (c : Code) (f : Nat → Nat → Bool) (M : Nat → List Nat) (w place : Nat) (found : List Nat) : Prop where
  ok : Ok c.length found
  le : place ≤ found.length
  has : w ∈ found
  only : ∀ x ∈ found, Need c f M w x
  cl : ∀ i x, i < place → found[i]? = some x → ∀ p, Calls c f M x p → p ∈ found
theorem Ned.start {c : Code} {f : Nat → Nat → Bool} {M : Nat → List Nat} {w : Nat} (h : w < c.length) : Ned c f M w 0 [w] :=
  ⟨⟨by simp, fun x hx => by rw [List.mem_singleton.mp hx]; exact h⟩, Nat.zero_le _, by simp, fun x hx => by rw [List.mem_singleton.mp hx]; exact .here, fun i x hi => absurd hi (Nat.not_lt_zero _)⟩
theorem Ned.next {c : Code} (wf : WF c) {f : Nat → Nat → Bool} {M : Nat → List Nat} {w place x : Nat} {found : List Nat} (h : Ned c f M w place found) (e : found[place]? = some x) : Ned c f M w (place + 1) (needAdd (rowsOf c x) f x found (M x)) := by
  have a := needA wf (f := f) (w := x) (M x) h.ok
  have hl := (List.getElem?_eq_some_iff.mp e).1
  refine ⟨a.ok, Nat.le_trans hl a.len, a.mono _ h.has, fun y hy => ?_, fun i y hi ey p hp => ?_⟩
  · rcases a.only y hy with q | ⟨s, n, q1, q2⟩
    · exact h.only y q
    · exact .on (h.only x (List.mem_of_getElem? e)) ⟨s, n, q1, q2⟩
  · by_cases z : i = place
    · subst z
      rw [a.pre i x e] at ey
      cases ey
      obtain ⟨s, n, q1, q2, q3⟩ := hp
      exact a.new s q1 p n q2 q3
    · have hi' : i < place := by omega
      have ey' : found[i]? = some y := by
        have hl2 : i < found.length := by have := h.le; omega
        have := a.pre i found[i] (List.getElem?_eq_getElem hl2)
        rw [this] at ey
        rw [List.getElem?_eq_getElem hl2, ← ey]
      exact a.mono p (h.cl i y hi' ey' p hp)
theorem Ned.done {c : Code} {f : Nat → Nat → Bool} {M : Nat → List Nat} {w place : Nat} {found : List Nat} (h : Ned c f M w place found) (e : place = found.length) : ∀ x, x ∈ found ↔ Need c f M w x := fun x => ⟨h.only x, fun n => by
  induction n with
  | here => exact h.has
  | on _ q ih =>
    obtain ⟨i, hi⟩ := List.getElem?_of_mem ih
    exact h.cl i _ (by rw [e]; exact (List.getElem?_eq_some_iff.mp hi).1) hi _ q⟩
theorem ned_go {c : Code} (wf : WF c) {f : Nat → Nat → Bool} {M : Nat → List Nat} {w : Nat} : ∀ (fuel place : Nat) {found : List Nat}, Ned c f M w place found → c.length + 1 ≤ fuel + place → Ned c f M w (needGo c f M fuel place found).length (needGo c f M fuel place found)
  | 0, place, found, h, hf => by
    have := h.ok.len
    have := h.le
    omega
  | fuel + 1, place, found, h, hf => by
    unfold needGo
    cases e : found[place]? with
    | none =>
      have hp : place = found.length := by
        have := List.getElem?_eq_none_iff.mp e
        have := h.le
        omega
      subst hp
      exact h
    | some x => exact ned_go wf fuel (place + 1) (h.next wf e) (by omega)
def needL (c : Code) (f : Nat → Nat → Bool) (w : Nat) : List Nat := needGo c f (metL c f) (c.length + 1) 0 [w]
/-! ### sorted -/
def ins (x : Nat) : List Nat → List Nat
  | [] => [x]
  | y :: r => if x ≤ y then x :: y :: r else y :: ins x r
def isort : List Nat → List Nat
  | [] => []
  | x :: r => ins x (isort r)
theorem ins_perm (x : Nat) : ∀ l, (ins x l).Perm (x :: l)
  | [] => .refl _
  | y :: r => by
    unfold ins
    split
    · exact .refl _
    · exact ((ins_perm x r).cons y).trans (.swap x y r)
theorem isort_perm : ∀ l, (isort l).Perm l
  | [] => .refl _
  | x :: r => (ins_perm x _).trans ((isort_perm r).cons x)
theorem ins_sorted (x : Nat) : ∀ {l : List Nat}, l.Pairwise (· ≤ ·) → (ins x l).Pairwise (· ≤ ·)
  | [], _ => by simp [ins]
  | y :: r, h => by
    obtain ⟨h1, h2⟩ := List.pairwise_cons.mp h
    unfold ins
    split
    · rename_i hle
      refine List.pairwise_cons.mpr ⟨fun a ha => ?_, h⟩
      rcases List.mem_cons.mp ha with rfl | ha
      · exact hle
      · exact Nat.le_trans hle (h1 a ha)
    · rename_i hle
      refine List.pairwise_cons.mpr ⟨fun a ha => ?_, ins_sorted x h2⟩
      rcases List.mem_cons.mp ((ins_perm x r).mem_iff.mp ha) with rfl | ha
      · omega
      · exact h1 a ha
theorem isort_sorted : ∀ l, (isort l).Pairwise (· ≤ ·)
  | [] => .nil
  | x :: r => ins_sorted x (isort_sorted r)
theorem sorted_one {α : Type} {R : α → α → Prop} (anti : ∀ a b, R a b → R b a → a = b) : ∀ {l m : List α}, l.Perm m → l.Pairwise R → m.Pairwise R → l = m
  | [], m, p, _, _ => (List.Perm.eq_nil p.symm).symm
  | x :: l, [], p, _, _ => absurd (List.Perm.eq_nil p) (by simp)
  | x :: l, y :: m, p, h1, h2 => by
    obtain ⟨a1, a2⟩ := List.pairwise_cons.mp h1
    obtain ⟨b1, b2⟩ := List.pairwise_cons.mp h2
    have e : x = y := by
      have mx : x ∈ y :: m := p.mem_iff.mp List.mem_cons_self
      have my : y ∈ x :: l := p.mem_iff.mpr List.mem_cons_self
      rcases List.mem_cons.mp mx with e | mx
      · exact e
      · rcases List.mem_cons.mp my with e | my
        · exact e.symm
        · exact anti _ _ (a1 y my) (b1 x mx)
    subst e
    rw [sorted_one anti ((List.perm_cons x).mp p) a2 b2]
theorem sorted_ints {l : List Nat} {ns : List Int} (p : ns.Perm (l.map fun n : Nat => (n : Int))) (s : ns.Pairwise (· ≤ ·)) : ns = (isort l).map fun n : Nat => (n : Int) := by
  refine sorted_one (fun a b h h' => Int.le_antisymm h h') (p.trans ((isort_perm l).symm.map _)) s ?_
  rw [List.pairwise_map]
  exact (isort_sorted l).imp fun h => by omega
theorem perm_of {l m : List Nat} (h1 : l.Nodup) (h2 : m.Nodup) (h : ∀ x, x ∈ l ↔ x ∈ m) : l.Perm m := (List.perm_ext_iff_of_nodup h1 h2).mpr h
theorem isort_eq {l m : List Nat} (p : l.Perm m) : isort l = isort m := sorted_one (fun a b h h' => Nat.le_antisymm h h') (((isort_perm l).trans p).trans (isort_perm m).symm) (isort_sorted l) (isort_sorted m)
end L3.K9

set_option Elab.async false
set_option maxRecDepth 100000
set_option linter.all false
set_option maxHeartbeats 4000000
namespace L3
open PySem L2 L3.K9
local macro_rules | `(tactic| walk_at "cond") => `(tactic| first | omega | (simp only [List.length_append, List.length_cons, List.length_nil, List.length_take, List.length_drop, List.length_map, List.length_reverse]; omega) | rfl | decide)
local macro_rules | `(tactic| walk_at "side") => `(tactic| first | assumption | omega | (simp only [List.length_append, List.length_cons, List.length_nil, List.length_take, List.length_drop, List.length_map, List.length_reverse, sizeLine_val]; omega) | decide)
local macro_rules | `(tactic| walk_at "st") => `(tactic| first
  | with_reducible refine st_ix0 ?_ | with_reducible refine st_ix1 ?_ | with_reducible refine st_ix2 ?_ | with_reducible refine st_ix3 ?_ | with_reducible refine st_ix4 ?_
  | with_reducible refine st_add_pp (by walk_at "side") ?_ | with_reducible refine st_add_p1 (by walk_at "side") ?_ | with_reducible refine st_add_1p (by walk_at "side") ?_
  | with_reducible refine st_add ?_ | with_reducible refine st_sub ?_ | with_reducible refine st_iadd ?_ | with_reducible refine st_neg ?_
  | with_reducible refine st_len_p ?_ | with_reducible refine st_len_lp ?_ | with_reducible refine st_len_rp ?_ | with_reducible refine st_len_t ?_ | with_reducible refine st_len_l ?_
  | with_reducible refine st_add_t (by walk_at "side") ?_ | with_reducible refine st_add_l (by walk_at "side") ?_ | with_reducible refine st_add_s (by walk_at "side") ?_
  | with_reducible refine st_tru_bl ?_ | with_reducible refine st_tru_int ?_ | with_reducible refine st_tru_tup ?_ | with_reducible refine st_tru_lst ?_ | with_reducible refine st_tru_non ?_
  | with_reducible refine st_at (by assumption) ?_ | with_reducible refine st_atl (by assumption) ?_
  | with_reducible refine st_iteT ?_ | with_reducible refine st_iteF ?_ | with_reducible refine st_not ?_
  | with_reducible refine st_lt ?_ | with_reducible refine st_le ?_ | with_reducible refine st_gt ?_ | with_reducible refine st_ge ?_ | with_reducible refine st_eqi ?_ | with_reducible refine st_nei ?_ | with_reducible refine st_eqs ?_ | with_reducible refine st_nes ?_ | with_reducible refine st_eqb ?_
  | with_reducible refine st_isn_non ?_ | with_reducible refine st_isn_int ?_ | with_reducible refine st_isn_tup ?_ | with_reducible refine st_isn_str ?_ | with_reducible refine st_isn_bl ?_
  | with_reducible refine st_isnt_non ?_ | with_reducible refine st_isnt_int ?_ | with_reducible refine st_isnt_tup ?_ | with_reducible refine st_isnt_str ?_
  | with_reducible refine st_int ?_ | with_reducible refine st_intb ?_ | with_reducible refine st_abs ?_ | with_reducible refine st_min2 ?_ | with_reducible refine st_max2 ?_
  | with_reducible refine st_tup_l ?_ | with_reducible refine st_tup_t ?_ | with_reducible refine st_lst_t ?_ | with_reducible refine st_lst_l ?_
  | with_reducible refine st_sl_from ?_ | with_reducible refine st_sl_to ?_
  | with_reducible refine st_lx0 ?_ | with_reducible refine st_lx1 ?_ | with_reducible refine st_lx2 ?_ | with_reducible refine st_lx3 ?_
  | with_reducible refine st_mod (by walk_at "side") ?_ | with_reducible refine st_div (by walk_at "side") ?_ | with_reducible refine st_mul (by walk_at "side") ?_ | with_reducible refine st_mul' (by walk_at "side") ?_
  | with_reducible refine st_isi rfl ?_
  | (with_reducible refine And.intro (Nat.le_of_ble_eq_true rfl) ?_)
  | (refine And.intro (rfl : (_ : Nat) = _) ?_)
  | with_reducible refine st_dT (by walk_at "cond") ?_ | with_reducible refine st_dF (by walk_at "cond") ?_)
local macro_rules | `(tactic| walk_at "hd") => `(tactic| (with_reducible conv => whnf))
local macro_rules | `(tactic| walk_at "run") => `(tactic| ((with_reducible conv => whnf); repeat (walk_at "st"; (with_reducible conv => whnf))))
/-! ### codes as data -/
def rowD : Row → D
  | .ret => .tup [.str "return"]
  | .deed a b n => .tup [.str "deed", .tup (a.map .int), .tup (b.map .int), iD n]
  | .call p n => .tup [.str "call", iD p, iD n]
  | .choose l => .tup [.str "choose", .tup (l.map iD)]
abbrev codeD (c : K9.Code) : D := .tup (c.map fun rows => .tup (rows.map rowD))
abbrev kD (k : List Bool) : D := .lst (k.map .bl)
abbrev marksD (m : Marks) : D := .lst (m.map kD)
theorem st_last3 {a b c : D} {S : Sto} {Q : DK} (h : Q c S) : vIx (.tup [a, b, c]) (.int (-1)) S Q := h
theorem st_last4 {a b c d : D} {S : Sto} {Q : DK} (h : Q d S) : vIx (.tup [a, b, c, d]) (.int (-1)) S Q := h
/-! ### nexts_of -/
def sp_nexts_of (x : D) (S : Sto) (Q : DK) : Prop := ∃ row, x = rowD row ∧ Q (.tup (row.nexts.map iD)) S
-- nexts_of : 0=row
def rd_nexts_of : DTS :=
    (dSeq (dIf (dTest (dOp vEq (dOp vIx (dVar 0) (dC (.int 0))) (dC (.str "choose")))) (dRet (dOp vIx (dVar 0) (dC (.int 1)))) dNext)
    (dRet (dIfE (dTest (dOp vEq (dOp vIx (dVar 0) (dC (.int 0))) (dC (.str "return")))) (dTup dNil) (dTup (dCons (dOp vIx (dVar 0) (dUn vNeg (dC (.int 1)))) dNil)))))
theorem rd_nexts_of_ok : ∀ ds S P, (a1 sp_nexts_of) ds S P → rd_nexts_of (DEnds.of P) (dstart ["row"] ds) S := by
  intro ds S P h
  rcases ds with _ | ⟨x, _ | ⟨y, ds⟩⟩ <;> first | exact (h : False).elim | skip
  obtain ⟨row, rfl, q⟩ := (h : sp_nexts_of x S P)
  unfold rd_nexts_of
  cases row with
  | ret =>
    simp only [rowD]
    walk_at "run"
    exact .of q
  | deed a b n =>
    simp only [rowD]
    walk_at "run"
    refine st_last4 ?_
    walk_at "run"
    exact .of q
  | call p n =>
    simp only [rowD]
    walk_at "run"
    refine st_last3 ?_
    walk_at "run"
    exact .of q
  | choose l =>
    simp only [rowD]
    walk_at "run"
    exact .of q
theorem use_nexts {row : Row} {S : Sto} {Q : DK} (q : Q (.tup (row.nexts.map iD)) S) : sp_nexts_of (rowD row) S Q := ⟨row, rfl, q⟩
/-! ### goes_on -/
structure GoOk (m : Marks) (kept : List Bool) (row : Row) : Prop where
  len : row.nexts.length ≤ 100
  nx : ∀ n ∈ row.nexts, n < kept.length
  call : ∀ p n, row = .call p n → ∃ k b r, m[p]? = some k ∧ k = b :: r
def sp_goes_on (c x e k : D) (S : Sto) (Q : DK) : Prop := ∃ m kept row, x = rowD row ∧ e = marksD m ∧ k = kD kept ∧ GoOk m kept row ∧ Q (.bl (goesOn m kept row)) S
-- goes_on : 0=code 1=row 2=ended 3=kept 4=number
def rd_goes_on : DTS :=
    (dSeq (dIf (dTest (dOp vEq (dOp vIx (dVar 1) (dC (.int 0))) (dC (.str "return")))) (dRet (dC (.bl true))) dNext)
    (dSeq (dIf (dAnd (dTest (dOp vEq (dOp vIx (dVar 1) (dC (.int 0))) (dC (.str "call")))) (dNot (dTru (dOp vIx (dOp vIx (dVar 2) (dOp vIx (dVar 1) (dC (.int 1)))) (dC (.int 0)))))) (dRet (dC (.bl false))) dNext)
    (dRet (dCB vAny (dCons (dLc (iTupD (dCall (a1 sp_nexts_of) (dCons (dVar 1) dNil))) (dTg (.nm 4)) dYes (dOp vIx (dVar 3) (dVar 4)) [4]) dNil)))))
def rd_goes_on_tail (row : Row) : DTS := dRet (dCB vAny (dCons (dLc (iTupD (dCall (a1 sp_nexts_of) (dCons (dVar 1) dNil))) (dTg (.nm 4)) dYes (dOp vIx (dVar 3) (dVar 4)) [4]) dNil))
theorem st_any {bs : List Bool} {S : Sto} {Q : DK} (h : Q (.bl (bs.any id)) S) : vAny [.lst (bs.map .bl)] S Q := by
  rw [vAny_x, seqOf_lst]; simp only [Option.bind_some, asBls_map]; exact h
theorem any_kept {row : Row} {kept : List Bool} {m : Marks} (h : ∀ n ∈ row.nexts, n < kept.length) (hr : row ≠ .ret) (hc : ∀ p n, row = .call p n → at2 m p 0 = true) : ((row.nexts.map fun n => atB kept n).any id) = goesOn m kept row := by
  cases row with
  | ret => exact absurd rfl hr
  | deed a b n => simp [Row.nexts, goesOn]
  | call p n => simp [Row.nexts, goesOn, hc p n rfl]
  | choose l => simp only [Row.nexts, goesOn, List.any_map]; rfl
theorem rd_goes_on_ok : ∀ ds S P, (a4 sp_goes_on) ds S P → rd_goes_on (DEnds.of P) (dstart ["code", "row", "ended", "kept", "number"] ds) S := by
  intro ds S P h
  rcases ds with _ | ⟨c, _ | ⟨x, _ | ⟨e, _ | ⟨k, _ | ⟨y, ds⟩⟩⟩⟩⟩ <;> first | exact (h : False).elim | skip
  obtain ⟨m, kept, row, rfl, rfl, rfl, ok, q⟩ := (h : sp_goes_on c x e k S P)
  unfold rd_goes_on
  have fin : row ≠ .ret → (∀ p n, row = .call p n → at2 m p 0 = true) → rd_goes_on_tail row (DEnds.of P) [some c, some (rowD row), some (marksD m), some (kD kept), none] S := fun h1 h2 => by
    unfold rd_goes_on_tail
    walk_at "run"
    refine use_nexts ?_
    walk_at "run"
    refine lcL_0 trivial (fun j => (row.nexts[j]?).map fun n => .bl (atB kept n)) (by rw [List.length_map, sizeLine_val]; have := ok.len; omega) (fun j d e P N z => ?_) ?_
    · rw [List.getElem?_map] at e
      obtain ⟨n, e1, rfl⟩ := Option.map_eq_some_iff.mp e
      rw [e1] at z
      have hn := ok.nx n (List.mem_of_getElem? e1)
      walk_at "run"
      refine st_atl (d := .bl (atB kept n)) ?_ ?_
      · rw [List.getElem?_map, List.getElem?_eq_getElem hn]
        unfold atB
        rw [List.getElem?_eq_getElem hn]
        rfl
      · walk_at "run"
        exact z
    · rw [List.length_map, fm_list]
      rw [show (row.nexts.map fun n => D.bl (atB kept n)) = (row.nexts.map fun n => atB kept n).map .bl by rw [List.map_map]; rfl]
      have := @st_any (row.nexts.map fun n => atB kept n) S (fun d S => Fin_ P d S) ?_
      · exact this
      · rw [any_kept ok.nx h1 h2]
        exact .of q
  cases row with
  | ret =>
    simp only [rowD]
    walk_at "run"
    exact .of q
  | deed a b n =>
    have f := fin (by simp) (fun _ _ e => by cases e)
    simp only [rowD] at f ⊢
    walk_at "run"
    exact f
  | call p n =>
    obtain ⟨k, b, r, e1, e2⟩ := ok.call p n rfl
    subst e2
    have ev : at2 m p 0 = b := by
      unfold at2
      rw [e1]
      rfl
    have f := fin (by simp)
    simp only [rowD] at f ⊢
    walk_at "run"
    refine st_atl (d := kD (b :: r)) (by rw [List.getElem?_map, e1]; rfl) ?_
    walk_at "run"
    refine st_lx0 (a := .bl b) (xs := r.map .bl) ?_
    walk_at "run"
    cases b with
    | true =>
      walk_at "run"
      exact f fun p' n' e => by cases e; exact ev
    | false =>
      walk_at "run"
      refine .of ?_
      have e : goesOn m kept (.call p n) = false := by simp only [goesOn, ev, Bool.false_and]
      rw [e] at q
      exact q
  | choose l =>
    have f := fin (by simp) (fun _ _ e => by cases e)
    simp only [rowD] at f ⊢
    walk_at "run"
    exact f
theorem use_goes_on {c : D} {m : Marks} {kept : List Bool} {row : Row} {S : Sto} {Q : DK} (ok : GoOk m kept row) (q : Q (.bl (goesOn m kept row)) S) : sp_goes_on c (rowD row) (marksD m) (kD kept) S Q := ⟨m, kept, row, rfl, rfl, rfl, ok, q⟩
end L3

set_option Elab.async false
set_option maxRecDepth 100000
set_option linter.all false
set_option maxHeartbeats 4000000
namespace L3
open PySem L2 L3.K9
local macro_rules | `(tactic| walk_at "cond") => `(tactic| first | omega | (simp only [List.length_append, List.length_cons, List.length_nil, List.length_take, List.length_drop, List.length_map, List.length_reverse]; omega) | rfl | decide)
local macro_rules | `(tactic| walk_at "side") => `(tactic| first | assumption | omega | (simp only [List.length_append, List.length_cons, List.length_nil, List.length_take, List.length_drop, List.length_map, List.length_reverse, sizeLine_val]; omega) | decide)
local macro_rules | `(tactic| walk_at "st") => `(tactic| first
  | with_reducible refine st_ix0 ?_ | with_reducible refine st_ix1 ?_ | with_reducible refine st_ix2 ?_ | with_reducible refine st_ix3 ?_ | with_reducible refine st_ix4 ?_
  | with_reducible refine st_add_pp (by walk_at "side") ?_ | with_reducible refine st_add_p1 (by walk_at "side") ?_ | with_reducible refine st_add_1p (by walk_at "side") ?_
  | with_reducible refine st_add ?_ | with_reducible refine st_sub ?_ | with_reducible refine st_iadd ?_ | with_reducible refine st_neg ?_
  | with_reducible refine st_len_p ?_ | with_reducible refine st_len_lp ?_ | with_reducible refine st_len_rp ?_ | with_reducible refine st_len_t ?_ | with_reducible refine st_len_l ?_
  | with_reducible refine st_add_t (by walk_at "side") ?_ | with_reducible refine st_add_l (by walk_at "side") ?_ | with_reducible refine st_add_s (by walk_at "side") ?_
  | with_reducible refine st_tru_bl ?_ | with_reducible refine st_tru_int ?_ | with_reducible refine st_tru_tup ?_ | with_reducible refine st_tru_lst ?_ | with_reducible refine st_tru_non ?_
  | with_reducible refine st_at (by assumption) ?_ | with_reducible refine st_atl (by assumption) ?_
  | with_reducible refine st_iteT ?_ | with_reducible refine st_iteF ?_ | with_reducible refine st_not ?_
  | with_reducible refine st_lt ?_ | with_reducible refine st_le ?_ | with_reducible refine st_gt ?_ | with_reducible refine st_ge ?_ | with_reducible refine st_eqi ?_ | with_reducible refine st_nei ?_ | with_reducible refine st_eqs ?_ | with_reducible refine st_nes ?_ | with_reducible refine st_eqb ?_
  | with_reducible refine st_isn_non ?_ | with_reducible refine st_isn_int ?_ | with_reducible refine st_isn_tup ?_ | with_reducible refine st_isn_str ?_ | with_reducible refine st_isn_bl ?_
  | with_reducible refine st_isnt_non ?_ | with_reducible refine st_isnt_int ?_ | with_reducible refine st_isnt_tup ?_ | with_reducible refine st_isnt_str ?_
  | with_reducible refine st_int ?_ | with_reducible refine st_intb ?_ | with_reducible refine st_abs ?_ | with_reducible refine st_min2 ?_ | with_reducible refine st_max2 ?_
  | with_reducible refine st_tup_l ?_ | with_reducible refine st_tup_t ?_ | with_reducible refine st_lst_t ?_ | with_reducible refine st_lst_l ?_
  | with_reducible refine st_sl_from ?_ | with_reducible refine st_sl_to ?_
  | with_reducible refine st_lx0 ?_ | with_reducible refine st_lx1 ?_ | with_reducible refine st_lx2 ?_ | with_reducible refine st_lx3 ?_
  | with_reducible refine st_mod (by walk_at "side") ?_ | with_reducible refine st_div (by walk_at "side") ?_ | with_reducible refine st_mul (by walk_at "side") ?_ | with_reducible refine st_mul' (by walk_at "side") ?_
  | with_reducible refine st_isi rfl ?_
  | (with_reducible refine And.intro (Nat.le_of_ble_eq_true rfl) ?_)
  | (refine And.intro (rfl : (_ : Nat) = _) ?_)
  | with_reducible refine st_dT (by walk_at "cond") ?_ | with_reducible refine st_dF (by walk_at "cond") ?_)
local macro_rules | `(tactic| walk_at "hd") => `(tactic| (with_reducible conv => whnf))
local macro_rules | `(tactic| walk_at "run") => `(tactic| ((with_reducible conv => whnf); repeat (walk_at "st"; (with_reducible conv => whnf))))
/-! ### lists of lists of truth values compared -/
theorem toPs_bl (k : List Bool) : toPs (k.map .bl) = k.map .bool := by
  induction k with
  | nil => rfl
  | cons x p ih => simp only [List.map_cons, toPs, toP, ih]
theorem okEs_bl (k : List Bool) : okEs (k.map .bl) = true := by
  induction k with
  | nil => rfl
  | cons x p ih => simp only [List.map_cons, okEs, okE, ih, Bool.and_self]
theorem deps_bl (k : List Bool) : deps (k.map .bl) = 0 := by
  induction k with
  | nil => rfl
  | cons x p ih => simp only [List.map_cons, deps, dep, ih, Nat.max_self]
theorem eqvAll_bl : ∀ (p q : List Bool), PyData.eqvAll (p.map .bool) (q.map .bool) = decide (p = q)
  | [], [] => by simp [PyData.eqvAll]
  | [], _ :: _ => by simp [PyData.eqvAll]
  | _ :: _, [] => by simp [PyData.eqvAll]
  | a :: p, b :: q => by
    simp only [List.map_cons, PyData.eqvAll, PyData.eqv, eqvAll_bl p q, List.cons.injEq, Bool.decide_and]
    rfl
theorem toPs_m (m : Marks) : toPs (m.map kD) = m.map fun k => .list (k.map .bool) := by
  induction m with
  | nil => rfl
  | cons x p ih => simp only [List.map_cons, toPs, toP, ih, toPs_bl]
theorem okEs_m (m : Marks) : okEs (m.map kD) = true := by
  induction m with
  | nil => rfl
  | cons x p ih => simp only [List.map_cons, okEs, okE, okEs_bl, ih, Bool.and_self]
theorem deps_m (m : Marks) : deps (m.map kD) ≤ 1 := by
  induction m with
  | nil => exact Nat.zero_le _
  | cons x p ih => simp only [List.map_cons, deps, dep, deps_bl]; omega
theorem eqvAll_m : ∀ (p q : Marks), PyData.eqvAll (p.map fun k => .list (k.map .bool)) (q.map fun k => .list (k.map .bool)) = decide (p = q)
  | [], [] => by simp [PyData.eqvAll]
  | [], _ :: _ => by simp [PyData.eqvAll]
  | _ :: _, [] => by simp [PyData.eqvAll]
  | a :: p, b :: q => by simp only [List.map_cons, PyData.eqvAll, PyData.eqv, eqvAll_m p q, eqvAll_bl, List.cons.injEq, Bool.decide_and]
theorem st_ne_marks {a b : Marks} {S : Sto} {Q : DK} (h : Q (.bl (!decide (a = b))) S) : vNe (marksD a) (marksD b) S Q := by
  have e : eqv (marksD a) (marksD b) = decide (a = b) := by
    simp only [eqv, toP, toPs_m, PyData.eqv, eqvAll_m]
  have d : ∀ m : Marks, dep (marksD m) ≤ 64 := fun m => by
    have := deps_m m
    simp only [dep]
    omega
  refine ⟨okEs_m a, okEs_m b, d a, d b, ?_⟩
  rw [e]
  exact h
theorem goOk {c : K9.Code} (wf : WF c) {m : Marks} (h : Fits c m) {w : Nat} {rows : List Row} {k : List Bool} {r : Row} (e : c[w]? = some rows) (e2 : m[w]? = some k) (hr : r ∈ rows) : GoOk m k r := by
  obtain ⟨h0, h1, h2⟩ := wf.2 rows (List.mem_of_getElem? e)
  have ro := h2 r hr
  obtain ⟨k', e3, hl⟩ := h.get e
  rw [e2] at e3
  cases e3
  cases r with
  | ret => exact ⟨Nat.zero_le _, fun n hn => (by cases hn), fun p n e => (by cases e)⟩
  | deed a b n => exact ⟨by show 1 ≤ 100; omega, fun x hx => by cases List.mem_singleton.mp hx; rw [hl]; exact ro.2.2, fun p n e => (by cases e)⟩
  | choose l => exact ⟨ro.1, fun x hx => by rw [hl]; exact ro.2 x hx, fun p n e => (by cases e)⟩
  | call p n =>
    refine ⟨by show 1 ≤ 100; omega, fun x hx => by cases List.mem_singleton.mp hx; rw [hl]; exact ro.2, fun p' n' e => ?_⟩
    cases e
    have hp := ro.1
    obtain ⟨k', e4, hl2⟩ := h.get (List.getElem?_eq_getElem hp)
    have pos : 0 < k'.length := by
      rw [hl2]
      exact (wf.2 _ (List.getElem_mem hp)).1
    cases k' with
    | nil => simp at pos
    | cons b r => exact ⟨_, b, r, e4, rfl⟩
theorem enumD_at {ds : List D} : ∀ {j k : Nat} {d : D}, (enumD k ds)[j]? = some d → ∃ x, ds[j]? = some x ∧ d = .tup [iD (k + j), x] := by
  induction ds with
  | nil => intro j k d e; simp [enumD] at e
  | cons x r ih =>
    intro j k d e
    cases j with
    | zero => simp [enumD] at e; subst e; exact ⟨x, rfl, rfl⟩
    | succ j =>
      obtain ⟨y, h1, h2⟩ := ih (by simpa [enumD] using e)
      exact ⟨y, by simpa using h1, by rw [h2, show k + 1 + j = k + (j + 1) by omega]⟩
def sp_ended_marks (x : D) (S : Sto) (Q : DK) : Prop := ∃ c, x = codeD c ∧ WF c ∧ Q (marksD (endedM c)) S
-- ended_marks : 0=code 1=marks 2=rows 3=row 4=changed 5=later 6=at
def rd_ended_marks : DTS :=
    (dSeq (dAsg (dLc (iTupD (dVar 0)) (dTg (.nm 2)) dYes (dLc (iTupD (dVar 2)) (dTg (.nm 3)) dYes (dC (.bl false)) [3]) [2]) (dTg (.nm 1)))
    (dSeq (dAsg (dC (.bl true)) (dTg (.nm 4)))
    (dSeq (dWhile (dTru (dVar 4)) (dSeq (dAsg (dLstM dNil) (dTg (.nm 5)))
    (dSeq (dFor (iEnumD (dVar 0)) (dTg (.tp [6, 2])) (dDrop (dLM vAppend (dVar 5) (dCons (dLc (iTupD (dVar 2)) (dTg (.nm 3)) dYes (dCall (a4 sp_goes_on) (dCons (dVar 0) (dCons (dVar 3) (dCons (dVar 1) (dCons (dOp vIx (dVar 1) (dVar 6)) dNil))))) [3]) dNil))))
    (dFrz 5 (dSeq (dAsg (dOp vNe (dVar 5) (dVar 1)) (dTg (.nm 4)))
    (dAsg (dVar 5) (dTg (.nm 1))))))))
    (dRet (dVar 1)))))
theorem take_at {α : Type} {es : List α} {j : Nat} {e : α} (h : es[j]? = some e) : es.take (j + 1) = es.take j ++ [e] := by
  rw [List.take_add_one, h]
  rfl
theorem rd_ended_marks_ok : ∀ ds S P, (a1 sp_ended_marks) ds S P → rd_ended_marks (DEnds.of P) (dstart ["code", "marks", "rows", "row", "changed", "later", "at"] ds) S := by
  intro ds S P h
  rcases ds with _ | ⟨x, _ | ⟨y, ds⟩⟩ <;> first | exact (h : False).elim | skip
  obtain ⟨c, rfl, wf, q⟩ := (h : sp_ended_marks x S P)
  unfold rd_ended_marks
  walk_at "run"
  have lc : c.length ≤ 100 := wf.1
  have lr : ∀ rows ∈ c, rows.length ≤ 100 := fun rows h => (wf.2 rows h).2.1
  refine lcL_0 trivial (fun j => (c[j]?).map fun rows => kD (rows.map fun _ => false)) (by rw [List.length_map, sizeLine_val]; omega) (fun j d e P' N z => ?_) ?_
  · rw [List.getElem?_map] at e
    obtain ⟨rows, e1, rfl⟩ := Option.map_eq_some_iff.mp e
    rw [e1] at z
    walk_at "run"
    refine lcL_0 trivial (fun j => (rows[j]?).map fun _ => .bl false) (by rw [List.length_map, sizeLine_val]; have := lr rows (List.mem_of_getElem? e1); omega) (fun j d e P'' N' z' => ?_) ?_
    · rw [List.getElem?_map] at e
      obtain ⟨row, e2, rfl⟩ := Option.map_eq_some_iff.mp e
      rw [e2] at z'
      walk_at "run"
      exact z'
    · rw [List.length_map, fm_list]
      walk_at "run"
      rw [show (rows.map fun _ => D.bl false) = (rows.map fun _ => false).map .bl by rw [List.map_map]; rfl]
      exact z
  rw [List.length_map, fm_list, show (c.map fun rows => kD (rows.map fun _ => false)) = (bot c).map kD by unfold bot; rw [List.map_map]; rfl]
  walk_at "run"
  refine ⟨size c + 2, whileN_inv (fun n δ S' => S = S' ∧ ∃ (m : Marks) (b : Bool) (x2 x3 x5 x6 : Option D), δ = [some (codeD c), some (marksD m), x2, x3, some (.bl b), x5, x6] ∧
    ((b = true ∧ ∃ k, n + k = size c + 1 ∧ m = iter c k ∧ ∀ j, j < k → iter c (j + 1) ≠ iter c j) ∨ (b = false ∧ m = endedM c))) ?_ _ _ _ ⟨rfl, bot c, true, none, none, none, none, rfl, .inl ⟨rfl, 0, by omega, rfl, fun j hj => absurd hj (Nat.not_lt_zero _)⟩⟩⟩
  rintro n _ _ ⟨rfl, m, b, x2, x3, x5, x6, rfl, hb⟩ D2 hrt _ hnx _
  walk_at "run"
  rcases hb with ⟨rfl, k, hn, rfl, hk⟩ | ⟨rfl, rfl⟩
  · have hk2 := steps_le hk
    have fm := fits_iter c k
    generalize hm : iter c k = m at fm
    walk_at "run"
    intro p hp
    walk_at "run"
    have hsl : (step c m m).length = c.length := (fits_step fm).length
    refine forL_inv (fun i δ S' => S' = sup S p (.lst (((step c m m).take i).map kD)) ∧ ∃ (y2 y3 y6 : Option D), δ = [some (codeD c), some (marksD m), y2, y3, some (.bl true), some (.ref p), y6]) (fun _ _ _ _ => True.intro) _ 0 _ _ ⟨rfl, x2, x3, x6, rfl⟩ ?_ ?_
    · rintro j d _ _ hj ⟨rfl, y2, y3, y6, rfl⟩ D3 hrt3 _ hnx3 _
      obtain ⟨x, e0, rfl⟩ := enumD_at hj
      rw [List.getElem?_map] at e0
      obtain ⟨rows, e1, rfl⟩ := Option.map_eq_some_iff.mp e0
      rw [Nat.zero_add] at hnx3 ⊢
      walk_at "run"
      rw [isSeq_ref]
      refine ⟨⟨_, sup_same⟩, ?_⟩
      walk_at "run"
      obtain ⟨kept, e2, hl⟩ := fm.get e1
      have e3 : (m.map kD)[j]? = some (kD kept) := by rw [List.getElem?_map, e2]; rfl
      refine lcL_0 trivial (fun j => (rows[j]?).map fun r => .bl (goesOn m kept r)) (by rw [List.length_map, sizeLine_val]; have := lr rows (List.mem_of_getElem? e1); omega) (fun i d e P'' N' z' => ?_) ?_
      · rw [List.getElem?_map] at e
        obtain ⟨row, e4, rfl⟩ := Option.map_eq_some_iff.mp e
        rw [e4] at z'
        walk_at "run"
        refine use_goes_on (goOk wf fm e1 e2 (List.mem_of_getElem? e4)) ?_
        walk_at "run"
        exact z'
      · rw [List.length_map, fm_list, show (rows.map fun r => D.bl (goesOn m kept r)) = (rows.map (goesOn m kept)).map .bl by rw [List.map_map]; rfl]
        walk_at "run"
        refine st_append sup_same (by rw [List.length_map, List.length_take, sizeLine_val]; omega) ?_
        walk_at "run"
        rw [sup_sup]
        refine hnx3 _ _ ⟨?_, _, _, _, rfl⟩
        rw [take_at (step_get e1 e2), List.map_append]
        rfl
    · rintro _ _ ⟨rfl, y2, y3, y6, rfl⟩
      have hle : (enumD 0 (c.map fun rows => D.tup (rows.map rowD))).length = c.length := by rw [enumD_length, List.length_map]
      rw [hle, Nat.zero_add, List.take_of_length_le (by omega)]
      walk_at "run"
      refine ⟨p, _, rfl, sup_same, ?_⟩
      rw [sdel_sup hp]
      walk_at "run"
      refine st_ne_marks ?_
      walk_at "run"
      have st : step c m m = iter c (k + 1) := by rw [← hm]; rfl
      have hpos : 0 < n := by omega
      obtain ⟨n', rfl⟩ : ∃ n', n = n' + 1 := ⟨n - 1, by omega⟩
      refine hnx n' _ _ rfl ⟨rfl, step c m m, _, _, _, _, _, rfl, ?_⟩
      by_cases z : step c m m = m
      · refine .inr ⟨by rw [decide_eq_true z]; rfl, ?_⟩
        rw [z, ← hm]
        exact endedM_eq hk (by rw [← st, z, hm])
      · refine .inl ⟨by rw [decide_eq_false z]; rfl, k + 1, by omega, st, fun j hj => ?_⟩
        by_cases e : j = k
        · subst e
          rw [← st, hm]
          exact z
        · exact hk j (by omega)
  · walk_at "run"
    exact .of q
theorem use_ended_marks {c : K9.Code} {S : Sto} {Q : DK} (wf : WF c) (q : Q (marksD (endedM c)) S) : sp_ended_marks (codeD c) S Q := ⟨c, rfl, wf, q⟩
end L3

set_option Elab.async false
set_option maxRecDepth 100000
set_option linter.all false
set_option maxHeartbeats 4000000
namespace L3
open PySem L2 L3.K9
local macro_rules | `(tactic| walk_at "cond") => `(tactic| first | omega | (simp only [List.length_append, List.length_cons, List.length_nil, List.length_take, List.length_drop, List.length_map, List.length_reverse]; omega) | rfl | decide)
local macro_rules | `(tactic| walk_at "side") => `(tactic| first | assumption | omega | (simp only [List.length_append, List.length_cons, List.length_nil, List.length_take, List.length_drop, List.length_map, List.length_reverse, sizeLine_val]; omega) | decide)
local macro_rules | `(tactic| walk_at "st") => `(tactic| first
  | with_reducible refine st_ix0 ?_ | with_reducible refine st_ix1 ?_ | with_reducible refine st_ix2 ?_ | with_reducible refine st_ix3 ?_ | with_reducible refine st_ix4 ?_
  | with_reducible refine st_add_pp (by walk_at "side") ?_ | with_reducible refine st_add_p1 (by walk_at "side") ?_ | with_reducible refine st_add_1p (by walk_at "side") ?_
  | with_reducible refine st_add ?_ | with_reducible refine st_sub ?_ | with_reducible refine st_iadd ?_ | with_reducible refine st_neg ?_
  | with_reducible refine st_len_p ?_ | with_reducible refine st_len_lp ?_ | with_reducible refine st_len_rp ?_ | with_reducible refine st_len_t ?_ | with_reducible refine st_len_l ?_
  | with_reducible refine st_add_t (by walk_at "side") ?_ | with_reducible refine st_add_l (by walk_at "side") ?_ | with_reducible refine st_add_s (by walk_at "side") ?_
  | with_reducible refine st_tru_bl ?_ | with_reducible refine st_tru_int ?_ | with_reducible refine st_tru_tup ?_ | with_reducible refine st_tru_lst ?_ | with_reducible refine st_tru_non ?_
  | with_reducible refine st_at (by assumption) ?_ | with_reducible refine st_atl (by assumption) ?_
  | with_reducible refine st_iteT ?_ | with_reducible refine st_iteF ?_ | with_reducible refine st_not ?_
  | with_reducible refine st_lt ?_ | with_reducible refine st_le ?_ | with_reducible refine st_gt ?_ | with_reducible refine st_ge ?_ | with_reducible refine st_eqi ?_ | with_reducible refine st_nei ?_ | with_reducible refine st_eqs ?_ | with_reducible refine st_nes ?_ | with_reducible refine st_eqb ?_
  | with_reducible refine st_isn_non ?_ | with_reducible refine st_isn_int ?_ | with_reducible refine st_isn_tup ?_ | with_reducible refine st_isn_str ?_ | with_reducible refine st_isn_bl ?_
  | with_reducible refine st_isnt_non ?_ | with_reducible refine st_isnt_int ?_ | with_reducible refine st_isnt_tup ?_ | with_reducible refine st_isnt_str ?_
  | with_reducible refine st_int ?_ | with_reducible refine st_intb ?_ | with_reducible refine st_abs ?_ | with_reducible refine st_min2 ?_ | with_reducible refine st_max2 ?_
  | with_reducible refine st_tup_l ?_ | with_reducible refine st_tup_t ?_ | with_reducible refine st_lst_t ?_ | with_reducible refine st_lst_l ?_
  | with_reducible refine st_sl_from ?_ | with_reducible refine st_sl_to ?_
  | with_reducible refine st_lx0 ?_ | with_reducible refine st_lx1 ?_ | with_reducible refine st_lx2 ?_ | with_reducible refine st_lx3 ?_
  | with_reducible refine st_mod (by walk_at "side") ?_ | with_reducible refine st_div (by walk_at "side") ?_ | with_reducible refine st_mul (by walk_at "side") ?_ | with_reducible refine st_mul' (by walk_at "side") ?_
  | with_reducible refine st_isi rfl ?_
  | (with_reducible refine And.intro (Nat.le_of_ble_eq_true rfl) ?_)
  | (refine And.intro (rfl : (_ : Nat) = _) ?_)
  | with_reducible refine st_dT (by walk_at "cond") ?_ | with_reducible refine st_dF (by walk_at "cond") ?_)
local macro_rules | `(tactic| walk_at "hd") => `(tactic| (with_reducible conv => whnf))
local macro_rules | `(tactic| walk_at "run") => `(tactic| ((with_reducible conv => whnf); repeat (walk_at "st"; (with_reducible conv => whnf))))
/-! ### ended_rows, lost_words -/
def erowD (k : List Bool) : D := .tup (((List.range k.length).filter fun r => atB k r).map iD)
def erowsD (c : K9.Code) : D := .tup ((endedM c).map erowD)
def lostL (c : K9.Code) : List Nat := (List.range c.length).filter fun w => !E c w 0
def sp_ended_rows (x : D) (S : Sto) (Q : DK) : Prop := ∃ c, x = codeD c ∧ WF c ∧ Q (erowsD c) S
-- ended_rows : 0=code 1=row 2=at 3=mark
def rd_ended_rows : DTS :=
    (dRet (dCB vTuple (dCons (dLc (iSeq (dCall (a1 sp_ended_marks) (dCons (dVar 0) dNil))) (dTg (.nm 1)) dYes (dCB vTuple (dCons (dLc (iEnumD (dVar 1)) (dTg (.tp [2, 3])) (dTru (dVar 3)) (dVar 2) [2, 3]) dNil)) [1]) dNil)))
theorem rd_ended_rows_ok : ∀ ds S P, (a1 sp_ended_rows) ds S P → rd_ended_rows (DEnds.of P) (dstart ["code", "row", "at", "mark"] ds) S := by
  intro ds S P h
  rcases ds with _ | ⟨x, _ | ⟨y, ds⟩⟩ <;> first | exact (h : False).elim | skip
  obtain ⟨c, rfl, wf, q⟩ := (h : sp_ended_rows x S P)
  unfold rd_ended_rows
  have lc : c.length ≤ 100 := wf.1
  have fm := fits_ended c
  walk_at "run"
  refine use_ended_marks wf ?_
  unfold erowsD at q
  have kl : ∀ k ∈ endedM c, k.length ≤ 100 := fun k hk => by
    obtain ⟨w, e⟩ := List.getElem?_of_mem hk
    have hw : w < c.length := by rw [← fm.length]; exact (List.getElem?_eq_some_iff.mp e).1
    obtain ⟨k', e1, hl⟩ := fm.get (List.getElem?_eq_getElem hw)
    rw [e] at e1
    cases e1
    rw [hl]
    exact (wf.2 _ (List.getElem_mem hw)).2.1
  have ml := fm.length
  generalize endedM c = m at fm q kl ml ⊢
  walk_at "run"
  refine lcL_0 trivial (fun j => (m[j]?).map erowD) (by rw [List.length_map, sizeLine_val]; omega) (fun j d e P' N z => ?_) ?_
  · rw [List.getElem?_map] at e
    obtain ⟨k, e1, rfl⟩ := Option.map_eq_some_iff.mp e
    rw [e1] at z
    have hk := kl k (List.mem_of_getElem? e1)
    walk_at "run"
    refine lcL_0 trivial (fun j => if atB k j = true then some (iD j) else none) (by rw [enumD_length, List.length_map, sizeLine_val]; omega) (fun i d e P'' N' z' => ?_) ?_
    · obtain ⟨x, e2, rfl⟩ := enumD_at e
      rw [List.getElem?_map] at e2
      obtain ⟨b, e3, rfl⟩ := Option.map_eq_some_iff.mp e2
      have eb : atB k i = b := by unfold atB; rw [e3]; rfl
      rw [eb] at z'
      rw [Nat.zero_add]
      walk_at "run"
      cases b with
      | true => walk_at "run"; exact z'
      | false => walk_at "run"; exact z'
    · rw [enumD_length, List.length_map, fm_if (p := fun j => atB k j) (f := iD) fun j _ => rfl]
      walk_at "run"
      exact z
  · rw [List.length_map, fm_list]
    walk_at "run"
    exact .of q
theorem use_ended_rows {c : K9.Code} {S : Sto} {Q : DK} (wf : WF c) (q : Q (erowsD c) S) : sp_ended_rows (codeD c) S Q := ⟨c, rfl, wf, q⟩
def sp_lost_words (x : D) (S : Sto) (Q : DK) : Prop := ∃ c, x = codeD c ∧ WF c ∧ Q (.tup ((lostL c).map iD)) S
-- lost_words : 0=code 1=at 2=row
def rd_lost_words : DTS :=
    (dRet (dCB vTuple (dCons (dLc (iEnumD (dCall (a1 sp_ended_marks) (dCons (dVar 0) dNil))) (dTg (.tp [1, 2])) (dNot (dTru (dOp vIx (dVar 2) (dC (.int 0))))) (dVar 1) [1, 2]) dNil)))
theorem first_of {c : K9.Code} (wf : WF c) {m : Marks} (fm : Fits c m) {w : Nat} {k : List Bool} (e : m[w]? = some k) : ∃ r, k = at2 m w 0 :: r := by
  have hw : w < c.length := by rw [← fm.length]; exact (List.getElem?_eq_some_iff.mp e).1
  obtain ⟨k', e1, hl⟩ := fm.get (List.getElem?_eq_getElem hw)
  rw [e] at e1
  cases e1
  have pos := (wf.2 _ (List.getElem_mem hw)).1
  rw [← hl] at pos
  cases k with
  | nil => simp at pos
  | cons b r =>
    refine ⟨r, ?_⟩
    unfold at2
    rw [e]
    rfl
theorem rd_lost_words_ok : ∀ ds S P, (a1 sp_lost_words) ds S P → rd_lost_words (DEnds.of P) (dstart ["code", "at", "row"] ds) S := by
  intro ds S P h
  rcases ds with _ | ⟨x, _ | ⟨y, ds⟩⟩ <;> first | exact (h : False).elim | skip
  obtain ⟨c, rfl, wf, q⟩ := (h : sp_lost_words x S P)
  unfold rd_lost_words
  have lc : c.length ≤ 100 := wf.1
  have fm := fits_ended c
  walk_at "run"
  refine use_ended_marks wf ?_
  have q' : P (.tup (((List.range (endedM c).length).filter fun w => !at2 (endedM c) w 0).map iD)) S := by rw [fm.length]; exact q
  have ml := fm.length
  generalize endedM c = m at fm q' ml ⊢
  walk_at "run"
  refine lcL_0 trivial (fun j => if (!at2 m j 0) = true then some (iD j) else none) (by rw [enumD_length, List.length_map, sizeLine_val]; omega) (fun j d e P' N z => ?_) ?_
  · obtain ⟨x, e2, rfl⟩ := enumD_at e
    rw [List.getElem?_map] at e2
    obtain ⟨k, e3, rfl⟩ := Option.map_eq_some_iff.mp e2
    obtain ⟨r, hr⟩ := first_of wf fm e3
    rw [Nat.zero_add]
    walk_at "run"
    rw [hr]
    refine st_lx0 (a := .bl (at2 m j 0)) (xs := r.map .bl) ?_
    walk_at "run"
    generalize at2 m j 0 = b at z ⊢
    cases b with
    | true => walk_at "run"; exact z
    | false => walk_at "run"; exact z
  · rw [enumD_length, List.length_map, fm_if (p := fun j => !at2 m j 0) (f := iD) fun j _ => rfl]
    walk_at "run"
    exact .of q'
theorem use_lost_words {c : K9.Code} {S : Sto} {Q : DK} (wf : WF c) (q : Q (.tup ((lostL c).map iD)) S) : sp_lost_words (codeD c) S Q := ⟨c, rfl, wf, q⟩
/-! ### ways_on, met_by, met_rows -/
def sp_ways_on (x m w r : D) (S : Sto) (Q : DK) : Prop := ∃ c mk i j rows row, x = codeD c ∧ m = marksD mk ∧ w = iD i ∧ r = iD j ∧ WF c ∧ Fits c mk ∧ c[i]? = some rows ∧ rows[j]? = some row ∧ Q (.tup ((K9.ways (at2 mk) row).map iD)) S
-- ways_on : 0=code 1=marks 2=word 3=row 4=told
def rd_ways_on : DTS :=
    (dSeq (dAsg (dOp vIx (dOp vIx (dVar 0) (dVar 2)) (dVar 3)) (dTg (.nm 4)))
    (dRet (dIfE (dAnd (dTest (dOp vEq (dOp vIx (dVar 4) (dC (.int 0))) (dC (.str "call")))) (dNot (dTru (dOp vIx (dOp vIx (dVar 1) (dOp vIx (dVar 4) (dC (.int 1)))) (dC (.int 0)))))) (dTup dNil) (dCall (a1 sp_nexts_of) (dCons (dVar 4) dNil)))))
theorem rd_ways_on_ok : ∀ ds S P, (a4 sp_ways_on) ds S P → rd_ways_on (DEnds.of P) (dstart ["code", "marks", "word", "row", "told"] ds) S := by
  intro ds S P h
  rcases ds with _ | ⟨x, _ | ⟨m, _ | ⟨w, _ | ⟨r, _ | ⟨y, ds⟩⟩⟩⟩⟩ <;> first | exact (h : False).elim | skip
  obtain ⟨c, mk, i, j, rows, row, rfl, rfl, rfl, rfl, wf, fm, e1, e2, q⟩ := (h : sp_ways_on x m w r S P)
  unfold rd_ways_on
  have e3 : (c.map fun rows => D.tup (rows.map rowD))[i]? = some (.tup (rows.map rowD)) := by rw [List.getElem?_map, e1]; rfl
  have e4 : (rows.map rowD)[j]? = some (rowD row) := by rw [List.getElem?_map, e2]; rfl
  walk_at "run"
  cases row with
  | ret =>
    simp only [rowD]
    walk_at "run"
    refine use_nexts (row := .ret) ?_
    exact .of q
  | deed a b n =>
    simp only [rowD]
    walk_at "run"
    refine use_nexts (row := .deed a b n) ?_
    exact .of q
  | choose l =>
    simp only [rowD]
    walk_at "run"
    refine use_nexts (row := .choose l) ?_
    exact .of q
  | call p n =>
    have hp : p < c.length := (((wf.2 rows (List.mem_of_getElem? e1)).2.2 _ (List.mem_of_getElem? e2)) : RowOk _ _ (.call p n)).1
    obtain ⟨k, e5, _⟩ := fm.get (List.getElem?_eq_getElem hp)
    obtain ⟨r, hr⟩ := first_of wf fm e5
    have e6 : (mk.map kD)[p]? = some (kD k) := by rw [List.getElem?_map, e5]; rfl
    simp only [rowD]
    walk_at "run"
    rw [hr]
    refine st_lx0 (a := .bl (at2 mk p 0)) (xs := r.map .bl) ?_
    walk_at "run"
    simp only [K9.ways] at q
    generalize at2 mk p 0 = b at q ⊢
    cases b with
    | true =>
      walk_at "run"
      refine use_nexts (row := .call p n) ?_
      exact .of q
    | false =>
      walk_at "run"
      exact .of q
theorem use_ways_on {c : K9.Code} {mk : Marks} {i j : Nat} {rows : List Row} {row : Row} {S : Sto} {Q : DK} (wf : WF c) (fm : Fits c mk) (e1 : c[i]? = some rows) (e2 : rows[j]? = some row) (q : Q (.tup ((K9.ways (at2 mk) row).map iD)) S) : sp_ways_on (codeD c) (marksD mk) (iD i) (iD j) S Q :=
  ⟨c, mk, i, j, rows, row, rfl, rfl, rfl, rfl, wf, fm, e1, e2, q⟩
def sp_met_by (x m w : D) (S : Sto) (Q : DK) : Prop := ∃ c mk i, x = codeD c ∧ m = marksD mk ∧ w = iD i ∧ WF c ∧ Fits c mk ∧ i < c.length ∧ Q (.lst ((metL c (at2 mk) i).map iD)) S
-- met_by : 0=code 1=marks 2=word 3=found 4=place 5=number
def rd_met_by : DTS :=
    (dSeq (dAsg (dLstM (dCons (dC (.int 0)) dNil)) (dTg (.nm 3)))
    (dSeq (dAsg (dC (.int 0)) (dTg (.nm 4)))
    (dSeq (dWhile (dTest (dOp vLt (dVar 4) (dCB vLen (dCons (dVar 3) dNil)))) (dSeq (dFor (iTupD (dCall (a4 sp_ways_on) (dCons (dVar 0) (dCons (dVar 1) (dCons (dVar 2) (dCons (dOp vIx (dVar 3) (dVar 4)) dNil)))))) (dTg (.nm 5)) (dIf (dTest (dOp (vIn true) (dVar 5) (dVar 3))) (dDrop (dLM vAppend (dVar 3) (dCons (dVar 5) dNil))) dNext))
    (dAug 4 (dC (.int 1)) vIadd)))
    (dRet (dVar 3)))))
theorem addAll_take {l : List Nat} : ∀ (ns : List Nat) (j : Nat) (n : Nat), ns[j]? = some n → addAll l (ns.take (j + 1)) = if n ∈ addAll l (ns.take j) then addAll l (ns.take j) else addAll l (ns.take j) ++ [n]
  | [], j, n, e => by simp at e
  | x :: ns, 0, n, e => by simp at e; subst e; simp [addAll]
  | x :: ns, j + 1, n, e => by
    rw [List.take_succ_cons, List.take_succ_cons]
    exact addAll_take ns j n (by simpa using e)
theorem rd_met_by_ok : ∀ ds S P, (a3 sp_met_by) ds S P → rd_met_by (DEnds.of P) (dstart ["code", "marks", "word", "found", "place", "number"] ds) S := by
  intro ds S P h
  rcases ds with _ | ⟨x, _ | ⟨m, _ | ⟨w, _ | ⟨y, ds⟩⟩⟩⟩ <;> first | exact (h : False).elim | skip
  obtain ⟨c, mk, i, rfl, rfl, rfl, wf, fm, hi, q⟩ := (h : sp_met_by x m w S P)
  unfold rd_met_by
  have e1 := List.getElem?_eq_getElem hi
  obtain ⟨h0, h1, h2⟩ := wf.2 _ (List.getElem_mem hi)
  have er : rowsOf c i = c[i] := by unfold rowsOf; rw [e1]; rfl
  unfold metL at q
  rw [er] at q
  generalize c[i] = rows at e1 h0 h1 h2 q
  walk_at "run"
  intro p hp
  walk_at "run"
  refine ⟨rows.length + 1, whileN_inv (fun n δ S' => ∃ (place : Nat) (found : List Nat) (x5 : Option D), n + place = rows.length ∧ Met rows (at2 mk) place found (metGo rows (at2 mk) (rows.length + 1) 0 [0]) ∧
    S' = sup S p (.lst (found.map iD)) ∧ δ = [some (codeD c), some (marksD mk), some (iD i), some (.ref p), some (iD place), x5]) ?_ _ _ _ ⟨0, [0], none, by omega, Met.start h0, rfl, rfl⟩⟩
  rintro n _ _ ⟨place, found, x5, hn, mt, rfl, rfl⟩ D2 hrt _ hnx _
  have ml := mt.ok.len
  have ml2 := mt.le
  walk_at "run"
  refine st_len_r sup_same ?_
  rw [List.length_map]
  walk_at "run"
  by_cases z : (place : Int) < (found.length : Int)
  · walk_at "run"
    have hlt : place < found.length := by omega
    have g := List.getElem?_eq_getElem hlt
    have hr : found[place] < rows.length := mt.ok.2 _ (List.getElem_mem hlt)
    generalize found[place] = r at g hr
    have g2 := List.getElem?_eq_getElem hr
    have ro := h2 _ (List.getElem_mem hr)
    generalize rows[r] = row at g2 ro
    refine st_atr sup_same (d := iD r) (by rw [List.getElem?_map, g]; rfl) ?_
    walk_at "run"
    refine use_ways_on wf fm e1 g2 ?_
    walk_at "run"
    have mt2 := mt.next g g2 ro
    have wl := ro.ways (at2 mk)
    generalize K9.ways (at2 mk) row = ns at mt2 wl
    refine forL_inv (fun t δ S' => S' = sup S p (.lst ((addAll found (ns.take t)).map iD)) ∧ ∃ x5, δ = [some (codeD c), some (marksD mk), some (iD i), some (.ref p), some (iD place), x5]) (fun _ _ _ _ => True.intro) _ 0 _ _ ⟨rfl, x5, rfl⟩ ?_ ?_
    · rintro j d _ _ hj ⟨rfl, x5, rfl⟩ D3 hrt3 _ hnx3 _
      rw [List.getElem?_map] at hj
      obtain ⟨x, g3, rfl⟩ := Option.map_eq_some_iff.mp hj
      rw [Nat.zero_add] at hnx3 ⊢
      have at_ := addAll_take (l := found) ns j x g3
      have bd : (addAll found (ns.take j)).length ≤ rows.length := by
        exact Ok.len (ok_addAll mt.ok fun y hy => wl y (List.mem_of_mem_take hy))
      walk_at "run"
      refine st_notin_r sup_same ?_
      walk_at "run"
      by_cases m : x ∈ addAll found (ns.take j)
      · rw [if_pos m] at at_
        rw [decide_eq_false (by simpa using m)]
        walk_at "run"
        exact hnx3 _ _ ⟨by rw [at_], _, rfl⟩
      · rw [if_neg m] at at_
        rw [decide_eq_true m]
        walk_at "run"
        rw [isSeq_ref]
        refine ⟨⟨_, sup_same⟩, ?_⟩
        walk_at "run"
        refine st_append sup_same (by rw [List.length_map, sizeLine_val]; omega) ?_
        walk_at "run"
        rw [sup_sup]
        exact hnx3 _ _ ⟨by rw [at_, List.map_append]; rfl, _, rfl⟩
    · rintro _ _ ⟨rfl, x5, rfl⟩
      rw [List.length_map, Nat.zero_add, List.take_length]
      walk_at "run"
      obtain ⟨n', rfl⟩ : ∃ n', n = n' + 1 := ⟨n - 1, by omega⟩
      refine hnx n' _ _ rfl ⟨place + 1, _, _, by omega, mt2, rfl, rfl⟩
  · walk_at "run"
    have e := mt.done (by omega)
    refine ⟨.lst (found.map iD), S, fun a o ha => ?_, .frz sup_same hp (LwL.refl _), ?_⟩
    · rw [sup_ne fun z => by subst z; rw [hp] at ha; cases ha]
      exact ha
    · rw [e]
      exact q
theorem use_met_by {c : K9.Code} {mk : Marks} {i : Nat} {S : Sto} {Q : DK} (wf : WF c) (fm : Fits c mk) (hi : i < c.length) (q : Q (.lst ((metL c (at2 mk) i).map iD)) S) : sp_met_by (codeD c) (marksD mk) (iD i) S Q := ⟨c, mk, i, rfl, rfl, rfl, wf, fm, hi, q⟩
def metS (c : K9.Code) (w : Nat) : List Nat := isort (metL c (E c) w)
def needS (c : K9.Code) (w : Nat) : List Nat := isort (needL c (E c) w)
theorem ints_iD (l : List Nat) : (l.map iD) = (l.map fun n : Nat => (n : Int)).map .int := by rw [List.map_map]; rfl
theorem st_sorted {l : List Nat} {S : Sto} {Q : DK} (h : Q (.lst ((isort l).map iD)) S) : vSortedI [.lst (l.map iD)] S Q := by
  rw [ints_iD]
  show match (seqOf S (.lst ((l.map fun n : Nat => (n : Int)).map .int))).bind asInts with | some ns => ∀ ns' : List Int, ns'.Perm ns → ns'.Pairwise (· ≤ ·) → Q (.lst (ns'.map .int)) S | none => False
  simp only [seqOf, Option.bind_some, asInts_map]
  intro ns' p s
  rw [sorted_ints p s, ← ints_iD]
  exact h
theorem st_sorted_r {A : Addr} {l : List Nat} {S : Sto} {Q : DK} (e : S A = some (.lst (l.map iD))) (h : Q (.lst ((isort l).map iD)) S) : vSortedI [.ref A] S Q := by
  rw [ints_iD] at e
  show match (seqOf S (.ref A)).bind asInts with | some ns => ∀ ns' : List Int, ns'.Perm ns → ns'.Pairwise (· ≤ ·) → Q (.lst (ns'.map .int)) S | none => False
  simp only [seqOf, e, Option.bind_some, asInts_map]
  intro ns' p s
  rw [sorted_ints p s, ← ints_iD]
  exact h
def sp_met_rows (x w : D) (S : Sto) (Q : DK) : Prop := ∃ c i, x = codeD c ∧ w = iD i ∧ WF c ∧ i < c.length ∧ Q (.tup ((metS c i).map iD)) S
-- met_rows : 0=code 1=word
def rd_met_rows : DTS :=
    (dRet (dCB vTuple (dCons (dCB vSortedI (dCons (dCall (a3 sp_met_by) (dCons (dVar 0) (dCons (dCall (a1 sp_ended_marks) (dCons (dVar 0) dNil)) (dCons (dVar 1) dNil)))) dNil)) dNil)))
theorem rd_met_rows_ok : ∀ ds S P, (a2 sp_met_rows) ds S P → rd_met_rows (DEnds.of P) (dstart ["code", "word"] ds) S := by
  intro ds S P h
  rcases ds with _ | ⟨x, _ | ⟨w, _ | ⟨y, ds⟩⟩⟩ <;> first | exact (h : False).elim | skip
  obtain ⟨c, i, rfl, rfl, wf, hi, q⟩ := (h : sp_met_rows x w S P)
  unfold rd_met_rows
  walk_at "run"
  refine use_ended_marks wf ?_
  walk_at "run"
  refine use_met_by wf (fits_ended c) hi ?_
  walk_at "run"
  refine st_sorted ?_
  walk_at "run"
  exact .of q
theorem use_met_rows {c : K9.Code} {i : Nat} {S : Sto} {Q : DK} (wf : WF c) (hi : i < c.length) (q : Q (.tup ((metS c i).map iD)) S) : sp_met_rows (codeD c) (iD i) S Q := ⟨c, i, rfl, rfl, wf, hi, q⟩
/-! ### needed_by, needed_words -/
def sp_needed_by (x m w : D) (S : Sto) (Q : DK) : Prop := ∃ c i, x = codeD c ∧ m = marksD (endedM c) ∧ w = iD i ∧ WF c ∧ i < c.length ∧ ∀ l : List Nat, Ok c.length l → (∀ x, x ∈ l ↔ Need c (E c) (metL c (E c)) i x) → Q (.lst (l.map iD)) S
-- needed_by : 0=code 1=marks 2=word 3=found 4=place 5=row 6=told
def rd_needed_by : DTS :=
    (dSeq (dAsg (dLstM (dCons (dVar 2) dNil)) (dTg (.nm 3)))
    (dSeq (dAsg (dC (.int 0)) (dTg (.nm 4)))
    (dSeq (dWhile (dTest (dOp vLt (dVar 4) (dCB vLen (dCons (dVar 3) dNil)))) (dSeq (dFor (iSeq (dCall (a3 sp_met_by) (dCons (dVar 0) (dCons (dVar 1) (dCons (dOp vIx (dVar 3) (dVar 4)) dNil))))) (dTg (.nm 5)) (dSeq (dAsg (dOp vIx (dOp vIx (dVar 0) (dOp vIx (dVar 3) (dVar 4))) (dVar 5)) (dTg (.nm 6)))
    (dIf (dAnd (dTest (dOp vEq (dOp vIx (dVar 6) (dC (.int 0))) (dC (.str "call")))) (dAnd (dTru (dOp vIx (dOp vIx (dVar 1) (dOp vIx (dVar 3) (dVar 4))) (dVar 5))) (dTest (dOp (vIn true) (dOp vIx (dVar 6) (dC (.int 1))) (dVar 3))))) (dDrop (dLM vAppend (dVar 3) (dCons (dOp vIx (dVar 6) (dC (.int 1))) dNil))) dNext)))
    (dAug 4 (dC (.int 1)) vIadd)))
    (dRet (dVar 3)))))
theorem needAdd_take {rows : List Row} {f : Nat → Nat → Bool} {w : Nat} : ∀ {l : List Nat} (ss : List Nat) (j s : Nat), ss[j]? = some s → needAdd rows f w l (ss.take (j + 1)) = match rows[s]? with
    | some (.call p _) => if f w s = true ∧ p ∉ needAdd rows f w l (ss.take j) then needAdd rows f w l (ss.take j) ++ [p] else needAdd rows f w l (ss.take j)
    | _ => needAdd rows f w l (ss.take j)
  | l, [], j, s, e => by simp at e
  | l, x :: ss, 0, s, e => by simp at e; subst e; rfl
  | l, x :: ss, j + 1, s, e => by
    rw [List.take_succ_cons, List.take_succ_cons]
    exact needAdd_take (l := _) ss j s (by simpa using e)
theorem rd_needed_by_ok : ∀ ds S P, (a3 sp_needed_by) ds S P → rd_needed_by (DEnds.of P) (dstart ["code", "marks", "word", "found", "place", "row", "told"] ds) S := by
  intro ds S P h
  rcases ds with _ | ⟨x, _ | ⟨m, _ | ⟨w, _ | ⟨y, ds⟩⟩⟩⟩ <;> first | exact (h : False).elim | skip
  obtain ⟨c, i, rfl, rfl, rfl, wf, hi, q⟩ := (h : sp_needed_by x m w S P)
  unfold rd_needed_by
  have lc : c.length ≤ 100 := wf.1
  have fm := fits_ended c
  walk_at "run"
  intro p hp
  walk_at "run"
  refine ⟨c.length + 1, whileN_inv (fun n δ S' => ∃ (place : Nat) (found : List Nat) (x5 x6 : Option D), n + place = c.length ∧ Ned c (E c) (metL c (E c)) i place found ∧
    S' = sup S p (.lst (found.map iD)) ∧ δ = [some (codeD c), some (marksD (endedM c)), some (iD i), some (.ref p), some (iD place), x5, x6]) ?_ _ _ _ ⟨0, [i], none, none, by omega, Ned.start hi, rfl, rfl⟩⟩
  rintro n _ _ ⟨place, found, x5, x6, hn, nd, rfl, rfl⟩ D2 hrt _ hnx _
  have ml := nd.ok.len
  have ml2 := nd.le
  walk_at "run"
  refine st_len_r sup_same ?_
  rw [List.length_map]
  walk_at "run"
  by_cases z : (place : Int) < (found.length : Int)
  · walk_at "run"
    have hlt : place < found.length := by omega
    have g := List.getElem?_eq_getElem hlt
    have hw : found[place] < c.length := nd.ok.2 _ (List.getElem_mem hlt)
    generalize found[place] = w at g hw
    refine st_atr sup_same (d := iD w) (by rw [List.getElem?_map, g]; rfl) ?_
    walk_at "run"
    refine use_met_by wf fm hw ?_
    walk_at "run"
    have nd2 := nd.next wf g
    have okm := ok_metL wf (E c) hw
    have e1 := List.getElem?_eq_getElem hw
    have er : rowsOf c w = c[w] := by unfold rowsOf; rw [e1]; rfl
    rw [er] at nd2 okm
    obtain ⟨h0, h1, h2⟩ := wf.2 _ (List.getElem_mem hw)
    obtain ⟨kept, e5, hl⟩ := fm.get e1
    have e6 : ((endedM c).map kD)[w]? = some (kD kept) := by rw [List.getElem?_map, e5]; rfl
    have e7 : (c.map fun rows => D.tup (rows.map rowD))[w]? = some (.tup (c[w].map rowD)) := by rw [List.getElem?_map, e1]; rfl
    have pre : ∀ t, (needAdd c[w] (E c) w found ((metL c (E c) w).take t))[place]? = some w ∧ (needAdd c[w] (E c) w found ((metL c (E c) w).take t)).length ≤ c.length := fun t => by
      have a := needA wf (f := E c) (w := w) ((metL c (E c) w).take t) nd.ok
      rw [er] at a
      exact ⟨a.pre _ _ g, a.ok.len⟩
    have okm' : ∀ s ∈ metL c (E c) w, s < c[w].length := okm.2
    have ee : ∀ s, E c w s = atB kept s := fun s => by unfold E at2; rw [e5]
    show forL _ _ _ ((metL c (at2 (endedM c)) w).map iD) _ _ _
    rw [show metL c (at2 (endedM c)) w = metL c (E c) w from rfl]
    generalize metL c (E c) w = ss at nd2 pre okm' ⊢
    generalize c[w] = rows at nd2 pre okm' e7 hl
    refine forL_inv (fun t δ S' => S' = sup S p (.lst ((needAdd rows (E c) w found (ss.take t)).map iD)) ∧ ∃ x5 x6, δ = [some (codeD c), some (marksD (endedM c)), some (iD i), some (.ref p), some (iD place), x5, x6]) (fun _ _ _ _ => True.intro) _ 0 _ _ ⟨rfl, x5, x6, rfl⟩ ?_ ?_
    · rintro j d _ _ hj ⟨rfl, x5, x6, rfl⟩ D3 hrt3 _ hnx3 _
      rw [List.getElem?_map] at hj
      obtain ⟨s, g3, rfl⟩ := Option.map_eq_some_iff.mp hj
      rw [Nat.zero_add] at hnx3 ⊢
      have at_ := needAdd_take (rows := rows) (f := E c) (w := w) (l := found) ss j s g3
      obtain ⟨pj, lj⟩ := pre j
      have hs := okm' s (List.mem_of_getElem? g3)
      have g4 := List.getElem?_eq_getElem hs
      have g8 : (kept.map D.bl)[s]? = some (.bl (E c w s)) := by
        rw [ee, List.getElem?_map, List.getElem?_eq_getElem (by omega)]
        unfold atB
        rw [List.getElem?_eq_getElem (by omega)]
        rfl
      generalize rows[s] = row at g4
      have g5 : (rows.map rowD)[s]? = some (rowD row) := by rw [List.getElem?_map, g4]; rfl
      generalize needAdd rows (E c) w found (ss.take j) = fj at at_ pj lj ⊢
      walk_at "run"
      refine st_atr sup_same (d := iD w) (by rw [List.getElem?_map, pj]; rfl) ?_
      walk_at "run"
      cases row with
      | ret =>
        simp only [rowD]
        walk_at "run"
        exact hnx3 _ _ ⟨by rw [at_]; simp only [g4], _, _, rfl⟩
      | deed a b n =>
        simp only [rowD]
        walk_at "run"
        exact hnx3 _ _ ⟨by rw [at_]; simp only [g4], _, _, rfl⟩
      | choose l =>
        simp only [rowD]
        walk_at "run"
        exact hnx3 _ _ ⟨by rw [at_]; simp only [g4], _, _, rfl⟩
      | call t n =>
        simp only [rowD]
        walk_at "run"
        refine st_atr sup_same (d := iD w) (by rw [List.getElem?_map, pj]; rfl) ?_
        walk_at "run"
        simp only [g4] at at_
        by_cases b : E c w s = true
        · rw [b]
          walk_at "run"
          refine st_notin_r sup_same ?_
          walk_at "run"
          by_cases m : t ∈ fj
          · rw [decide_eq_false (by simpa using m)]
            rw [if_neg fun q => q.2 m] at at_
            walk_at "run"
            exact hnx3 _ _ ⟨by rw [at_], _, _, rfl⟩
          · rw [decide_eq_true m]
            rw [if_pos ⟨b, m⟩] at at_
            walk_at "run"
            rw [isSeq_ref]
            refine ⟨⟨_, sup_same⟩, ?_⟩
            walk_at "run"
            refine st_append sup_same (by rw [List.length_map, sizeLine_val]; omega) ?_
            walk_at "run"
            rw [sup_sup]
            exact hnx3 _ _ ⟨by rw [at_, List.map_append]; rfl, _, _, rfl⟩
        · rw [show E c w s = false by simpa using b]
          rw [if_neg fun q => b q.1] at at_
          walk_at "run"
          exact hnx3 _ _ ⟨by rw [at_], _, _, rfl⟩
    · rintro _ _ ⟨rfl, x5, x6, rfl⟩
      rw [List.length_map, Nat.zero_add, List.take_length]
      walk_at "run"
      obtain ⟨n', rfl⟩ : ∃ n', n = n' + 1 := ⟨n - 1, by omega⟩
      refine hnx n' _ _ rfl ⟨place + 1, _, _, _, by omega, nd2, rfl, rfl⟩
  · walk_at "run"
    refine ⟨.lst (found.map iD), S, fun a o ha => ?_, .frz sup_same hp (LwL.refl _), q found nd.ok (nd.done (by omega))⟩
    rw [sup_ne fun z => by subst z; rw [hp] at ha; cases ha]
    exact ha
theorem use_needed_by {c : K9.Code} {i : Nat} {S : Sto} {Q : DK} (wf : WF c) (hi : i < c.length) (q : ∀ l : List Nat, Ok c.length l → (∀ x, x ∈ l ↔ Need c (E c) (metL c (E c)) i x) → Q (.lst (l.map iD)) S) : sp_needed_by (codeD c) (marksD (endedM c)) (iD i) S Q := ⟨c, i, rfl, rfl, rfl, wf, hi, q⟩
theorem need_sorted {c : K9.Code} (wf : WF c) {i : Nat} (hi : i < c.length) {M : Nat → List Nat} (hM : ∀ w s, s ∈ M w ↔ s ∈ metL c (E c) w) {l : List Nat} (ok : Ok c.length l) (h : ∀ x, x ∈ l ↔ Need c (E c) M i x) : isort l = needS c i := by
  have nd := ned_go wf (c.length + 1) 0 (Ned.start (f := E c) (M := metL c (E c)) hi) (by omega)
  refine isort_eq (perm_of ok.1 nd.ok.1 fun x => ?_)
  rw [h x]
  exact Iff.trans ⟨fun n => n.congr fun w s q => (hM w s).mp q, fun n => n.congr fun w s q => (hM w s).mpr q⟩ (nd.done rfl x).symm
def sp_needed_words (x w : D) (S : Sto) (Q : DK) : Prop := ∃ c i, x = codeD c ∧ w = iD i ∧ WF c ∧ i < c.length ∧ Q (.tup ((needS c i).map iD)) S
-- needed_words : 0=code 1=word
def rd_needed_words : DTS :=
    (dRet (dCB vTuple (dCons (dCB vSortedI (dCons (dCall (a3 sp_needed_by) (dCons (dVar 0) (dCons (dCall (a1 sp_ended_marks) (dCons (dVar 0) dNil)) (dCons (dVar 1) dNil)))) dNil)) dNil)))
theorem rd_needed_words_ok : ∀ ds S P, (a2 sp_needed_words) ds S P → rd_needed_words (DEnds.of P) (dstart ["code", "word"] ds) S := by
  intro ds S P h
  rcases ds with _ | ⟨x, _ | ⟨w, _ | ⟨y, ds⟩⟩⟩ <;> first | exact (h : False).elim | skip
  obtain ⟨c, i, rfl, rfl, wf, hi, q⟩ := (h : sp_needed_words x w S P)
  unfold rd_needed_words
  walk_at "run"
  refine use_ended_marks wf ?_
  walk_at "run"
  refine use_needed_by wf hi fun l ok hl => ?_
  walk_at "run"
  refine st_sorted ?_
  walk_at "run"
  rw [need_sorted wf hi (fun _ _ => Iff.rfl) ok hl]
  exact .of q
theorem use_needed_words {c : K9.Code} {i : Nat} {S : Sto} {Q : DK} (wf : WF c) (hi : i < c.length) (q : Q (.tup ((needS c i).map iD)) S) : sp_needed_words (codeD c) (iD i) S Q := ⟨c, i, rfl, rfl, wf, hi, q⟩
end L3

set_option Elab.async false
set_option maxRecDepth 100000
set_option linter.all false
set_option maxHeartbeats 4000000
namespace L3
open PySem L2 L3.K9
local macro_rules | `(tactic| walk_at "cond") => `(tactic| first | omega | (simp only [List.length_append, List.length_cons, List.length_nil, List.length_take, List.length_drop, List.length_map, List.length_reverse]; omega) | rfl | decide)
local macro_rules | `(tactic| walk_at "side") => `(tactic| first | assumption | omega | (simp only [List.length_append, List.length_cons, List.length_nil, List.length_take, List.length_drop, List.length_map, List.length_reverse, sizeLine_val]; omega) | decide)
local macro_rules | `(tactic| walk_at "st") => `(tactic| first
  | with_reducible refine st_ix0 ?_ | with_reducible refine st_ix1 ?_ | with_reducible refine st_ix2 ?_ | with_reducible refine st_ix3 ?_ | with_reducible refine st_ix4 ?_
  | with_reducible refine st_add_pp (by walk_at "side") ?_ | with_reducible refine st_add_p1 (by walk_at "side") ?_ | with_reducible refine st_add_1p (by walk_at "side") ?_
  | with_reducible refine st_add ?_ | with_reducible refine st_sub ?_ | with_reducible refine st_iadd ?_ | with_reducible refine st_neg ?_
  | with_reducible refine st_len_p ?_ | with_reducible refine st_len_lp ?_ | with_reducible refine st_len_rp ?_ | with_reducible refine st_len_t ?_ | with_reducible refine st_len_l ?_
  | with_reducible refine st_add_t (by walk_at "side") ?_ | with_reducible refine st_add_l (by walk_at "side") ?_ | with_reducible refine st_add_s (by walk_at "side") ?_
  | with_reducible refine st_tru_bl ?_ | with_reducible refine st_tru_int ?_ | with_reducible refine st_tru_tup ?_ | with_reducible refine st_tru_lst ?_ | with_reducible refine st_tru_non ?_
  | with_reducible refine st_at (by assumption) ?_ | with_reducible refine st_atl (by assumption) ?_
  | with_reducible refine st_iteT ?_ | with_reducible refine st_iteF ?_ | with_reducible refine st_not ?_
  | with_reducible refine st_lt ?_ | with_reducible refine st_le ?_ | with_reducible refine st_gt ?_ | with_reducible refine st_ge ?_ | with_reducible refine st_eqi ?_ | with_reducible refine st_nei ?_ | with_reducible refine st_eqs ?_ | with_reducible refine st_nes ?_ | with_reducible refine st_eqb ?_
  | with_reducible refine st_isn_non ?_ | with_reducible refine st_isn_int ?_ | with_reducible refine st_isn_tup ?_ | with_reducible refine st_isn_str ?_ | with_reducible refine st_isn_bl ?_
  | with_reducible refine st_isnt_non ?_ | with_reducible refine st_isnt_int ?_ | with_reducible refine st_isnt_tup ?_ | with_reducible refine st_isnt_str ?_
  | with_reducible refine st_int ?_ | with_reducible refine st_intb ?_ | with_reducible refine st_abs ?_ | with_reducible refine st_min2 ?_ | with_reducible refine st_max2 ?_
  | with_reducible refine st_tup_l ?_ | with_reducible refine st_tup_t ?_ | with_reducible refine st_lst_t ?_ | with_reducible refine st_lst_l ?_
  | with_reducible refine st_sl_from ?_ | with_reducible refine st_sl_to ?_
  | with_reducible refine st_lx0 ?_ | with_reducible refine st_lx1 ?_ | with_reducible refine st_lx2 ?_ | with_reducible refine st_lx3 ?_
  | with_reducible refine st_mod (by walk_at "side") ?_ | with_reducible refine st_div (by walk_at "side") ?_ | with_reducible refine st_mul (by walk_at "side") ?_ | with_reducible refine st_mul' (by walk_at "side") ?_
  | with_reducible refine st_isi rfl ?_
  | (with_reducible refine And.intro (Nat.le_of_ble_eq_true rfl) ?_)
  | (refine And.intro (rfl : (_ : Nat) = _) ?_)
  | with_reducible refine st_dT (by walk_at "cond") ?_ | with_reducible refine st_dF (by walk_at "cond") ?_)
local macro_rules | `(tactic| walk_at "hd") => `(tactic| (with_reducible conv => whnf))
local macro_rules | `(tactic| walk_at "run") => `(tactic| ((with_reducible conv => whnf); repeat (walk_at "st"; (with_reducible conv => whnf))))
/-! ### the law's own: leads, agree -/
def sp_law_leads (x : D) (S : Sto) (Q : DK) : Prop := ∃ row, x = rowD row ∧ Q (.tup (row.nexts.map iD)) S
-- _law_leads : 0=row
def rd_law_leads : DTS :=
    (dSeq (dIf (dTest (dOp vEq (dOp vIx (dVar 0) (dC (.int 0))) (dC (.str "return")))) (dRet (dTup dNil)) dNext)
    (dRet (dIfE (dTest (dOp vEq (dOp vIx (dVar 0) (dC (.int 0))) (dC (.str "choose")))) (dOp vIx (dVar 0) (dC (.int 1))) (dTup (dCons (dOp vIx (dVar 0) (dOp vSub (dCB vLen (dCons (dVar 0) dNil)) (dC (.int 1)))) dNil)))))
theorem rd_law_leads_ok : ∀ ds S P, (a1 sp_law_leads) ds S P → rd_law_leads (DEnds.of P) (dstart ["row"] ds) S := by
  intro ds S P h
  rcases ds with _ | ⟨x, _ | ⟨y, ds⟩⟩ <;> first | exact (h : False).elim | skip
  obtain ⟨row, rfl, q⟩ := (h : sp_law_leads x S P)
  unfold rd_law_leads
  cases row with
  | ret =>
    simp only [rowD]
    walk_at "run"
    exact .of q
  | deed a b n =>
    simp only [rowD]
    walk_at "run"
    refine st_at (k := 3) rfl ?_
    walk_at "run"
    exact .of q
  | call p n =>
    simp only [rowD]
    walk_at "run"
    refine st_at (k := 2) rfl ?_
    walk_at "run"
    exact .of q
  | choose l =>
    simp only [rowD]
    walk_at "run"
    exact .of q
theorem use_leads {row : Row} {S : Sto} {Q : DK} (q : Q (.tup (row.nexts.map iD)) S) : sp_law_leads (rowD row) S Q := ⟨row, rfl, q⟩
mutual
def agOk : Nat → D → Bool
  | _, .int _ => true
  | n + 1, .tup ds => agOks n ds && decide (ds.length ≤ 1000000)
  | _, _ => false
def agOks : Nat → List D → Bool
  | _, [] => true
  | n, d :: ds => agOk n d && agOks n ds
end
theorem agOks_get {n : Nat} : ∀ {ds : List D} {j : Nat} {d : D}, agOks n ds = true → ds[j]? = some d → agOk n d = true
  | [], _, _, _, e => by simp at e
  | x :: r, 0, d, h, e => by
    simp only [agOks, Bool.and_eq_true] at h
    simp at e
    subst e
    exact h.1
  | x :: r, j + 1, d, h, e => by
    simp only [agOks, Bool.and_eq_true] at h
    exact agOks_get h.2 (by simpa using e)
theorem agOks_map {α : Type} {n : Nat} {f : α → D} {l : List α} (h : ∀ x ∈ l, agOk n (f x) = true) : agOks n (l.map f) = true := by
  induction l with
  | nil => cases n <;> rfl
  | cons x l ih =>
    simp only [List.map_cons, agOks, Bool.and_eq_true]
    exact ⟨h x List.mem_cons_self, ih fun y hy => h y (List.mem_cons_of_mem _ hy)⟩
theorem agOk_ints {n : Nat} {l : List Nat} (h : l.length ≤ 1000000) : agOk (n + 1) (.tup (l.map iD)) = true := by
  simp only [agOk, Bool.and_eq_true, decide_eq_true_eq, List.length_map]
  exact ⟨agOks_map fun x _ => by cases n <;> rfl, h⟩
def sp_agree (n : Nat) (told due : D) (S : Sto) (Q : DK) : Prop := told = due ∧ agOk n due = true ∧ Q (.bl true) S
def sp_law_agree := sp_agree 6
-- _law_agree : 0=told 1=due 2=one 3=other
def rd_law_agree (spr : DSp) : DTS :=
    (dSeq (dIf (dNot (dTest (dCB vIsi (dCons (dVar 1) (dCons (dC (.ty "tuple")) dNil))))) (dRet (dAndV (dCB vIsi (dCons (dVar 0) (dCons (dC (.ty "int")) dNil))) (dAndV (dNotV (dCB vIsi (dCons (dVar 0) (dCons (dC (.ty "bool")) dNil)))) (dOp vEq (dVar 0) (dVar 1))))) dNext)
    (dSeq (dIf (dOr (dNot (dTest (dCB vIsi (dCons (dVar 0) (dCons (dC (.ty "tuple")) dNil))))) (dTest (dOp vNe (dCB vLen (dCons (dVar 0) dNil)) (dCB vLen (dCons (dVar 1) dNil))))) (dRet (dC (.bl false))) dNext)
    (dSeq (dFor (iZipA (dVar 0) (dVar 1)) (dTg (.tp [2, 3])) (dIf (dNot (dTest (dCall spr (dCons (dVar 2) (dCons (dVar 3) dNil))))) (dRet (dC (.bl false))) dNext))
    (dRet (dC (.bl true))))))
theorem zip_self {ds : List D} {j : Nat} {d : D} (h : ((ds.zip ds).map fun z => D.key [z.1, z.2])[j]? = some d) : ∃ x, ds[j]? = some x ∧ d = .key [x, x] := by
  rw [List.getElem?_map] at h
  obtain ⟨⟨a, b⟩, e, rfl⟩ := Option.map_eq_some_iff.mp h
  obtain ⟨e1, e2⟩ := List.getElem?_zip_eq_some.mp e
  rw [e1] at e2
  cases e2
  exact ⟨a, e1, rfl⟩
theorem rd_law_agree_ok (n : Nat) (spr : DSp) (hs : ∀ m, n = m + 1 → spr = a2 (sp_agree m)) : ∀ ds S P, (a2 (sp_agree n)) ds S P → rd_law_agree spr (DEnds.of P) (dstart ["told", "due", "one", "other"] ds) S := by
  intro ds S P h
  rcases ds with _ | ⟨x, _ | ⟨y, _ | ⟨z, ds⟩⟩⟩ <;> first | exact (h : False).elim | skip
  obtain ⟨rfl, ok, q⟩ := (h : sp_agree n x y S P)
  unfold rd_law_agree
  cases x with
  | int i =>
    walk_at "run"
    rw [decide_eq_true rfl]
    exact .of q
  | tup ds =>
    cases n with
    | zero => cases ok
    | succ n =>
    rw [hs n rfl]
    simp only [agOk, Bool.and_eq_true, decide_eq_true_eq] at ok
    walk_at "run"
    refine ⟨rfl, ?_⟩
    refine forL_inv (fun i δ S' => S = S' ∧ ∃ x y, δ = [some (.tup ds), some (.tup ds), x, y]) (fun _ _ _ _ => ⟨trivial, trivial⟩) _ 0 _ _ ⟨rfl, none, none, rfl⟩ ?_ ?_
    · rintro j d _ _ hj ⟨rfl, x, y, rfl⟩ D2 hrt _ hnx _
      obtain ⟨z, e, rfl⟩ := zip_self hj
      walk_at "run"
      refine (show ∀ {d : D} {S : Sto} {Q : DK}, agOk n d = true → Q (.bl true) S → sp_agree n d d S Q from fun a b => ⟨rfl, a, b⟩) (agOks_get ok.1 e) ?_
      walk_at "run"
      exact hnx _ _ ⟨rfl, _, _, rfl⟩
    · rintro _ _ ⟨rfl, x, y, rfl⟩
      walk_at "run"
      exact .of q
  | _ => cases n <;> cases ok
theorem use_agree {told due : D} {S : Sto} {Q : DK} (e : told = due) (h : agOk 6 due = true) (q : Q (.bl true) S) : sp_law_agree told due S Q := ⟨e, h, q⟩
/-! ### the dict of pairs -/
abbrev pk (p : Nat × Nat) : List L2.Key := [Sum.inl (p.1 : Int), Sum.inl (p.2 : Int)]
abbrev fdD (ps : List (Nat × Nat)) : List (List L2.Key × D) := ps.map fun p => (pk p, .bl true)
theorem fd_cons (p : Nat × Nat) (ps : List (Nat × Nat)) : fdD (p :: ps) = (pk p, .bl true) :: fdD ps := rfl
theorem fd_app (ps qs : List (Nat × Nat)) : fdD (ps ++ qs) = fdD ps ++ fdD qs := List.map_append
theorem pk_inj {p q : Nat × Nat} (h : pk p = pk q) : p = q := by
  obtain ⟨a, b⟩ := p
  obtain ⟨c, d⟩ := q
  simp only [pk, List.cons.injEq, Sum.inl.injEq, and_true] at h
  obtain ⟨h1, h2⟩ := h
  simp only [Prod.mk.injEq]
  omega
theorem val_fd (q : Nat × Nat) : ∀ ps : List (Nat × Nat), (valD (fdD ps) (pk q)).isSome = decide (q ∈ ps)
  | [] => rfl
  | p :: ps => by
    have ih := val_fd q ps
    unfold valD at ih ⊢
    rw [fd_cons, List.find?_cons]
    by_cases h : p = q
    · subst h
      simp
    · rw [decide_eq_false fun z => h (pk_inj z)]
      rw [ih]
      have : ¬ q = p := fun z => h z.symm
      simp [List.mem_cons, this]
def padd (ps : List (Nat × Nat)) (q : Nat × Nat) : List (Nat × Nat) := if q ∈ ps then ps else ps ++ [q]
theorem any_fd (q : Nat × Nat) (ps : List (Nat × Nat)) : ((fdD ps).any fun kv => decide (kv.1 = pk q)) = decide (q ∈ ps) := by
  induction ps with
  | nil => rfl
  | cons p ps ih =>
    rw [fd_cons, List.any_cons, ih]
    by_cases h : p = q
    · subst h; simp
    · have : ¬ q = p := fun z => h z.symm
      rw [decide_eq_false fun z => h (pk_inj z)]
      simp [List.mem_cons, this]
theorem put_fd (ps : List (Nat × Nat)) (q : Nat × Nat) : putD (fdD ps) (pk q) (.bl true) = fdD (padd ps q) := by
  unfold putD padd
  rw [any_fd]
  by_cases h : q ∈ ps
  · rw [decide_eq_true h, if_pos rfl, if_pos h, List.map_map]
    apply List.map_congr_left
    intro p hp
    show (if pk p = pk q then (pk p, D.bl true) else (pk p, D.bl true)) = _
    split <;> rfl
  · rw [decide_eq_false h, if_neg (by simp), if_neg h, fd_app]
    rfl
section
variable {S : Sto} {A : Addr} {ps : List (Nat × Nat)} {w r : Nat}
theorem st_din {Q : DK} (e : S A = some (.dT (fdD ps))) (h : Q (.bl (decide ((w, r) ∈ ps))) S) : ∃ o, dGetD S (.ref A) (.key [iD w, iD r]) = some o ∧ Q (.bl o.isSome) S := by
  refine ⟨valD (fdD ps) (pk (w, r)), ?_, ?_⟩
  · simp only [dGetD, e, keysOf, keyOf]
    rfl
  · rw [val_fd]
    exact h
theorem st_dnotin {Q : DK} (e : S A = some (.dT (fdD ps))) (h : Q (.bl (!decide ((w, r) ∈ ps))) S) : ∃ o, dGetD S (.ref A) (.key [iD w, iD r]) = some o ∧ Q (.bl (!o.isSome)) S := by
  refine ⟨valD (fdD ps) (pk (w, r)), ?_, ?_⟩
  · simp only [dGetD, e, keysOf, keyOf]
    rfl
  · rw [val_fd]
    exact h
theorem st_dput {N : Sto → Prop} (e : S A = some (.dT (fdD ps))) (hl : ps.length < sizeLine) (h : N (sup S A (.dT (fdD (padd ps (w, r)))))) : ∃ S4, dPutD S (.bl true) (.ref A) (.key [iD w, iD r]) = some S4 ∧ N S4 := by
  refine ⟨_, ?_, h⟩
  simp only [dPutD, e, keysOf, keyOf]
  rw [if_pos (by rw [List.length_map]; exact hl)]
  rw [← put_fd]
theorem st_lenT {Q : DK} (e : S A = some (.dT (fdD ps))) (h : Q (.int (ps.length : Nat)) S) : vLenT [.ref A] S Q := by
  simp only [vLenT, e, List.length_map]
  exact h
end
/-- pairs that are ended rows, each once -/
structure FD (c : K9.Code) (ps : List (Nat × Nat)) : Prop where
  nd : ps.Nodup
  ok : ∀ w r, (w, r) ∈ ps → E c w r = true
theorem E_in {c : K9.Code} (wf : WF c) {w r : Nat} (h : E c w r = true) : w < c.length ∧ r < 100 := by
  cases e : rowAt c w r with
  | none => rw [E_none e] at h; cases h
  | some row =>
    obtain ⟨rows, e1, e2⟩ := Option.bind_eq_some_iff.mp e
    have h1 := (List.getElem?_eq_some_iff.mp e1).1
    have h2 := (List.getElem?_eq_some_iff.mp e2).1
    have h3 := (wf.2 rows (List.mem_of_getElem? e1)).2.1
    exact ⟨h1, by omega⟩
theorem FD.len {c : K9.Code} (wf : WF c) {ps : List (Nat × Nat)} (h : FD c ps) : ps.length ≤ 10000 := by
  have hl := wf.1
  have := nodup_le 10000 (l := ps.map fun p => p.1 * 100 + p.2) ?_ ?_
  · rwa [List.length_map] at this
  · refine (List.pairwise_map).mpr (h.nd.imp_of_mem fun {a b} ha hb hne e => hne ?_)
    obtain ⟨a1, a2⟩ := a
    obtain ⟨b1, b2⟩ := b
    have e : a1 * 100 + a2 = b1 * 100 + b2 := e
    obtain ⟨_, h2⟩ := E_in wf (h.ok _ _ ha)
    obtain ⟨_, h4⟩ := E_in wf (h.ok _ _ hb)
    simp only [Prod.mk.injEq]
    omega
  · intro x hx
    obtain ⟨⟨a1, a2⟩, hp, rfl⟩ := List.mem_map.mp hx
    obtain ⟨h1, h2⟩ := E_in wf (h.ok _ _ hp)
    show a1 * 100 + a2 < 10000
    omega
theorem FD.add {c : K9.Code} {ps : List (Nat × Nat)} (h : FD c ps) {w r : Nat} (e : E c w r = true) : FD c (padd ps (w, r)) := by
  unfold padd
  split
  · exact h
  · rename_i m
    refine ⟨List.nodup_append.mpr ⟨h.nd, by simp, fun a ha b hb z => ?_⟩, fun w' r' hm => ?_⟩
    · rw [List.mem_singleton] at hb
      subst z hb
      exact m ha
    · rcases List.mem_append.mp hm with hm | hm
      · exact h.ok _ _ hm
      · cases List.mem_singleton.mp hm
        exact e
theorem padd_mem {ps : List (Nat × Nat)} {q : Nat × Nat} : q ∈ padd ps q := by
  unfold padd
  split
  · assumption
  · simp
theorem padd_sub {ps : List (Nat × Nat)} {q x : Nat × Nat} (h : x ∈ ps) : x ∈ padd ps q := by
  unfold padd
  split
  · exact h
  · exact List.mem_append_left _ h
def mem2 (ps : List (Nat × Nat)) (w r : Nat) : Bool := decide ((w, r) ∈ ps)
def Rets (c : K9.Code) (ps : List (Nat × Nat)) : Prop := ∀ w r, rowAt c w r = some .ret → (w, r) ∈ ps
def ClosedAt (c : K9.Code) (ps : List (Nat × Nat)) (w r : Nat) : Prop := ∀ row, rowAt c w r = some row → leads (mem2 ps) w row = true → (w, r) ∈ ps
theorem has_E {c : K9.Code} {ps : List (Nat × Nat)} (h : FD c ps) (cl : ∀ w r, ClosedAt c ps w r) : ∀ w r, (w, r) ∈ ps ↔ E c w r = true := fun w r => ⟨h.ok w r, fun e => by
  have := E_least (c := c) (f := mem2 ps) (fun w r row e1 e2 => decide_eq_true (cl w r row e1 e2)) w r e
  exact of_decide_eq_true this⟩
end L3

set_option Elab.async false
set_option maxRecDepth 100000
set_option linter.all false
set_option maxHeartbeats 4000000
namespace L3
open PySem L2 L3.K9
local macro_rules | `(tactic| walk_at "cond") => `(tactic| first | omega | (simp only [List.length_append, List.length_cons, List.length_nil, List.length_take, List.length_drop, List.length_map, List.length_reverse]; omega) | rfl | decide)
local macro_rules | `(tactic| walk_at "side") => `(tactic| first | assumption | omega | (simp only [List.length_append, List.length_cons, List.length_nil, List.length_take, List.length_drop, List.length_map, List.length_reverse, sizeLine_val]; omega) | decide)
local macro_rules | `(tactic| walk_at "st") => `(tactic| first
  | with_reducible refine st_ix0 ?_ | with_reducible refine st_ix1 ?_ | with_reducible refine st_ix2 ?_ | with_reducible refine st_ix3 ?_ | with_reducible refine st_ix4 ?_
  | with_reducible refine st_add_pp (by walk_at "side") ?_ | with_reducible refine st_add_p1 (by walk_at "side") ?_ | with_reducible refine st_add_1p (by walk_at "side") ?_
  | with_reducible refine st_add ?_ | with_reducible refine st_sub ?_ | with_reducible refine st_iadd ?_ | with_reducible refine st_neg ?_
  | with_reducible refine st_len_p ?_ | with_reducible refine st_len_lp ?_ | with_reducible refine st_len_rp ?_ | with_reducible refine st_len_t ?_ | with_reducible refine st_len_l ?_
  | with_reducible refine st_add_t (by walk_at "side") ?_ | with_reducible refine st_add_l (by walk_at "side") ?_ | with_reducible refine st_add_s (by walk_at "side") ?_
  | with_reducible refine st_tru_bl ?_ | with_reducible refine st_tru_int ?_ | with_reducible refine st_tru_tup ?_ | with_reducible refine st_tru_lst ?_ | with_reducible refine st_tru_non ?_
  | with_reducible refine st_at (by assumption) ?_ | with_reducible refine st_atl (by assumption) ?_
  | with_reducible refine st_iteT ?_ | with_reducible refine st_iteF ?_ | with_reducible refine st_not ?_
  | with_reducible refine st_lt ?_ | with_reducible refine st_le ?_ | with_reducible refine st_gt ?_ | with_reducible refine st_ge ?_ | with_reducible refine st_eqi ?_ | with_reducible refine st_nei ?_ | with_reducible refine st_eqs ?_ | with_reducible refine st_nes ?_ | with_reducible refine st_eqb ?_
  | with_reducible refine st_isn_non ?_ | with_reducible refine st_isn_int ?_ | with_reducible refine st_isn_tup ?_ | with_reducible refine st_isn_str ?_ | with_reducible refine st_isn_bl ?_
  | with_reducible refine st_isnt_non ?_ | with_reducible refine st_isnt_int ?_ | with_reducible refine st_isnt_tup ?_ | with_reducible refine st_isnt_str ?_
  | with_reducible refine st_int ?_ | with_reducible refine st_intb ?_ | with_reducible refine st_abs ?_ | with_reducible refine st_min2 ?_ | with_reducible refine st_max2 ?_
  | with_reducible refine st_tup_l ?_ | with_reducible refine st_tup_t ?_ | with_reducible refine st_lst_t ?_ | with_reducible refine st_lst_l ?_
  | with_reducible refine st_sl_from ?_ | with_reducible refine st_sl_to ?_
  | with_reducible refine st_lx0 ?_ | with_reducible refine st_lx1 ?_ | with_reducible refine st_lx2 ?_ | with_reducible refine st_lx3 ?_
  | with_reducible refine st_mod (by walk_at "side") ?_ | with_reducible refine st_div (by walk_at "side") ?_ | with_reducible refine st_mul (by walk_at "side") ?_ | with_reducible refine st_mul' (by walk_at "side") ?_
  | with_reducible refine st_isi rfl ?_
  | (with_reducible refine And.intro (Nat.le_of_ble_eq_true rfl) ?_)
  | (refine And.intro (rfl : (_ : Nat) = _) ?_)
  | with_reducible refine st_dT (by walk_at "cond") ?_ | with_reducible refine st_dF (by walk_at "cond") ?_)
local macro_rules | `(tactic| walk_at "hd") => `(tactic| (with_reducible conv => whnf))
local macro_rules | `(tactic| walk_at "run") => `(tactic| ((with_reducible conv => whnf); repeat (walk_at "st"; (with_reducible conv => whnf))))
/-! ### the law's going on till nothing changes -/
theorem rng_at {n j : Nat} {d : D} (h : (rngD 0 n)[j]? = some d) : j < n ∧ d = iD j := by
  unfold rngD at h
  rw [List.getElem?_map] at h
  obtain ⟨i, e, rfl⟩ := Option.map_eq_some_iff.mp h
  obtain ⟨hl, e⟩ := List.getElem?_eq_some_iff.mp e
  rw [List.getElem_range] at e
  subst e
  rw [List.length_range] at hl
  exact ⟨hl, by rw [Int.zero_add]⟩
theorem rng_len (n : Nat) : (rngD 0 n).length = n := by simp [rngD]
theorem down_at {n j : Nat} {hi : Int} {d : D} (h : (downD hi n)[j]? = some d) : j < n ∧ d = .int (hi - j) := by
  unfold downD at h
  rw [List.getElem?_map] at h
  obtain ⟨i, e, rfl⟩ := Option.map_eq_some_iff.mp h
  obtain ⟨hl, e⟩ := List.getElem?_eq_some_iff.mp e
  rw [List.getElem_range] at e
  subst e
  rw [List.length_range] at hl
  exact ⟨hl, rfl⟩
theorem down_len (hi : Int) (n : Nat) : (downD hi n).length = n := by simp [downD]
theorem row_at {c : K9.Code} {w r : Nat} {rows : List Row} (e : c[w]? = some rows) : rowAt c w r = rows[r]? := by unfold rowAt; rw [e]; rfl
/-- where the pass comes to -/
def Pass (c : K9.Code) (ps0 ps : List (Nat × Nat)) (seen : Nat → Nat → Prop) : Prop := (ps = ps0 ∧ ∀ w r, seen w r → ClosedAt c ps0 w r) ∨ ps0.length < ps.length
theorem padd_new {ps : List (Nat × Nat)} {q : Nat × Nat} (h : q ∉ ps) : padd ps q = ps ++ [q] := if_neg h
theorem dget_fd {S : Sto} {A : Addr} {ps : List (Nat × Nat)} {w r : Nat} (e : S A = some (.dT (fdD ps))) : dGetD S (.ref A) (.key [iD w, iD r]) = some (valD (fdD ps) (pk (w, r))) := by
  simp only [dGetD, e, keysOf, keyOf]
  rfl
theorem dget_fd0 {S : Sto} {A : Addr} {ps : List (Nat × Nat)} {w : Nat} (e : S A = some (.dT (fdD ps))) : dGetD S (.ref A) (.key [iD w, .int 0]) = some (valD (fdD ps) (pk (w, 0))) := dget_fd (r := 0) e
def sp_law_ended (x : D) (S : Sto) (Q : DK) : Prop := ∃ c, x = codeD c ∧ WF c ∧ ∀ p ps, S p = none → (∀ w r, (w, r) ∈ ps ↔ E c w r = true) → Q (.ref p) (sup S p (.dT (fdD ps)))
-- _law_ended : 0=code 1=found 2=word 3=at 4=before 5=row 6=one
def rd_law_ended : DTS :=
    (dSeq (dAsg dNewT (dTg (.nm 1)))
    (dSeq (dFor (iRange1 (dCB vLen (dCons (dVar 0) dNil))) (dTg (.nm 2)) (dFor (iRange1 (dCB vLen (dCons (dOp vIx (dVar 0) (dVar 2)) dNil))) (dTg (.nm 3)) (dIf (dTest (dOp vEq (dOp vIx (dOp vIx (dOp vIx (dVar 0) (dVar 2)) (dVar 3)) (dC (.int 0))) (dC (.str "return")))) (dDPut (dVar 1) (dKeyT (dCons (dVar 2) (dCons (dVar 3) dNil))) (dC (.bl true))) dNext)))
    (dSeq (dAsg (dUn vNeg (dC (.int 1))) (dTg (.nm 4)))
    (dSeq (dWhile (dTest (dOp vGt (dCB vLenT (dCons (dVar 1) dNil)) (dVar 4))) (dSeq (dAsg (dCB vLenT (dCons (dVar 1) dNil)) (dTg (.nm 4)))
    (dFor (iRange1 (dCB vLen (dCons (dVar 0) dNil))) (dTg (.nm 2)) (dFor (iDown (dOp vSub (dCB vLen (dCons (dOp vIx (dVar 0) (dVar 2)) dNil)) (dC (.int 1))) (dUn vNeg (dC (.int 1))) (dUn vNeg (dC (.int 1)))) (dTg (.nm 3)) (dSeq (dAsg (dOp vIx (dOp vIx (dVar 0) (dVar 2)) (dVar 3)) (dTg (.nm 5)))
    (dIf (dAnd (dTest (dDNotIn (dKeyT (dCons (dVar 2) (dCons (dVar 3) dNil))) (dVar 1))) (dTest (dOp vGt (dCB vLen (dCons (dLc (iTupD (dCall (a1 sp_law_leads) (dCons (dVar 5) dNil))) (dTg (.nm 6)) (dTest (dDIn (dKeyT (dCons (dVar 2) (dCons (dVar 6) dNil))) (dVar 1))) (dVar 6) [6]) dNil)) (dC (.int 0))))) (dIf (dOr (dTest (dOp vNe (dOp vIx (dVar 5) (dC (.int 0))) (dC (.str "call")))) (dTest (dDIn (dKeyT (dCons (dOp vIx (dVar 5) (dC (.int 1))) (dCons (dC (.int 0)) dNil))) (dVar 1)))) (dDPut (dVar 1) (dKeyT (dCons (dVar 2) (dCons (dVar 3) dNil))) (dC (.bl true))) dNext) dNext))))))
    (dRet (dVar 1))))))
theorem nx_filter (ps : List (Nat × Nat)) (w : Nat) (l : List Nat) : (0 < ((l.filter fun n => decide ((w, n) ∈ ps)).length)) ↔ ∃ n ∈ l, (w, n) ∈ ps := by
  rw [List.length_pos_iff_exists_mem]
  constructor
  · rintro ⟨n, h⟩
    obtain ⟨h1, h2⟩ := List.mem_filter.mp h
    exact ⟨n, h1, of_decide_eq_true h2⟩
  · rintro ⟨n, h1, h2⟩
    exact ⟨n, List.mem_filter.mpr ⟨h1, decide_eq_true h2⟩⟩
theorem fm_filter {l : List Nat} {p : Nat → Bool} : (List.range l.length).filterMap (fun j => (l[j]?).bind fun n => if p n = true then some (iD n) else none) = (l.filter p).map iD := by
  have h : (List.range l.length).filterMap (fun j => (l[j]?).bind fun n => if p n = true then some (iD n) else none) = l.filterMap fun n => if p n = true then some (iD n) else none := by
    rw [show (List.range l.length).filterMap (fun j => (l[j]?).bind fun n => if p n = true then some (iD n) else none) = ((List.range l.length).map fun j => l[j]?).filterMap (fun o => o.bind fun n => if p n = true then some (iD n) else none) by rw [List.filterMap_map]; rfl]
    have e : ((List.range l.length).map fun j => l[j]?) = l.map some := by
      have := range_map l id
      simpa using this
    rw [e, List.filterMap_map]
    rfl
  rw [h]
  clear h
  induction l with
  | nil => rfl
  | cons x l ih =>
    rw [List.filterMap_cons, List.filter_cons]
    by_cases e : p x = true
    · simp [e, ih]
    · simp [e, ih]
theorem leads_nexts {ps : List (Nat × Nat)} {w : Nat} {row : Row} (hr : row ≠ .ret) : leads (mem2 ps) w row = true ↔ (∃ n ∈ row.nexts, (w, n) ∈ ps) ∧ ∀ p n, row = .call p n → (p, 0) ∈ ps := by
  cases row with
  | ret => exact absurd rfl hr
  | deed a b n =>
    simp only [leads, mem2, decide_eq_true_eq, Row.nexts, List.mem_singleton, exists_eq_left]
    exact ⟨fun h => ⟨h, fun _ _ e => by cases e⟩, fun h => h.1⟩
  | choose l =>
    simp only [leads, mem2, List.any_eq_true, decide_eq_true_eq, Row.nexts]
    exact ⟨fun h => ⟨h, fun _ _ e => by cases e⟩, fun h => h.1⟩
  | call p n =>
    simp only [leads, mem2, Bool.and_eq_true, decide_eq_true_eq, Row.nexts, List.mem_singleton, exists_eq_left]
    exact ⟨fun h => ⟨h.2, fun _ _ e => by cases e; exact h.1⟩, fun h => ⟨h.2 p n rfl, h.1⟩⟩
theorem rd_law_ended_ok : ∀ ds S P, (a1 sp_law_ended) ds S P → rd_law_ended (DEnds.of P) (dstart ["code", "found", "word", "at", "before", "row", "one"] ds) S := by
  intro ds S P h
  rcases ds with _ | ⟨x, _ | ⟨y, ds⟩⟩ <;> first | exact (h : False).elim | skip
  obtain ⟨c, rfl, wf, q⟩ := (h : sp_law_ended x S P)
  unfold rd_law_ended
  have lc : c.length ≤ 100 := wf.1
  walk_at "run"
  intro p hp
  walk_at "run"
  rw [List.length_map]
  refine ⟨by omega, by omega, ?_⟩
  rw [Int.toNat_natCast]
  -- the returns
  refine forL_inv (fun i δ S' => ∃ (ps : List (Nat × Nat)) (x2 x3 : Option D), S' = sup S p (.dT (fdD ps)) ∧ FD c ps ∧ (∀ w r, w < i → rowAt c w r = some .ret → (w, r) ∈ ps) ∧
    δ = [some (codeD c), some (.ref p), x2, x3, none, none, none]) (fun _ _ _ _ => True.intro) _ 0 _ _ ⟨[], none, none, rfl, ⟨.nil, fun _ _ h => by cases h⟩, fun _ _ h => absurd h (Nat.not_lt_zero _), rfl⟩ ?_ ?_
  · rintro w d _ _ hj ⟨ps, x2, x3, rfl, fd, rt, rfl⟩ D2 hrt _ hnx _
    obtain ⟨hw, rfl⟩ := rng_at hj
    have e1 := List.getElem?_eq_getElem hw
    have lr := (wf.2 _ (List.getElem_mem hw)).2.1
    generalize c[w] = rows at e1 lr
    have e3 : (c.map fun rows => D.tup (rows.map rowD))[w]? = some (.tup (rows.map rowD)) := by rw [List.getElem?_map, e1]; rfl
    rw [Nat.zero_add] at rt hnx
    walk_at "run"
    rw [List.length_map]
    refine ⟨by omega, by omega, ?_⟩
    rw [Int.toNat_natCast]
    refine forL_inv (fun i δ S' => ∃ (ps : List (Nat × Nat)) (x3 : Option D), S' = sup S p (.dT (fdD ps)) ∧ FD c ps ∧ (∀ w' r, w' < w ∨ (w' = w ∧ r < i) → rowAt c w' r = some .ret → (w', r) ∈ ps) ∧
      δ = [some (codeD c), some (.ref p), some (iD w), x3, none, none, none]) (fun _ _ _ _ => True.intro) _ 0 _ _ ⟨ps, x3, rfl, fd, fun w' r h => rt w' r (by omega), rfl⟩ ?_ ?_
    · rintro r d _ _ hj2 ⟨ps, x3, rfl, fd, rt, rfl⟩ D3 hrt3 _ hnx3 _
      obtain ⟨hr, rfl⟩ := rng_at hj2
      have e2 := List.getElem?_eq_getElem hr
      generalize rows[r] = row at e2
      have e4 : (rows.map rowD)[r]? = some (rowD row) := by rw [List.getElem?_map, e2]; rfl
      have er : rowAt c w r = some row := by rw [row_at e1, e2]
      have lp := fd.len wf
      rw [Nat.zero_add] at rt hnx3
      walk_at "run"
      have skip : row ≠ .ret → ∀ w' r', w' < w ∨ (w' = w ∧ r' < r + 1) → rowAt c w' r' = some .ret → (w', r') ∈ ps := fun hne w' r' h e => by
        by_cases z : w' = w ∧ r' = r
        · obtain ⟨rfl, rfl⟩ := z
          rw [er] at e
          cases e
          exact absurd rfl hne
        · exact rt w' r' (by omega) e
      cases row with
      | ret =>
        simp only [rowD]
        walk_at "run"
        refine st_dput sup_same (show ps.length < _ by rw [sizeLine_val]; omega) ?_
        rw [sup_sup]
        refine hnx3 _ _ ⟨_, _, rfl, fd.add (by rw [E_eq er]; rfl), fun w' r' h e => ?_, rfl⟩
        by_cases z : w' = w ∧ r' = r
        · obtain ⟨rfl, rfl⟩ := z
          exact padd_mem
        · exact padd_sub (rt w' r' (by omega) e)
      | deed a b n =>
        have sk := skip (by simp)
        simp only [rowD]
        walk_at "run"
        exact hnx3 _ _ ⟨_, _, rfl, fd, sk, rfl⟩
      | call t n =>
        have sk := skip (by simp)
        simp only [rowD]
        walk_at "run"
        exact hnx3 _ _ ⟨_, _, rfl, fd, sk, rfl⟩
      | choose l =>
        have sk := skip (by simp)
        simp only [rowD]
        walk_at "run"
        exact hnx3 _ _ ⟨_, _, rfl, fd, sk, rfl⟩
    · rintro _ _ ⟨ps, x3, rfl, fd, rt, rfl⟩
      rw [rng_len, Nat.zero_add] at rt
      refine hnx _ _ ⟨ps, _, _, rfl, fd, fun w' r h e => ?_, rfl⟩
      by_cases z : w' < w
      · exact rt w' r (.inl z) e
      · have : w' = w := by omega
        subst this
        refine rt w' r (.inr ⟨rfl, ?_⟩) e
        rw [row_at e1] at e
        exact (List.getElem?_eq_some_iff.mp e).1
  · rintro _ _ ⟨ps, x2, x3, rfl, fd, rt, rfl⟩
    rw [rng_len, Nat.zero_add] at rt
    have rets : Rets c ps := fun w r e => rt w r (by
      obtain ⟨rows, e1, e2⟩ := Option.bind_eq_some_iff.mp e
      exact (List.getElem?_eq_some_iff.mp e1).1) e
    clear rt
    walk_at "run"
    -- the laps
    refine ⟨10002, whileN_inv (fun n δ S' => ∃ (ps : List (Nat × Nat)) (b : Int) (x2 x3 x5 x6 : Option D), (n : Int) + b ≥ 10000 ∧ -1 ≤ b ∧ S' = sup S p (.dT (fdD ps)) ∧ FD c ps ∧ Rets c ps ∧ (b < ps.length ∨ (b = ps.length ∧ ∀ w r, ClosedAt c ps w r)) ∧
      δ = [some (codeD c), some (.ref p), x2, x3, some (.int b), x5, x6]) ?_ _ _ _ ⟨ps, -1, x2, x3, none, none, by omega, by omega, rfl, fd, rets, .inl (by omega), rfl⟩⟩
    clear rets fd
    rintro n _ _ ⟨ps, b, x2, x3, x5, x6, hn, hb, rfl, fd, rets, hc, rfl⟩ D2 hrt _ hnx _
    have lp := fd.len wf
    walk_at "run"
    refine st_lenT sup_same ?_
    walk_at "run"
    by_cases z : b < (ps.length : Int)
    · walk_at "run"
      refine st_lenT sup_same ?_
      walk_at "run"
      rw [List.length_map]
      refine ⟨by omega, by omega, ?_⟩
      rw [Int.toNat_natCast]
      obtain ⟨n', rfl⟩ : ∃ n', n = n' + 1 := ⟨n - 1, by omega⟩
      refine forL_inv (fun i δ S' => ∃ (ps' : List (Nat × Nat)) (x2 x3 x5 x6 : Option D), S' = sup S p (.dT (fdD ps')) ∧ FD c ps' ∧ Rets c ps' ∧ Pass c ps ps' (fun w r => w < i) ∧
        δ = [some (codeD c), some (.ref p), x2, x3, some (.int ps.length), x5, x6]) (fun _ _ _ _ => True.intro) _ 0 _ _ ⟨ps, x2, x3, x5, x6, rfl, fd, rets, .inl ⟨rfl, fun w r h => absurd h (Nat.not_lt_zero _)⟩, rfl⟩ ?_ ?_
      · rintro w d _ _ hj ⟨ps', x2, x3, x5, x6, rfl, fd, rets, pa, rfl⟩ D3 hrt3 _ hnx3 _
        obtain ⟨hw, rfl⟩ := rng_at hj
        have e1 := List.getElem?_eq_getElem hw
        have lr := (wf.2 _ (List.getElem_mem hw)).2.1
        have ro := (wf.2 _ (List.getElem_mem hw)).2.2
        generalize c[w] = rows at e1 lr ro
        have e3 : (c.map fun rows => D.tup (rows.map rowD))[w]? = some (.tup (rows.map rowD)) := by rw [List.getElem?_map, e1]; rfl
        rw [Nat.zero_add] at pa hnx3
        walk_at "run"
        rw [List.length_map]
        refine ⟨rfl, ⟨by omega, by omega, by omega, by omega⟩, ?_⟩
        rw [show ((rows.length : Int) - 1 - -1).toNat = rows.length by omega]
        refine forL_inv (fun i δ S' => ∃ (ps' : List (Nat × Nat)) (x3 x5 x6 : Option D), S' = sup S p (.dT (fdD ps')) ∧ FD c ps' ∧ Rets c ps' ∧ Pass c ps ps' (fun w' r => w' < w ∨ (w' = w ∧ rows.length ≤ r + i)) ∧
          δ = [some (codeD c), some (.ref p), some (iD w), x3, some (.int ps.length), x5, x6]) (fun _ _ _ _ => True.intro) _ 0 _ _ ⟨ps', x3, x5, x6, rfl, fd, rets, ?_, rfl⟩ ?_ ?_
        · rcases pa with ⟨h1, h2⟩ | h1
          · refine .inl ⟨h1, fun w' r h => ?_⟩
            rcases h with h | ⟨rfl, h⟩
            · exact h2 w' r h
            · intro row e
              rw [row_at e1] at e
              have := (List.getElem?_eq_some_iff.mp e).1
              omega
          · exact .inr h1
        · rintro j d _ _ hj2 ⟨ps', x3, x5, x6, rfl, fd, rets, pa, rfl⟩ D4 hrt4 _ hnx4 _
          obtain ⟨hr, rfl⟩ := down_at hj2
          obtain ⟨r, hr2⟩ : ∃ r, r + j + 1 = rows.length := ⟨rows.length - 1 - j, by omega⟩
          have ei : (rows.length : Int) - 1 - (j : Int) = (r : Int) := by omega
          rw [ei]
          have hr' : r < rows.length := by omega
          have e2 := List.getElem?_eq_getElem hr'
          have rok := ro _ (List.getElem_mem hr')
          generalize rows[r] = row at e2 rok
          have e4 : (rows.map rowD)[r]? = some (rowD row) := by rw [List.getElem?_map, e2]; rfl
          have er : rowAt c w r = some row := by rw [row_at e1, e2]
          have lp' := fd.len wf
          rw [Nat.zero_add] at pa hnx4
          -- the pass goes on where nothing is put in
          have stay : ClosedAt c ps' w r → Pass c ps ps' (fun w' r' => w' < w ∨ (w' = w ∧ rows.length ≤ r' + (j + 1))) := fun cl => by
            rcases pa with ⟨h1, h2⟩ | h1
            · subst h1
              refine .inl ⟨rfl, fun w' r' h => ?_⟩
              by_cases y : w' = w ∧ r' = r
              · obtain ⟨rfl, rfl⟩ := y
                exact cl
              · exact h2 w' r' (by omega)
            · exact .inr h1
          walk_at "run"
          refine ⟨_, dget_fd sup_same, ?_⟩
          rw [val_fd]
          walk_at "run"
          by_cases m : (w, r) ∈ ps'
          · rw [decide_eq_true m]
            walk_at "run"
            exact hnx4 _ _ ⟨_, _, _, _, rfl, fd, rets, stay fun _ _ _ => m, rfl⟩
          · rw [decide_eq_false m]
            walk_at "run"
            have hne : row ≠ .ret := fun z => m (rets w r (by rw [er, z]))
            refine use_leads ?_
            walk_at "run"
            have nl : row.nexts.length ≤ 100 := by
              cases row with
              | ret => exact Nat.zero_le _
              | deed a b n => show 1 ≤ 100; omega
              | call t n => show 1 ≤ 100; omega
              | choose l => exact rok.1
            refine lcL_0 trivial (fun i => (row.nexts[i]?).bind fun n => if decide ((w, n) ∈ ps') = true then some (iD n) else none) (by rw [List.length_map, sizeLine_val]; omega) (fun i d e P' N zz => ?_) ?_
            · rw [List.getElem?_map] at e
              obtain ⟨n, g, rfl⟩ := Option.map_eq_some_iff.mp e
              rw [g] at zz
              simp only [Option.bind_some] at zz
              walk_at "run"
              refine ⟨_, dget_fd sup_same, ?_⟩
              rw [val_fd]
              walk_at "run"
              by_cases y : (w, n) ∈ ps'
              · rw [decide_eq_true y] at zz ⊢
                walk_at "run"
                exact zz
              · rw [decide_eq_false y] at zz ⊢
                walk_at "run"
                exact zz
            rw [List.length_map, fm_filter (p := fun n => decide ((w, n) ∈ ps'))]
            have nf := nx_filter ps' w row.nexts
            have ln := leads_nexts (ps := ps') (w := w) hne
            walk_at "run"
            rw [List.length_map]
            walk_at "run"
            have put : (∃ n ∈ row.nexts, (w, n) ∈ ps') → (∀ t n, row = .call t n → (t, 0) ∈ ps') → ∀ y5 y6, D4.nx [some (codeD c), some (.ref p), some (iD w), some (iD r), some (.int ps.length), y5, y6] (sup S p (.dT (fdD (padd ps' (w, r))))) := fun h1 h2 y5 y6 => by
              have le := ln.mpr ⟨h1, h2⟩
              refine hnx4 _ _ ⟨_, _, _, _, rfl, fd.add ?_, fun w' r' e => padd_sub (rets w' r' e), .inr ?_, rfl⟩
              · rw [E_eq er]
                exact leads_mono (fun w' r' h => fd.ok w' r' (of_decide_eq_true h)) le
              · rw [padd_new m, List.length_append]
                rcases pa with ⟨h1, _⟩ | h1
                · rw [h1]; simp
                · simp only [List.length_cons, List.length_nil]; omega
            by_cases y : (0 : Int) < (((row.nexts.filter fun n => decide ((w, n) ∈ ps')).length : Nat) : Int)
            · have hx := nf.mp (by omega)
              walk_at "run"
              cases row with
              | ret => exact absurd rfl hne
              | deed a b n =>
                have pt := put hx (fun _ _ e => by cases e)
                simp only [rowD]
                walk_at "run"
                rw [if_pos trivial]
                walk_at "run"
                refine st_dput sup_same (show ps'.length < _ by rw [sizeLine_val]; omega) ?_
                rw [sup_sup]
                exact pt _ _
              | choose l =>
                have pt := put hx (fun _ _ e => by cases e)
                simp only [rowD]
                walk_at "run"
                rw [if_pos trivial]
                walk_at "run"
                refine st_dput sup_same (show ps'.length < _ by rw [sizeLine_val]; omega) ?_
                rw [sup_sup]
                exact pt _ _
              | call t n =>
                simp only [rowD]
                walk_at "run"
                refine ⟨_, dget_fd0 sup_same, ?_⟩
                rw [val_fd]
                walk_at "run"
                by_cases y2 : (t, 0) ∈ ps'
                · have pt := put hx (fun _ _ e => by cases e; exact y2)
                  rw [decide_eq_true y2]
                  walk_at "run"
                  refine st_dput sup_same (show ps'.length < _ by rw [sizeLine_val]; omega) ?_
                  rw [sup_sup]
                  exact pt _ _
                · rw [decide_eq_false y2]
                  walk_at "run"
                  refine hnx4 _ _ ⟨_, _, _, _, rfl, fd, rets, stay fun row' e le => ?_, rfl⟩
                  rw [er] at e
                  cases e
                  exact absurd ((ln.mp le).2 t n rfl) y2
            · walk_at "run"
              refine hnx4 _ _ ⟨_, _, _, _, rfl, fd, rets, stay fun row' e le => ?_, rfl⟩
              rw [er] at e
              cases e
              have := nf.mpr (ln.mp le).1
              omega
        · rintro _ _ ⟨ps', x3, x5, x6, rfl, fd, rets, pa, rfl⟩
          rw [down_len, Nat.zero_add] at pa
          refine hnx3 _ _ ⟨ps', _, _, _, _, rfl, fd, rets, ?_, rfl⟩
          rcases pa with ⟨h1, h2⟩ | h1
          · refine .inl ⟨h1, fun w' r h => h2 w' r (by omega)⟩
          · exact .inr h1
      · rintro _ _ ⟨ps', x2, x3, x5, x6, rfl, fd, rets, pa, rfl⟩
        rw [rng_len, Nat.zero_add] at pa
        refine hnx n' _ _ rfl ⟨ps', _, _, _, _, _, by omega, by omega, rfl, fd, rets, ?_, rfl⟩
        rcases pa with ⟨h1, h2⟩ | h1
        · subst h1
          refine .inr ⟨rfl, fun w r => ?_⟩
          by_cases y : w < c.length
          · exact h2 w r y
          · intro row e
            obtain ⟨rows, g1, g2⟩ := Option.bind_eq_some_iff.mp e
            exact absurd (List.getElem?_eq_some_iff.mp g1).1 y
        · exact .inl (by omega)
    · walk_at "run"
      rcases hc with hc | ⟨_, cl⟩
      · exact absurd hc z
      · exact .of (q p ps hp (has_E fd cl))
theorem use_law_ended {c : K9.Code} {S : Sto} {Q : DK} (wf : WF c) (q : ∀ p ps, S p = none → (∀ w r, (w, r) ∈ ps ↔ E c w r = true) → Q (.ref p) (sup S p (.dT (fdD ps)))) : sp_law_ended (codeD c) S Q := ⟨c, rfl, wf, q⟩
end L3

set_option Elab.async false
set_option maxRecDepth 100000
set_option linter.all false
set_option maxHeartbeats 4000000
namespace L3
open PySem L2 L3.K9
local macro_rules | `(tactic| walk_at "cond") => `(tactic| first | omega | (simp only [List.length_append, List.length_cons, List.length_nil, List.length_take, List.length_drop, List.length_map, List.length_reverse]; omega) | rfl | decide)
local macro_rules | `(tactic| walk_at "side") => `(tactic| first | assumption | omega | (simp only [List.length_append, List.length_cons, List.length_nil, List.length_take, List.length_drop, List.length_map, List.length_reverse, sizeLine_val]; omega) | decide)
local macro_rules | `(tactic| walk_at "st") => `(tactic| first
  | with_reducible refine st_ix0 ?_ | with_reducible refine st_ix1 ?_ | with_reducible refine st_ix2 ?_ | with_reducible refine st_ix3 ?_ | with_reducible refine st_ix4 ?_
  | with_reducible refine st_add_pp (by walk_at "side") ?_ | with_reducible refine st_add_p1 (by walk_at "side") ?_ | with_reducible refine st_add_1p (by walk_at "side") ?_
  | with_reducible refine st_add ?_ | with_reducible refine st_sub ?_ | with_reducible refine st_iadd ?_ | with_reducible refine st_neg ?_
  | with_reducible refine st_len_p ?_ | with_reducible refine st_len_lp ?_ | with_reducible refine st_len_rp ?_ | with_reducible refine st_len_t ?_ | with_reducible refine st_len_l ?_
  | with_reducible refine st_add_t (by walk_at "side") ?_ | with_reducible refine st_add_l (by walk_at "side") ?_ | with_reducible refine st_add_s (by walk_at "side") ?_
  | with_reducible refine st_tru_bl ?_ | with_reducible refine st_tru_int ?_ | with_reducible refine st_tru_tup ?_ | with_reducible refine st_tru_lst ?_ | with_reducible refine st_tru_non ?_
  | with_reducible refine st_at (by assumption) ?_ | with_reducible refine st_atl (by assumption) ?_
  | with_reducible refine st_iteT ?_ | with_reducible refine st_iteF ?_ | with_reducible refine st_not ?_
  | with_reducible refine st_lt ?_ | with_reducible refine st_le ?_ | with_reducible refine st_gt ?_ | with_reducible refine st_ge ?_ | with_reducible refine st_eqi ?_ | with_reducible refine st_nei ?_ | with_reducible refine st_eqs ?_ | with_reducible refine st_nes ?_ | with_reducible refine st_eqb ?_
  | with_reducible refine st_isn_non ?_ | with_reducible refine st_isn_int ?_ | with_reducible refine st_isn_tup ?_ | with_reducible refine st_isn_str ?_ | with_reducible refine st_isn_bl ?_
  | with_reducible refine st_isnt_non ?_ | with_reducible refine st_isnt_int ?_ | with_reducible refine st_isnt_tup ?_ | with_reducible refine st_isnt_str ?_
  | with_reducible refine st_int ?_ | with_reducible refine st_intb ?_ | with_reducible refine st_abs ?_ | with_reducible refine st_min2 ?_ | with_reducible refine st_max2 ?_
  | with_reducible refine st_tup_l ?_ | with_reducible refine st_tup_t ?_ | with_reducible refine st_lst_t ?_ | with_reducible refine st_lst_l ?_
  | with_reducible refine st_sl_from ?_ | with_reducible refine st_sl_to ?_
  | with_reducible refine st_lx0 ?_ | with_reducible refine st_lx1 ?_ | with_reducible refine st_lx2 ?_ | with_reducible refine st_lx3 ?_
  | with_reducible refine st_mod (by walk_at "side") ?_ | with_reducible refine st_div (by walk_at "side") ?_ | with_reducible refine st_mul (by walk_at "side") ?_ | with_reducible refine st_mul' (by walk_at "side") ?_
  | with_reducible refine st_isi rfl ?_
  | (with_reducible refine And.intro (Nat.le_of_ble_eq_true rfl) ?_)
  | (refine And.intro (rfl : (_ : Nat) = _) ?_)
  | with_reducible refine st_dT (by walk_at "cond") ?_ | with_reducible refine st_dF (by walk_at "cond") ?_)
local macro_rules | `(tactic| walk_at "hd") => `(tactic| (with_reducible conv => whnf))
local macro_rules | `(tactic| walk_at "run") => `(tactic| ((with_reducible conv => whnf); repeat (walk_at "st"; (with_reducible conv => whnf))))
/-! ### the law's own met and needed -/
theorem use_law_leads {row : Row} {S : Sto} {Q : DK} (q : Q (.tup (row.nexts.map iD)) S) : sp_law_leads (rowD row) S Q := ⟨row, rfl, q⟩
theorem st_tag {row : Row} {S : Sto} {Q : DK} (hc : ¬ ∃ t n, row = .call t n) (h : ∀ s : Str, s ≠ "call" → Q (.str s) S) : vIx (rowD row) (.int 0) S Q := by
  cases row with
  | ret => exact h "return" (by decide)
  | deed a b n => exact h "deed" (by decide)
  | call t n => exact absurd ⟨t, n, rfl⟩ hc
  | choose l => exact h "choose" (by decide)
theorem ways_not {row : Row} (hc : ¬ ∃ t n, row = .call t n) (f : Nat → Nat → Bool) : K9.ways f row = row.nexts := by
  cases row with
  | call t n => exact absurd ⟨t, n, rfl⟩ hc
  | _ => rfl
theorem mem_E {c : K9.Code} {ps : List (Nat × Nat)} (h : ∀ w r, (w, r) ∈ ps ↔ E c w r = true) (w r : Nat) : decide ((w, r) ∈ ps) = E c w r := by
  by_cases e : E c w r = true
  · rw [e]; exact decide_eq_true ((h w r).mpr e)
  · rw [Bool.eq_false_iff.mpr e]; exact decide_eq_false fun z => e ((h w r).mp z)
def sp_law_met (x e w : D) (S : Sto) (Q : DK) : Prop := ∃ c A ps i, x = codeD c ∧ e = .ref A ∧ w = iD i ∧ WF c ∧ i < c.length ∧ S A = some (.dT (fdD ps)) ∧ (∀ w r, (w, r) ∈ ps ↔ E c w r = true) ∧ Q (.lst ((metS c i).map iD)) S
-- _law_met : 0=code 1=ended 2=word 3=met 4=at 5=row 6=one
def rd_law_met : DTS :=
    (dSeq (dAsg (dLstM (dCons (dC (.int 0)) dNil)) (dTg (.nm 3)))
    (dSeq (dAsg (dC (.int 0)) (dTg (.nm 4)))
    (dSeq (dWhile (dTest (dOp vLt (dVar 4) (dCB vLen (dCons (dVar 3) dNil)))) (dSeq (dAsg (dOp vIx (dOp vIx (dVar 0) (dVar 2)) (dOp vIx (dVar 3) (dVar 4))) (dTg (.nm 5)))
    (dSeq (dIf (dOr (dTest (dOp vNe (dOp vIx (dVar 5) (dC (.int 0))) (dC (.str "call")))) (dTest (dDIn (dKeyT (dCons (dOp vIx (dVar 5) (dC (.int 1))) (dCons (dC (.int 0)) dNil))) (dVar 1)))) (dFor (iTupD (dCall (a1 sp_law_leads) (dCons (dVar 5) dNil))) (dTg (.nm 6)) (dIf (dTest (dOp (vIn true) (dVar 6) (dVar 3))) (dDrop (dLM vAppend (dVar 3) (dCons (dVar 6) dNil))) dNext)) dNext)
    (dAsg (dOp vAdd (dVar 4) (dC (.int 1))) (dTg (.nm 4))))))
    (dRet (dCB vSortedI (dCons (dVar 3) dNil))))))
theorem rd_law_met_ok : ∀ ds S P, (a3 sp_law_met) ds S P → rd_law_met (DEnds.of P) (dstart ["code", "ended", "word", "met", "at", "row", "one"] ds) S := by
  intro ds S P h
  rcases ds with _ | ⟨x, _ | ⟨e, _ | ⟨w, _ | ⟨y, ds⟩⟩⟩⟩ <;> first | exact (h : False).elim | skip
  obtain ⟨c, A, ps, i, rfl, rfl, rfl, wf, hi, hA, hE, q⟩ := (h : sp_law_met x e w S P)
  unfold rd_law_met
  have e1 := List.getElem?_eq_getElem hi
  obtain ⟨h0, h1, h2⟩ := wf.2 _ (List.getElem_mem hi)
  have er : rowsOf c i = c[i] := by unfold rowsOf; rw [e1]; rfl
  unfold metS metL at q
  rw [er] at q
  generalize c[i] = rows at e1 h0 h1 h2 q
  have e3 : (c.map fun rows => D.tup (rows.map rowD))[i]? = some (.tup (rows.map rowD)) := by rw [List.getElem?_map, e1]; rfl
  walk_at "run"
  intro p hp
  have hAp : A ≠ p := fun z => by subst z; rw [hp] at hA; cases hA
  walk_at "run"
  refine ⟨rows.length + 1, whileN_inv (fun n δ S' => ∃ (place : Nat) (found : List Nat) (x5 x6 : Option D), n + place = rows.length ∧ Met rows (E c) place found (metGo rows (E c) (rows.length + 1) 0 [0]) ∧
    S' = sup S p (.lst (found.map iD)) ∧ δ = [some (codeD c), some (.ref A), some (iD i), some (.ref p), some (iD place), x5, x6]) ?_ _ _ _ ⟨0, [0], none, none, by omega, Met.start h0, rfl, rfl⟩⟩
  rintro n _ _ ⟨place, found, x5, x6, hn, mt, rfl, rfl⟩ D2 hrt _ hnx _
  have ml := mt.ok.len
  have ml2 := mt.le
  walk_at "run"
  refine st_len_r sup_same ?_
  rw [List.length_map]
  walk_at "run"
  by_cases z : (place : Int) < (found.length : Int)
  · walk_at "run"
    have hlt : place < found.length := by omega
    have g := List.getElem?_eq_getElem hlt
    have hr : found[place] < rows.length := mt.ok.2 _ (List.getElem_mem hlt)
    generalize found[place] = r at g hr
    have g2 := List.getElem?_eq_getElem hr
    have ro := h2 _ (List.getElem_mem hr)
    generalize rows[r] = row at g2 ro
    have g4 : (rows.map rowD)[r]? = some (rowD row) := by rw [List.getElem?_map, g2]; rfl
    refine st_atr sup_same (d := iD r) (by rw [List.getElem?_map, g]; rfl) ?_
    walk_at "run"
    have mt2 := mt.next g g2 ro
    have wl := ro.ways (E c)
    by_cases hc : ∃ t n, row = .call t n
    · obtain ⟨t, m0, hrow⟩ := hc
      rw [show rowD row = .tup [.str "call", iD t, iD m0] by rw [hrow]; rfl]
      walk_at "run"
      refine ⟨_, dget_fd0 (by rw [sup_ne hAp]; exact hA), ?_⟩
      rw [val_fd, mem_E hE]
      have hww : K9.ways (E c) row = if E c t 0 then row.nexts else [] := by rw [hrow]; rfl
      by_cases b : E c t 0 = true
      · have hw : K9.ways (E c) row = row.nexts := by rw [hww, if_pos b]
        rw [b, ← show rowD row = .tup [.str "call", iD t, iD m0] by rw [hrow]; rfl]
        walk_at "run"
        walk_at "run"
        refine use_law_leads ?_
        walk_at "run"
        refine forL_inv (fun t δ S' => S' = sup S p (.lst ((addAll found (row.nexts.take t)).map iD)) ∧ ∃ x6, δ = [some (codeD c), some (.ref A), some (iD i), some (.ref p), some (iD place), some (rowD row), x6]) (fun _ _ _ _ => True.intro) _ 0 _ _ ⟨rfl, x6, rfl⟩ ?_ ?_
        · rintro j d _ _ hj ⟨rfl, x6, rfl⟩ D3 hrt3 _ hnx3 _
          rw [List.getElem?_map] at hj
          obtain ⟨x, g3, rfl⟩ := Option.map_eq_some_iff.mp hj
          rw [Nat.zero_add] at hnx3 ⊢
          have at_ := addAll_take (l := found) row.nexts j x g3
          have bd : (addAll found (row.nexts.take j)).length ≤ rows.length := by
            exact Ok.len (ok_addAll mt.ok fun y hy => wl y (by rw [hw]; exact List.mem_of_mem_take hy))
          walk_at "run"
          refine st_notin_r sup_same ?_
          walk_at "run"
          by_cases m : x ∈ addAll found (row.nexts.take j)
          · rw [if_pos m] at at_
            rw [decide_eq_false (by simpa using m)]
            walk_at "run"
            exact hnx3 _ _ ⟨by rw [at_], _, rfl⟩
          · rw [if_neg m] at at_
            rw [decide_eq_true m]
            walk_at "run"
            rw [isSeq_ref]
            refine ⟨⟨_, sup_same⟩, ?_⟩
            walk_at "run"
            refine st_append sup_same (by rw [List.length_map, sizeLine_val]; omega) ?_
            walk_at "run"
            rw [sup_sup]
            exact hnx3 _ _ ⟨by rw [at_, List.map_append]; rfl, _, rfl⟩
        · rintro _ _ ⟨rfl, x6, rfl⟩
          rw [List.length_map, Nat.zero_add, List.take_length]
          rw [hw] at mt2
          walk_at "run"
          obtain ⟨n', rfl⟩ : ∃ n', n = n' + 1 := ⟨n - 1, by omega⟩
          exact hnx n' _ _ rfl ⟨place + 1, _, _, _, by omega, mt2, rfl, rfl⟩
      · rw [Bool.eq_false_iff.mpr b]
        rw [hww, if_neg b] at mt2
        walk_at "run"
        obtain ⟨n', rfl⟩ : ∃ n', n = n' + 1 := ⟨n - 1, by omega⟩
        exact hnx n' _ _ rfl ⟨place + 1, _, _, _, by omega, mt2, rfl, rfl⟩
    · have hw := ways_not hc (E c)
      refine st_tag hc fun s hs => ?_
      walk_at "run"
      walk_at "run"
      refine use_law_leads ?_
      walk_at "run"
      refine forL_inv (fun t δ S' => S' = sup S p (.lst ((addAll found (row.nexts.take t)).map iD)) ∧ ∃ x6, δ = [some (codeD c), some (.ref A), some (iD i), some (.ref p), some (iD place), some (rowD row), x6]) (fun _ _ _ _ => True.intro) _ 0 _ _ ⟨rfl, x6, rfl⟩ ?_ ?_
      · rintro j d _ _ hj ⟨rfl, x6, rfl⟩ D3 hrt3 _ hnx3 _
        rw [List.getElem?_map] at hj
        obtain ⟨x, g3, rfl⟩ := Option.map_eq_some_iff.mp hj
        rw [Nat.zero_add] at hnx3 ⊢
        have at_ := addAll_take (l := found) row.nexts j x g3
        have bd : (addAll found (row.nexts.take j)).length ≤ rows.length := by
          exact Ok.len (ok_addAll mt.ok fun y hy => wl y (by rw [hw]; exact List.mem_of_mem_take hy))
        walk_at "run"
        refine st_notin_r sup_same ?_
        walk_at "run"
        by_cases m : x ∈ addAll found (row.nexts.take j)
        · rw [if_pos m] at at_
          rw [decide_eq_false (by simpa using m)]
          walk_at "run"
          exact hnx3 _ _ ⟨by rw [at_], _, rfl⟩
        · rw [if_neg m] at at_
          rw [decide_eq_true m]
          walk_at "run"
          rw [isSeq_ref]
          refine ⟨⟨_, sup_same⟩, ?_⟩
          walk_at "run"
          refine st_append sup_same (by rw [List.length_map, sizeLine_val]; omega) ?_
          walk_at "run"
          rw [sup_sup]
          exact hnx3 _ _ ⟨by rw [at_, List.map_append]; rfl, _, rfl⟩
      · rintro _ _ ⟨rfl, x6, rfl⟩
        rw [List.length_map, Nat.zero_add, List.take_length]
        rw [hw] at mt2
        walk_at "run"
        obtain ⟨n', rfl⟩ : ∃ n', n = n' + 1 := ⟨n - 1, by omega⟩
        exact hnx n' _ _ rfl ⟨place + 1, _, _, _, by omega, mt2, rfl, rfl⟩
  · walk_at "run"
    have e := mt.done (by omega)
    refine st_sorted_r sup_same ?_
    rw [e]
    exact ⟨_, S, fun a o ha => by rw [sup_ne fun z => by subst z; rw [hp] at ha; cases ha]; exact ha, .refl _, q⟩
theorem use_law_met {c : K9.Code} {A : Addr} {ps : List (Nat × Nat)} {i : Nat} {S : Sto} {Q : DK} (wf : WF c) (hi : i < c.length) (hA : S A = some (.dT (fdD ps))) (hE : ∀ w r, (w, r) ∈ ps ↔ E c w r = true) (q : Q (.lst ((metS c i).map iD)) S) : sp_law_met (codeD c) (.ref A) (iD i) S Q := ⟨c, A, ps, i, rfl, rfl, rfl, wf, hi, hA, hE, q⟩
def sp_law_needed (x e w : D) (S : Sto) (Q : DK) : Prop := ∃ c A ps i, x = codeD c ∧ e = .ref A ∧ w = iD i ∧ WF c ∧ i < c.length ∧ S A = some (.dT (fdD ps)) ∧ (∀ w r, (w, r) ∈ ps ↔ E c w r = true) ∧ Q (.lst ((needS c i).map iD)) S
-- _law_needed : 0=code 1=ended 2=word 3=needed 4=at 5=here 6=spot 7=row
def rd_law_needed : DTS :=
    (dSeq (dAsg (dLstM (dCons (dVar 2) dNil)) (dTg (.nm 3)))
    (dSeq (dAsg (dC (.int 0)) (dTg (.nm 4)))
    (dSeq (dWhile (dTest (dOp vLt (dVar 4) (dCB vLen (dCons (dVar 3) dNil)))) (dSeq (dAsg (dOp vIx (dVar 3) (dVar 4)) (dTg (.nm 5)))
    (dSeq (dFor (iSeq (dCall (a3 sp_law_met) (dCons (dVar 0) (dCons (dVar 1) (dCons (dVar 5) dNil))))) (dTg (.nm 6)) (dSeq (dAsg (dOp vIx (dOp vIx (dVar 0) (dVar 5)) (dVar 6)) (dTg (.nm 7)))
    (dIf (dAnd (dTest (dOp vEq (dOp vIx (dVar 7) (dC (.int 0))) (dC (.str "call")))) (dAnd (dTest (dDIn (dKeyT (dCons (dVar 5) (dCons (dVar 6) dNil))) (dVar 1))) (dTest (dOp (vIn true) (dOp vIx (dVar 7) (dC (.int 1))) (dVar 3))))) (dDrop (dLM vAppend (dVar 3) (dCons (dOp vIx (dVar 7) (dC (.int 1))) dNil))) dNext)))
    (dAsg (dOp vAdd (dVar 4) (dC (.int 1))) (dTg (.nm 4))))))
    (dRet (dCB vSortedI (dCons (dVar 3) dNil))))))
theorem mem_metS (c : K9.Code) (w s : Nat) : s ∈ metS c w ↔ s ∈ metL c (E c) w := (isort_perm _).mem_iff
theorem rd_law_needed_ok : ∀ ds S P, (a3 sp_law_needed) ds S P → rd_law_needed (DEnds.of P) (dstart ["code", "ended", "word", "needed", "at", "here", "spot", "row"] ds) S := by
  intro ds S P h
  rcases ds with _ | ⟨x, _ | ⟨e, _ | ⟨w, _ | ⟨y, ds⟩⟩⟩⟩ <;> first | exact (h : False).elim | skip
  obtain ⟨c, A, ps, i, rfl, rfl, rfl, wf, hi, hA, hE, q⟩ := (h : sp_law_needed x e w S P)
  unfold rd_law_needed
  have lc : c.length ≤ 100 := wf.1
  walk_at "run"
  intro p hp
  have hAp : A ≠ p := fun z => by subst z; rw [hp] at hA; cases hA
  walk_at "run"
  refine ⟨c.length + 1, whileN_inv (fun n δ S' => ∃ (place : Nat) (found : List Nat) (x5 x6 x7 : Option D), n + place = c.length ∧ Ned c (E c) (metS c) i place found ∧
    S' = sup S p (.lst (found.map iD)) ∧ δ = [some (codeD c), some (.ref A), some (iD i), some (.ref p), some (iD place), x5, x6, x7]) ?_ _ _ _ ⟨0, [i], none, none, none, by omega, Ned.start hi, rfl, rfl⟩⟩
  rintro n _ _ ⟨place, found, x5, x6, x7, hn, nd, rfl, rfl⟩ D2 hrt _ hnx _
  have ml := nd.ok.len
  have ml2 := nd.le
  walk_at "run"
  refine st_len_r sup_same ?_
  rw [List.length_map]
  walk_at "run"
  by_cases z : (place : Int) < (found.length : Int)
  · walk_at "run"
    have hlt : place < found.length := by omega
    have g := List.getElem?_eq_getElem hlt
    have hw : found[place] < c.length := nd.ok.2 _ (List.getElem_mem hlt)
    generalize found[place] = w at g hw
    refine st_atr sup_same (d := iD w) (by rw [List.getElem?_map, g]; rfl) ?_
    walk_at "run"
    refine use_law_met wf hw (by rw [sup_ne hAp]; exact hA) hE ?_
    walk_at "run"
    have nd2 := nd.next wf g
    have okm := ok_metL wf (E c) hw
    have e1 := List.getElem?_eq_getElem hw
    have er : rowsOf c w = c[w] := by unfold rowsOf; rw [e1]; rfl
    rw [er] at nd2 okm
    obtain ⟨h0, h1, h2⟩ := wf.2 _ (List.getElem_mem hw)
    have e7 : (c.map fun rows => D.tup (rows.map rowD))[w]? = some (.tup (c[w].map rowD)) := by rw [List.getElem?_map, e1]; rfl
    have pre : ∀ t, (needAdd c[w] (E c) w found ((metS c w).take t)).length ≤ c.length := fun t => by
      have a := needA wf (f := E c) (w := w) ((metS c w).take t) nd.ok
      rw [er] at a
      exact a.ok.len
    have okm' : ∀ s ∈ metS c w, s < c[w].length := fun s hs => okm.2 s ((mem_metS c w s).mp hs)
    generalize metS c w = ss at nd2 pre okm' ⊢
    generalize c[w] = rows at nd2 pre okm' e7
    refine forL_inv (fun t δ S' => S' = sup S p (.lst ((needAdd rows (E c) w found (ss.take t)).map iD)) ∧ ∃ x6 x7, δ = [some (codeD c), some (.ref A), some (iD i), some (.ref p), some (iD place), some (iD w), x6, x7]) (fun _ _ _ _ => True.intro) _ 0 _ _ ⟨rfl, x6, x7, rfl⟩ ?_ ?_
    · rintro j d _ _ hj ⟨rfl, x6, x7, rfl⟩ D3 hrt3 _ hnx3 _
      rw [List.getElem?_map] at hj
      obtain ⟨s, g3, rfl⟩ := Option.map_eq_some_iff.mp hj
      rw [Nat.zero_add] at hnx3 ⊢
      have at_ := needAdd_take (rows := rows) (f := E c) (w := w) (l := found) ss j s g3
      have lj := pre j
      have hs := okm' s (List.mem_of_getElem? g3)
      have g4 := List.getElem?_eq_getElem hs
      generalize rows[s] = row at g4
      have g5 : (rows.map rowD)[s]? = some (rowD row) := by rw [List.getElem?_map, g4]; rfl
      generalize needAdd rows (E c) w found (ss.take j) = fj at at_ lj ⊢
      walk_at "run"
      by_cases hc : ∃ t n, row = .call t n
      · obtain ⟨t, m0, rfl⟩ := hc
        simp only [rowD]
        walk_at "run"
        simp only [g4] at at_
        refine ⟨_, dget_fd (by rw [sup_ne hAp]; exact hA), ?_⟩
        rw [val_fd, mem_E hE]
        by_cases b : E c w s = true
        · rw [b]
          walk_at "run"
          refine st_notin_r sup_same ?_
          walk_at "run"
          by_cases m : t ∈ fj
          · rw [decide_eq_false (by simpa using m)]
            rw [if_neg fun q => q.2 m] at at_
            walk_at "run"
            exact hnx3 _ _ ⟨by rw [at_], _, _, rfl⟩
          · rw [decide_eq_true m]
            rw [if_pos ⟨b, m⟩] at at_
            walk_at "run"
            rw [isSeq_ref]
            refine ⟨⟨_, sup_same⟩, ?_⟩
            walk_at "run"
            refine st_append sup_same (by rw [List.length_map, sizeLine_val]; omega) ?_
            walk_at "run"
            rw [sup_sup]
            exact hnx3 _ _ ⟨by rw [at_, List.map_append]; rfl, _, _, rfl⟩
        · rw [Bool.eq_false_iff.mpr b]
          rw [if_neg fun q => b q.1] at at_
          walk_at "run"
          exact hnx3 _ _ ⟨by rw [at_], _, _, rfl⟩
      · have at2_ : needAdd rows (E c) w found (ss.take (j + 1)) = fj := by
          rw [at_]
          simp only [g4]
          split
          · rename_i h5
            cases h5
            exact absurd ⟨_, _, rfl⟩ hc
          · rfl
        refine st_tag hc fun t hs => ?_
        walk_at "run"
        exact hnx3 _ _ ⟨by rw [at2_], _, _, rfl⟩
    · rintro _ _ ⟨rfl, x6, x7, rfl⟩
      rw [List.length_map, Nat.zero_add, List.take_length]
      walk_at "run"
      obtain ⟨n', rfl⟩ : ∃ n', n = n' + 1 := ⟨n - 1, by omega⟩
      refine hnx n' _ _ rfl ⟨place + 1, _, _, _, _, by omega, nd2, rfl, rfl⟩
  · walk_at "run"
    refine st_sorted_r sup_same ?_
    rw [need_sorted wf hi (mem_metS c) nd.ok (nd.done (by omega))]
    exact ⟨_, S, fun a o ha => by rw [sup_ne fun z => by subst z; rw [hp] at ha; cases ha]; exact ha, .refl _, q⟩
theorem use_law_needed {c : K9.Code} {A : Addr} {ps : List (Nat × Nat)} {i : Nat} {S : Sto} {Q : DK} (wf : WF c) (hi : i < c.length) (hA : S A = some (.dT (fdD ps))) (hE : ∀ w r, (w, r) ∈ ps ↔ E c w r = true) (q : Q (.lst ((needS c i).map iD)) S) : sp_law_needed (codeD c) (.ref A) (iD i) S Q := ⟨c, A, ps, i, rfl, rfl, rfl, wf, hi, hA, hE, q⟩
end L3

set_option Elab.async false
set_option maxRecDepth 100000
set_option linter.all false
set_option maxHeartbeats 4000000
namespace L3
open PySem L2 L3.K9
local macro_rules | `(tactic| walk_at "cond") => `(tactic| first | omega | (simp only [List.length_append, List.length_cons, List.length_nil, List.length_take, List.length_drop, List.length_map, List.length_reverse]; omega) | rfl | decide)
local macro_rules | `(tactic| walk_at "side") => `(tactic| first | assumption | omega | (simp only [List.length_append, List.length_cons, List.length_nil, List.length_take, List.length_drop, List.length_map, List.length_reverse, sizeLine_val]; omega) | decide)
local macro_rules | `(tactic| walk_at "st") => `(tactic| first
  | with_reducible refine st_ix0 ?_ | with_reducible refine st_ix1 ?_ | with_reducible refine st_ix2 ?_ | with_reducible refine st_ix3 ?_ | with_reducible refine st_ix4 ?_
  | with_reducible refine st_add_pp (by walk_at "side") ?_ | with_reducible refine st_add_p1 (by walk_at "side") ?_ | with_reducible refine st_add_1p (by walk_at "side") ?_
  | with_reducible refine st_add ?_ | with_reducible refine st_sub ?_ | with_reducible refine st_iadd ?_ | with_reducible refine st_neg ?_
  | with_reducible refine st_len_p ?_ | with_reducible refine st_len_lp ?_ | with_reducible refine st_len_rp ?_ | with_reducible refine st_len_t ?_ | with_reducible refine st_len_l ?_
  | with_reducible refine st_add_t (by walk_at "side") ?_ | with_reducible refine st_add_l (by walk_at "side") ?_ | with_reducible refine st_add_s (by walk_at "side") ?_
  | with_reducible refine st_tru_bl ?_ | with_reducible refine st_tru_int ?_ | with_reducible refine st_tru_tup ?_ | with_reducible refine st_tru_lst ?_ | with_reducible refine st_tru_non ?_
  | with_reducible refine st_at (by assumption) ?_ | with_reducible refine st_atl (by assumption) ?_
  | with_reducible refine st_iteT ?_ | with_reducible refine st_iteF ?_ | with_reducible refine st_not ?_
  | with_reducible refine st_lt ?_ | with_reducible refine st_le ?_ | with_reducible refine st_gt ?_ | with_reducible refine st_ge ?_ | with_reducible refine st_eqi ?_ | with_reducible refine st_nei ?_ | with_reducible refine st_eqs ?_ | with_reducible refine st_nes ?_ | with_reducible refine st_eqb ?_
  | with_reducible refine st_isn_non ?_ | with_reducible refine st_isn_int ?_ | with_reducible refine st_isn_tup ?_ | with_reducible refine st_isn_str ?_ | with_reducible refine st_isn_bl ?_
  | with_reducible refine st_isnt_non ?_ | with_reducible refine st_isnt_int ?_ | with_reducible refine st_isnt_tup ?_ | with_reducible refine st_isnt_str ?_
  | with_reducible refine st_int ?_ | with_reducible refine st_intb ?_ | with_reducible refine st_abs ?_ | with_reducible refine st_min2 ?_ | with_reducible refine st_max2 ?_
  | with_reducible refine st_tup_l ?_ | with_reducible refine st_tup_t ?_ | with_reducible refine st_lst_t ?_ | with_reducible refine st_lst_l ?_
  | with_reducible refine st_sl_from ?_ | with_reducible refine st_sl_to ?_
  | with_reducible refine st_lx0 ?_ | with_reducible refine st_lx1 ?_ | with_reducible refine st_lx2 ?_ | with_reducible refine st_lx3 ?_
  | with_reducible refine st_mod (by walk_at "side") ?_ | with_reducible refine st_div (by walk_at "side") ?_ | with_reducible refine st_mul (by walk_at "side") ?_ | with_reducible refine st_mul' (by walk_at "side") ?_
  | with_reducible refine st_isi rfl ?_
  | (with_reducible refine And.intro (Nat.le_of_ble_eq_true rfl) ?_)
  | (refine And.intro (rfl : (_ : Nat) = _) ?_)
  | with_reducible refine st_dT (by walk_at "cond") ?_ | with_reducible refine st_dF (by walk_at "cond") ?_)
local macro_rules | `(tactic| walk_at "hd") => `(tactic| (with_reducible conv => whnf))
local macro_rules | `(tactic| walk_at "run") => `(tactic| ((with_reducible conv => whnf); repeat (walk_at "st"; (with_reducible conv => whnf))))
/-! ### the numbers that are drawn -/
def bkD (h : Addr) (w l : Int) : List (L2.Key × D) := [(Sum.inr "heavy", .ref h), (Sum.inr "weight", .int w), (Sum.inr "lap", .int l)]
def Bk (S : Sto) (b h : Addr) : Prop := ∃ (w l : Int) (ns : List Int), S b = some (.dK (bkD h w l)) ∧ S h = some (.lst (ns.map .int))
theorem Bk.ne {S : Sto} {b h : Addr} (k : Bk S b h) : b ≠ h := fun z => by
  obtain ⟨w, l, ns, e1, e2⟩ := k
  subst z
  rw [e1] at e2
  cases e2
theorem Bk.in_b {S : Sto} {b h p : Addr} (k : Bk S b h) (hp : S p = none) : p ≠ b := fun z => by
  obtain ⟨w, l, ns, e1, e2⟩ := k
  subst z
  rw [hp] at e1
  cases e1
theorem Bk.in_h {S : Sto} {b h p : Addr} (k : Bk S b h) (hp : S p = none) : p ≠ h := fun z => by
  obtain ⟨w, l, ns, e1, e2⟩ := k
  subst z
  rw [hp] at e2
  cases e2
theorem Bk.sup {S : Sto} {b h p : Addr} {o : SO} (k : Bk S b h) (h1 : p ≠ b) (h2 : p ≠ h) : Bk (sup S p o) b h := by
  obtain ⟨w, l, ns, e1, e2⟩ := k
  exact ⟨w, l, ns, by rw [sup_ne (Ne.symm h1)]; exact e1, by rw [sup_ne (Ne.symm h2)]; exact e2⟩
theorem dg_heavy {S : Sto} {b h : Addr} {w l : Int} (e : S b = some (.dK (bkD h w l))) : dGetD S (.ref b) (.str "heavy") = some (some (.ref h)) := by
  simp only [dGetD, e, keyOf]
  rfl
theorem dg_weight {S : Sto} {b h : Addr} {w l : Int} (e : S b = some (.dK (bkD h w l))) : dGetD S (.ref b) (.str "weight") = some (some (.int w)) := by
  simp only [dGetD, e, keyOf]
  rfl
theorem dg_lap {S : Sto} {b h : Addr} {w l : Int} (e : S b = some (.dK (bkD h w l))) : dGetD S (.ref b) (.str "lap") = some (some (.int l)) := by
  simp only [dGetD, e, keyOf]
  rfl
theorem dp_lap {S : Sto} {b h : Addr} {w l k : Int} (e : S b = some (.dK (bkD h w l))) : dPutD S (.int k) (.ref b) (.str "lap") = some (L3.sup S b (.dK (bkD h w k))) := by
  simp only [dPutD, e, keyOf]
  rw [if_pos (show (bkD h w l).length < sizeLine by show 3 < sizeLine; rw [sizeLine_val]; decide)]
  rfl
theorem dp_weight {S : Sto} {b h : Addr} {w l k : Int} (e : S b = some (.dK (bkD h w l))) : dPutD S (.int k) (.ref b) (.str "weight") = some (L3.sup S b (.dK (bkD h k l))) := by
  simp only [dPutD, e, keyOf]
  rw [if_pos (show (bkD h w l).length < sizeLine by show 3 < sizeLine; rw [sizeLine_val]; decide)]
  rfl
theorem st_tru_r {A : Addr} {ds : List D} {S : Sto} {Q : Bool → Sto → Prop} (e : S A = some (.lst ds)) (h : Q (!ds.isEmpty) S) : vTru (.ref A) S Q := by
  simp only [vTru, e]
  exact h
theorem st_set0 {A : Addr} {d v : D} {ds : List D} {S : Sto} {Q : Sto → Prop} (e : S A = some (.lst (d :: ds))) (h : Q (sup S A (.lst (v :: ds)))) : vSet (.ref A) (.int 0) v S Q := by
  simp only [vSet, e, List.length_cons]
  have i : ixN (ds.length + 1) 0 = some 0 := by unfold ixN; simp
  rw [i]
  exact h
theorem st_pop0 {A : Addr} {d : D} {ds : List D} {S : Sto} {Q : DK} (e : S A = some (.lst (d :: ds))) (h : Q d (sup S A (.lst ds))) : vPopAt (.ref A) [.int 0] S Q := by
  simp only [vPopAt, e, List.length_cons]
  have i : ixN (ds.length + 1) 0 = some 0 := by unfold ixN; simp
  rw [i]
  exact ⟨by omega, by omega, d, rfl, h⟩
def sp_law_fetch (x m : D) (S : Sto) (Q : DK) : Prop := ∃ (b h : Addr) (n : Int), x = .ref b ∧ m = .int n ∧ 0 < n ∧ n < 1073741824 ∧ Bk S b h ∧ ∀ r S', 0 ≤ r → r < n → Bk S' b h → (∀ a, a ≠ b → a ≠ h → S' a = S a) → Q (.int r) S'
-- _law_fetch : 0=basket 1=many 2=heavy 3=load
def rd_law_fetch : DTS :=
    (dSeq (dAsg (dDGet (dVar 0) (dC (.str "heavy"))) (dTg (.nm 2)))
    (dSeq (dIf (dTru (dVar 2)) (dSeq (dAsg (dCB vInt (dCons (dOp vIx (dVar 2) (dC (.int 0))) dNil)) (dTg (.nm 3)))
    (dSeq (dAsg (dOp vDiv (dVar 3) (dVar 1)) (dgSub (dVar 2) (dC (.int 0))))
    (dSeq (dIf (dTest (dOp vEq (dOp vIx (dVar 2) (dC (.int 0))) (dC (.int 0)))) (dDrop (dLM vPopAt (dVar 2) (dCons (dC (.int 0)) dNil))) dNext)
    (dRet (dOp vMod (dVar 3) (dVar 1)))))) dNext)
    (dSeq (dDPut (dVar 0) (dC (.str "lap")) (dOp vAdd (dDGet (dVar 0) (dC (.str "lap"))) (dC (.int 1))))
    (dSeq (dDPut (dVar 0) (dC (.str "weight")) (dOp vMod (dOp vAdd (dOp vAdd (dOp vMul (dCB vInt (dCons (dDGet (dVar 0) (dC (.str "weight"))) dNil)) (dC (.int 12281))) (dOp vMul (dDGet (dVar 0) (dC (.str "lap"))) (dC (.int 2711)))) (dC (.int 17))) (dC (.int 1073741783))))
    (dRet (dOp vMod (dOp vDiv (dCB vInt (dCons (dDGet (dVar 0) (dC (.str "weight"))) dNil)) (dC (.int 61))) (dVar 1)))))))
theorem rd_law_fetch_ok : ∀ ds S P, (a2 sp_law_fetch) ds S P → rd_law_fetch (DEnds.of P) (dstart ["basket", "many", "heavy", "load"] ds) S := by
  intro ds S P h
  rcases ds with _ | ⟨x, _ | ⟨m, _ | ⟨y, ds⟩⟩⟩ <;> first | exact (h : False).elim | skip
  obtain ⟨b, h, n, rfl, rfl, n0, n1, bk, q⟩ := (h : sp_law_fetch x m S P)
  have hne := bk.ne
  obtain ⟨w, l, ns, e1, e2⟩ := bk
  unfold rd_law_fetch
  walk_at "run"
  refine ⟨_, dg_heavy e1, ?_⟩
  walk_at "run"
  refine st_tru_r e2 ?_
  cases ns with
  | cons v vs =>
    rw [show (!((v :: vs).map D.int).isEmpty) = true from rfl]
    walk_at "run"
    refine st_atr (k := 0) e2 (d := .int v) rfl ?_
    walk_at "run"
    refine st_set0 e2 ?_
    walk_at "run"
    refine st_atr (k := 0) sup_same (d := .int (v / n)) rfl ?_
    walk_at "run"
    have fin : ∀ (vs' : List Int), P (.int (v % n)) (L3.sup S h (.lst (vs'.map .int))) := fun vs' =>
      q _ _ (Int.emod_nonneg _ (by omega)) (Int.emod_lt_of_pos _ n0) ⟨w, l, vs', by rw [sup_ne hne]; exact e1, sup_same⟩ fun a h1 h2 => sup_ne h2
    by_cases z : v / n = 0
    · walk_at "run"
      rw [isSeq_ref]
      refine ⟨⟨_, sup_same⟩, ?_⟩
      walk_at "run"
      refine st_pop0 sup_same ?_
      walk_at "run"
      rw [sup_sup]
      exact .of (fin vs)
    · walk_at "run"
      exact .of (fin (v / n :: vs))
  | nil =>
    rw [show (!(([] : List Int).map D.int).isEmpty) = false from rfl]
    walk_at "run"
    refine ⟨_, dg_lap e1, ?_⟩
    walk_at "run"
    refine ⟨_, dp_lap e1, ?_⟩
    refine ⟨_, dg_weight sup_same, ?_⟩
    walk_at "run"
    refine ⟨_, dg_lap sup_same, ?_⟩
    walk_at "run"
    refine ⟨_, dp_weight sup_same, ?_⟩
    rw [sup_sup]
    refine ⟨_, dg_weight sup_same, ?_⟩
    walk_at "run"
    exact .of (q _ _ (Int.emod_nonneg _ (by omega)) (Int.emod_lt_of_pos _ n0) ⟨_, _, [], sup_same, by rw [sup_ne (Ne.symm hne)]; exact e2⟩ fun a h1 h2 => sup_ne h1)
theorem use_fetch {b h : Addr} {n : Int} {S : Sto} {Q : DK} (bk : Bk S b h) (hn : 0 < n ∧ n < 1073741824) (q : ∀ r S', 0 ≤ r → r < n → Bk S' b h → (∀ a, a ≠ b → a ≠ h → S' a = S a) → Q (.int r) S') : sp_law_fetch (.ref b) (.int n) S Q := ⟨b, h, n, rfl, rfl, hn.1, hn.2, bk, q⟩
theorem st_shl {i j : Int} {S : Sto} {Q : DK} (h1 : CPow i j) (h : Q (.int (i * 2 ^ j.toNat)) S) : vShl (.int i) (.int j) S Q := ⟨h1, h⟩
theorem st_pow {i j : Int} {S : Sto} {Q : DK} (h1 : CPow i j) (h : Q (.int (i ^ j.toNat)) S) : vPow (.int i) (.int j) S Q := ⟨h1, h⟩
theorem st_sl_ro {ns : List Int} {k : Nat} {S : Sto} {Q : DK} (h : Q (.lst ((ns.take k).map .int)) S) : vSl (.ro (ns.map .int)) none (some (k : Int)) S Q := by
  show Q (.lst (cut (ns.map .int) none (some (k : Int)))) S
  rw [cut_to, ← List.map_take]
  exact h
def sp_law_basket (x : D) (S : Sto) (Q : DK) : Prop := ∃ ns : List Int, x = .ro (ns.map .int) ∧ ns.length ≤ 63 ∧ ∀ b h S', S b = none → S h = none → Bk S' b h → (∀ a, a ≠ b → a ≠ h → S' a = S a) → Q (.ref b) S'
-- _law_basket : 0=script 1=heavy 2=weight 3=cell 4=load
def rd_law_basket : DTS :=
    (dSeq (dAsg (dLstM dNil) (dTg (.nm 1)))
    (dSeq (dAsg (dC (.int 9001)) (dTg (.nm 2)))
    (dSeq (dFor (iSeq (dSl vSl (dVar 0) dNoPart (dPart (dC (.int 58))))) (dTg (.nm 3)) (dSeq (dAsg (dOp vMod (dCB vAbs (dCons (dCB vInt (dCons (dVar 3) dNil)) dNil)) (dOp vShl (dC (.int 1)) (dC (.int 2000)))) (dTg (.nm 4)))
    (dSeq (dAsg (dOp vMod (dOp vAdd (dOp vAdd (dOp vMod (dCB vInt (dCons (dVar 4) dNil)) (dC (.int 1999957))) (dOp vMul (dVar 2) (dC (.int 27751)))) (dC (.int 31))) (dC (.int 1073741783))) (dTg (.nm 2)))
    (dIf (dTest (dOp vGe (dVar 4) (dOp vPow (dC (.int 10)) (dC (.int 18))))) (dDrop (dLM vAppend (dVar 1) (dCons (dVar 4) dNil))) dNext))))
    (dRet (dDisp [Sum.inr "heavy", Sum.inr "weight", Sum.inr "lap"] (dCons (dVar 1) (dCons (dVar 2) (dCons (dC (.int 0)) dNil))))))))
theorem rd_law_basket_ok : ∀ ds S P, (a1 sp_law_basket) ds S P → rd_law_basket (DEnds.of P) (dstart ["script", "heavy", "weight", "cell", "load"] ds) S := by
  intro ds S P h
  rcases ds with _ | ⟨x, _ | ⟨y, ds⟩⟩ <;> first | exact (h : False).elim | skip
  obtain ⟨ns, rfl, hl, q⟩ := (h : sp_law_basket x S P)
  unfold rd_law_basket
  walk_at "run"
  intro p hp
  walk_at "run"
  refine st_sl_ro (k := 58) ?_
  walk_at "run"
  refine forL_inv (fun i δ S' => ∃ (hs : List Int) (w : Int) (x3 x4 : Option D), S' = L3.sup S p (.lst (hs.map .int)) ∧ hs.length ≤ i ∧ δ = [some (.ro (ns.map .int)), some (.ref p), some (.int w), x3, x4]) (fun _ _ _ _ => True.intro) _ 0 _ _ ⟨[], 9001, none, none, rfl, Nat.le_refl _, rfl⟩ ?_ ?_
  · rintro j d _ _ hj ⟨hs, w, x3, x4, rfl, hh, rfl⟩ D2 hrt _ hnx _
    rw [List.getElem?_map] at hj
    obtain ⟨v, g3, rfl⟩ := Option.map_eq_some_iff.mp hj
    have hjl : j < 58 := by
      have := (List.getElem?_eq_some_iff.mp g3).1
      rw [List.length_take] at this
      omega
    rw [Nat.zero_add] at hh hnx
    walk_at "run"
    refine st_shl (by unfold CPow; decide) ?_
    have hM : (0 : Int) < 1 * 2 ^ (2000 : Int).toNat := by rw [Int.one_mul]; exact Int.pow_pos (by decide)
    generalize (1 : Int) * 2 ^ (2000 : Int).toNat = M at hM
    generalize (if v < 0 then -v else v) = v'
    refine st_mod hM ?_
    walk_at "run"
    refine st_pow (by unfold CPow; decide) ?_
    walk_at "run"
    by_cases z : v' % M ≥ 10 ^ (18 : Int).toNat
    · rw [decide_eq_true z]
      walk_at "run"
      rw [isSeq_ref]
      refine ⟨⟨_, sup_same⟩, ?_⟩
      walk_at "run"
      refine st_append sup_same (by rw [List.length_map, sizeLine_val]; omega) ?_
      walk_at "run"
      rw [sup_sup]
      exact hnx _ _ ⟨hs ++ [v' % M], _, _, _, by rw [List.map_append]; rfl, by rw [List.length_append]; exact Nat.succ_le_succ hh, rfl⟩
    · rw [decide_eq_false z]
      walk_at "run"
      exact hnx _ _ ⟨hs, _, _, _, rfl, by omega, rfl⟩
  · rintro _ _ ⟨hs, w, x3, x4, rfl, hh, rfl⟩
    walk_at "run"
    intro b hb
    have hbp : b ≠ p := fun z => by subst z; rw [sup_same] at hb; cases hb
    have hb' : S b = none := by rw [← hb, sup_ne hbp]
    refine .of (q b p _ hb' hp ⟨w, 0, hs, sup_same, by rw [sup_ne (Ne.symm hbp)]; exact sup_same⟩ fun a h1 h2 => by rw [sup_ne h1, sup_ne h2])
theorem use_basket {ns : List Int} {S : Sto} {Q : DK} (hl : ns.length ≤ 63) (q : ∀ b h S', S b = none → S h = none → Bk S' b h → (∀ a, a ≠ b → a ≠ h → S' a = S a) → Q (.ref b) S') : sp_law_basket (.ro (ns.map .int)) S Q := ⟨ns, rfl, hl, q⟩
end L3

set_option Elab.async false
set_option maxRecDepth 100000
set_option linter.all false
set_option maxHeartbeats 4000000
namespace L3
open PySem L2 L3.K9
local macro_rules | `(tactic| walk_at "cond") => `(tactic| first | omega | (simp only [List.length_append, List.length_cons, List.length_nil, List.length_take, List.length_drop, List.length_map, List.length_reverse]; omega) | rfl | decide)
local macro_rules | `(tactic| walk_at "side") => `(tactic| first | assumption | omega | (simp only [List.length_append, List.length_cons, List.length_nil, List.length_take, List.length_drop, List.length_map, List.length_reverse, sizeLine_val]; omega) | decide)
local macro_rules | `(tactic| walk_at "st") => `(tactic| first
  | with_reducible refine st_ix0 ?_ | with_reducible refine st_ix1 ?_ | with_reducible refine st_ix2 ?_ | with_reducible refine st_ix3 ?_ | with_reducible refine st_ix4 ?_
  | with_reducible refine st_add_pp (by walk_at "side") ?_ | with_reducible refine st_add_p1 (by walk_at "side") ?_ | with_reducible refine st_add_1p (by walk_at "side") ?_
  | with_reducible refine st_add ?_ | with_reducible refine st_sub ?_ | with_reducible refine st_iadd ?_ | with_reducible refine st_neg ?_
  | with_reducible refine st_len_p ?_ | with_reducible refine st_len_lp ?_ | with_reducible refine st_len_rp ?_ | with_reducible refine st_len_t ?_ | with_reducible refine st_len_l ?_
  | with_reducible refine st_add_t (by walk_at "side") ?_ | with_reducible refine st_add_l (by walk_at "side") ?_ | with_reducible refine st_add_s (by walk_at "side") ?_
  | with_reducible refine st_tru_bl ?_ | with_reducible refine st_tru_int ?_ | with_reducible refine st_tru_tup ?_ | with_reducible refine st_tru_lst ?_ | with_reducible refine st_tru_non ?_
  | with_reducible refine st_at (by assumption) ?_ | with_reducible refine st_atl (by assumption) ?_
  | with_reducible refine st_iteT ?_ | with_reducible refine st_iteF ?_ | with_reducible refine st_not ?_
  | with_reducible refine st_lt ?_ | with_reducible refine st_le ?_ | with_reducible refine st_gt ?_ | with_reducible refine st_ge ?_ | with_reducible refine st_eqi ?_ | with_reducible refine st_nei ?_ | with_reducible refine st_eqs ?_ | with_reducible refine st_nes ?_ | with_reducible refine st_eqb ?_
  | with_reducible refine st_isn_non ?_ | with_reducible refine st_isn_int ?_ | with_reducible refine st_isn_tup ?_ | with_reducible refine st_isn_str ?_ | with_reducible refine st_isn_bl ?_
  | with_reducible refine st_isnt_non ?_ | with_reducible refine st_isnt_int ?_ | with_reducible refine st_isnt_tup ?_ | with_reducible refine st_isnt_str ?_
  | with_reducible refine st_int ?_ | with_reducible refine st_intb ?_ | with_reducible refine st_abs ?_ | with_reducible refine st_min2 ?_ | with_reducible refine st_max2 ?_
  | with_reducible refine st_tup_l ?_ | with_reducible refine st_tup_t ?_ | with_reducible refine st_lst_t ?_ | with_reducible refine st_lst_l ?_
  | with_reducible refine st_sl_from ?_ | with_reducible refine st_sl_to ?_
  | with_reducible refine st_lx0 ?_ | with_reducible refine st_lx1 ?_ | with_reducible refine st_lx2 ?_ | with_reducible refine st_lx3 ?_
  | with_reducible refine st_mod (by walk_at "side") ?_ | with_reducible refine st_div (by walk_at "side") ?_ | with_reducible refine st_mul (by walk_at "side") ?_ | with_reducible refine st_mul' (by walk_at "side") ?_
  | with_reducible refine st_isi rfl ?_
  | (with_reducible refine And.intro (Nat.le_of_ble_eq_true rfl) ?_)
  | (refine And.intro (rfl : (_ : Nat) = _) ?_)
  | with_reducible refine st_dT (by walk_at "cond") ?_ | with_reducible refine st_dF (by walk_at "cond") ?_)
local macro_rules | `(tactic| walk_at "hd") => `(tactic| (with_reducible conv => whnf))
local macro_rules | `(tactic| walk_at "run") => `(tactic| ((with_reducible conv => whnf); repeat (walk_at "st"; (with_reducible conv => whnf))))
/-! ### codes that are drawn -/
theorem use_fetchN {b h : Addr} {n : Int} {S : Sto} {Q : DK} (bk : Bk S b h) (hn : 0 < n ∧ n < 1073741824) (q : ∀ (r : Nat) S', (r : Int) < n → Bk S' b h → (∀ a, a ≠ b → a ≠ h → S' a = S a) → Q (.int r) S') : sp_law_fetch (.ref b) (.int n) S Q :=
  use_fetch bk hn fun r S' h0 h1 bk' s => by
    obtain ⟨k, rfl⟩ := Int.eq_ofNat_of_zero_le h0
    exact q k S' h1 bk' s
theorem st_ix_l {ds : List D} {k m : Nat} {S : Sto} {Q : DK} (hk : k < ds.length) (hp : ∀ d ∈ ds, ∃ i : Nat, d = iD i ∧ i < m) (h : ∀ i : Nat, i < m → Q (iD i) S) : vIx (.lst ds) (.int (k : Int)) S Q := by
  obtain ⟨i, hi, lt⟩ := hp _ (List.getElem_mem hk)
  have g := List.getElem?_eq_getElem hk
  rw [hi] at g
  exact st_atl g (h i lt)
def rd_code_row : DTS :=
    (dIf (dOr (dAnd (dTest (dOp vEq (dVar 8) (dOp vSub (dVar 6) (dC (.int 1))))) (dTest (dOp vGt (dCall (a2 sp_law_fetch) (dCons (dVar 0) (dCons (dC (.int 4)) dNil))) (dC (.int 0))))) (dTest (dOp vEq (dVar 11) (dC (.int 7))))) (dDrop (dLM vAppend (dVar 7) (dCons (dTup (dCons (dC (.str "return")) dNil)) dNil))) (dIf (dTest (dOp vLt (dVar 11) (dC (.int 2)))) (dDrop (dLM vAppend (dVar 7) (dCons (dTup (dCons (dC (.str "deed")) (dCons (dTup dNil) (dCons (dTup dNil) (dCons (dVar 10) dNil))))) dNil))) (dIf (dAnd (dTest (dOp vLt (dVar 11) (dC (.int 5)))) (dTest (dOp vNe (dVar 3) (dC (.int 1))))) (dDrop (dLM vAppend (dVar 7) (dCons (dTup (dCons (dC (.str "call")) (dCons (dOp vIx (dLst (dCons (dCall (a2 sp_law_fetch) (dCons (dVar 0) (dCons (dVar 1) dNil))) (dCons (dCB vMin2 (dCons (dOp vSub (dVar 1) (dC (.int 1))) (dCons (dOp vAdd (dVar 5) (dC (.int 1))) dNil))) (dCons (dVar 5) dNil)))) (dCall (a2 sp_law_fetch) (dCons (dVar 0) (dCons (dC (.int 3)) dNil)))) (dCons (dVar 10) dNil)))) dNil))) (dDrop (dLM vAppend (dVar 7) (dCons (dTup (dCons (dC (.str "choose")) (dCons (dOp vAdd (dTup (dCons (dVar 10) (dCons (dOp vIx (dVar 9) (dCall (a2 sp_law_fetch) (dCons (dVar 0) (dCons (dC (.int 5)) dNil)))) dNil))) (dOp vMul (dTup (dCons (dOp vIx (dVar 9) (dC (.int 0))) dNil)) (dCall (a2 sp_law_fetch) (dCons (dVar 0) (dCons (dC (.int 2)) dNil))))) dNil))) dNil))))))
theorem code_row {D' : DEnds} {S : Sto} {b h p p2 : Addr} {W N w t th way n0 n1 n2 n3 n4 : Nat} {hb : Int} {m : Option D} {rows : List Row} (bk : Bk S b h) (e : S p2 = some (.lst (rows.map rowD))) (hpb : p2 ≠ b) (hph : p2 ≠ h)
    (hW : W ≤ 100) (hw : w < W) (ht : t < N) (hN : N ≤ 100) (hl : rows.length ≤ 100) (hth : th < N) (g0 : n0 < N) (g1 : n1 < N) (g2 : n2 < N) (g3 : n3 < N) (g4 : n4 < N)
    (nx : ∀ row S', RowOk W N row → Bk S' b h → S' p2 = some (.lst ((rows ++ [row]).map rowD)) → (∀ a, a ≠ b → a ≠ h → a ≠ p2 → S' a = S a) →
      D'.nx [some (.ref b), some (iD W), m, some (.int hb), some (.ref p), some (iD w), some (iD N), some (.ref p2), some (iD t), some (.lst [iD n0, iD n1, iD n2, iD n3, iD n4]), some (iD th), some (iD way)] S') :
    rd_code_row D' [some (.ref b), some (iD W), m, some (.int hb), some (.ref p), some (iD w), some (iD N), some (.ref p2), some (iD t), some (.lst [iD n0, iD n1, iD n2, iD n3, iD n4]), some (iD th), some (iD way)] S := by
  unfold rd_code_row
  have hnear : ∀ d ∈ [iD n0, iD n1, iD n2, iD n3, iD n4], ∃ i : Nat, d = iD i ∧ i < N := fun d hd => by
    simp only [List.mem_cons, List.not_mem_nil, or_false] at hd
    rcases hd with rfl | rfl | rfl | rfl | rfl
    · exact ⟨_, rfl, g0⟩
    · exact ⟨_, rfl, g1⟩
    · exact ⟨_, rfl, g2⟩
    · exact ⟨_, rfl, g3⟩
    · exact ⟨_, rfl, g4⟩
  walk_at "run"
  by_cases z : (t : Int) = (N : Int) - 1
  · walk_at "run"
    refine use_fetchN bk (by omega) fun f S0 hf bk0 s0 => ?_
    have e0 : S0 p2 = some (.lst (rows.map rowD)) := by rw [s0 _ hpb hph]; exact e
    walk_at "run"
    by_cases f0 : (f : Int) > 0
    · walk_at "run"
      rw [isSeq_ref]
      refine ⟨⟨_, e0⟩, ?_⟩
      walk_at "run"
      refine st_append e0 (by rw [List.length_map, sizeLine_val]; omega) ?_
      walk_at "run"
      exact nx .ret _ True.intro (bk0.sup hpb hph) (by rw [sup_same, List.map_append]; rfl) fun a h1 h2 h3 => by rw [sup_ne h3, s0 a h1 h2]
    · walk_at "run"
      by_cases w7 : (way : Int) = 7
      · walk_at "run"
        rw [isSeq_ref]
        refine ⟨⟨_, e0⟩, ?_⟩
        walk_at "run"
        refine st_append e0 (by rw [List.length_map, sizeLine_val]; omega) ?_
        walk_at "run"
        exact nx .ret _ True.intro (bk0.sup hpb hph) (by rw [sup_same, List.map_append]; rfl) fun a h1 h2 h3 => by rw [sup_ne h3, s0 a h1 h2]
      · walk_at "run"
        by_cases w2 : (way : Int) < 2
        · walk_at "run"
          rw [isSeq_ref]
          refine ⟨⟨_, e0⟩, ?_⟩
          walk_at "run"
          refine st_append e0 (by rw [List.length_map, sizeLine_val]; omega) ?_
          walk_at "run"
          exact nx (.deed [] [] th) _ ⟨Nat.zero_le _, Nat.zero_le _, hth⟩ (bk0.sup hpb hph) (by rw [sup_same, List.map_append]; rfl) fun a h1 h2 h3 => by rw [sup_ne h3, s0 a h1 h2]
        · walk_at "run"
          by_cases w5 : (way : Int) < 5
          · walk_at "run"
            by_cases hb1 : hb = 1
            · rw [decide_eq_true hb1]
              walk_at "run"
              rw [isSeq_ref]
              refine ⟨⟨_, e0⟩, ?_⟩
              walk_at "run"
              refine use_fetchN bk0 (by omega) fun k S2 hk bk2 s2 => ?_
              walk_at "run"
              refine st_ix_l (m := N) (show k < 5 by omega) hnear fun i hi => ?_
              walk_at "run"
              refine use_fetchN bk2 (by omega) fun r S3 hr bk3 s3 => ?_
              have e3 : S3 p2 = some (.lst (rows.map rowD)) := by rw [s3 _ hpb hph, s2 _ hpb hph]; exact e0
              have fin : ∀ l : List Nat, l.length ≤ 100 → (∀ n ∈ l, n < N) → D'.nx [some (.ref b), some (iD W), m, some (.int hb), some (.ref p), some (iD w), some (iD N), some (.ref p2), some (iD t), some (.lst [iD n0, iD n1, iD n2, iD n3, iD n4]), some (iD th), some (iD way)] (L3.sup S3 p2 (.lst (rows.map rowD ++ [rowD (.choose l)]))) := fun l l1 l2 =>
                nx (.choose l) _ ⟨l1, l2⟩ (bk3.sup hpb hph) (by rw [sup_same, List.map_append]; rfl) fun a h1 h2 h3 => by rw [sup_ne h3, s3 a h1 h2, s2 a h1 h2, s0 a h1 h2]
              have r01 : r = 0 ∨ r = 1 := by omega
              rcases r01 with rfl | rfl
              · walk_at "run"
                refine ⟨by decide, by decide, show 1 ≤ 1000 by decide, ?_⟩
                rw [show (List.replicate ((0 : Nat) : Int).toNat [iD n0]).flatten = ([] : List D) from rfl]
                refine st_add_t (show 2 + 0 ≤ sizeLine by rw [sizeLine_val]; decide) ?_
                walk_at "run"
                refine st_append e3 (by rw [List.length_map, sizeLine_val]; omega) ?_
                walk_at "run"
                exact fin [th, i] (show 2 ≤ 100 by decide) fun n hn => by
                  simp only [List.mem_cons, List.not_mem_nil, or_false] at hn
                  rcases hn with rfl | rfl <;> assumption
              · walk_at "run"
                refine ⟨by decide, by decide, show 1 ≤ 1000 by decide, ?_⟩
                rw [show (List.replicate ((1 : Nat) : Int).toNat [iD n0]).flatten = [iD n0] from rfl]
                refine st_add_t (show 2 + 1 ≤ sizeLine by rw [sizeLine_val]; decide) ?_
                walk_at "run"
                refine st_append e3 (by rw [List.length_map, sizeLine_val]; omega) ?_
                walk_at "run"
                exact fin [th, i, n0] (show 3 ≤ 100 by decide) fun n hn => by
                  simp only [List.mem_cons, List.not_mem_nil, or_false] at hn
                  rcases hn with rfl | rfl | rfl <;> assumption
            · rw [decide_eq_false hb1]
              walk_at "run"
              rw [isSeq_ref]
              refine ⟨⟨_, e0⟩, ?_⟩
              walk_at "run"
              refine use_fetchN bk0 (by omega) fun r S1 hr bk1 s1 => ?_
              walk_at "run"
              have mn : (if (w : Int) + 1 < (W : Int) - 1 then (w : Int) + 1 else (W : Int) - 1) = ((min (W - 1) (w + 1) : Nat) : Int) := by split <;> omega
              rw [mn]
              walk_at "run"
              refine use_fetchN bk1 (by omega) fun k S2 hk bk2 s2 => ?_
              walk_at "run"
              refine st_ix_l (m := W) (show k < 3 by omega) (fun d hd => ?_) fun i hi => ?_
              · simp only [List.mem_cons, List.not_mem_nil, or_false] at hd
                rcases hd with rfl | rfl | rfl
                · exact ⟨_, rfl, by omega⟩
                · exact ⟨_, rfl, by omega⟩
                · exact ⟨_, rfl, hw⟩
              have e2 : S2 p2 = some (.lst (rows.map rowD)) := by rw [s2 _ hpb hph, s1 _ hpb hph]; exact e0
              walk_at "run"
              refine st_append e2 (by rw [List.length_map, sizeLine_val]; omega) ?_
              walk_at "run"
              exact nx (.call i th) _ ⟨hi, hth⟩ (bk2.sup hpb hph) (by rw [sup_same, List.map_append]; rfl) fun a h1 h2 h3 => by rw [sup_ne h3, s2 a h1 h2, s1 a h1 h2, s0 a h1 h2]
          · walk_at "run"
            rw [isSeq_ref]
            refine ⟨⟨_, e0⟩, ?_⟩
            walk_at "run"
            refine use_fetchN bk0 (by omega) fun k S2 hk bk2 s2 => ?_
            walk_at "run"
            refine st_ix_l (m := N) (show k < 5 by omega) hnear fun i hi => ?_
            walk_at "run"
            refine use_fetchN bk2 (by omega) fun r S3 hr bk3 s3 => ?_
            have e3 : S3 p2 = some (.lst (rows.map rowD)) := by rw [s3 _ hpb hph, s2 _ hpb hph]; exact e0
            have fin : ∀ l : List Nat, l.length ≤ 100 → (∀ n ∈ l, n < N) → D'.nx [some (.ref b), some (iD W), m, some (.int hb), some (.ref p), some (iD w), some (iD N), some (.ref p2), some (iD t), some (.lst [iD n0, iD n1, iD n2, iD n3, iD n4]), some (iD th), some (iD way)] (L3.sup S3 p2 (.lst (rows.map rowD ++ [rowD (.choose l)]))) := fun l l1 l2 =>
              nx (.choose l) _ ⟨l1, l2⟩ (bk3.sup hpb hph) (by rw [sup_same, List.map_append]; rfl) fun a h1 h2 h3 => by rw [sup_ne h3, s3 a h1 h2, s2 a h1 h2, s0 a h1 h2]
            have r01 : r = 0 ∨ r = 1 := by omega
            rcases r01 with rfl | rfl
            · walk_at "run"
              refine ⟨by decide, by decide, show 1 ≤ 1000 by decide, ?_⟩
              rw [show (List.replicate ((0 : Nat) : Int).toNat [iD n0]).flatten = ([] : List D) from rfl]
              refine st_add_t (show 2 + 0 ≤ sizeLine by rw [sizeLine_val]; decide) ?_
              walk_at "run"
              refine st_append e3 (by rw [List.length_map, sizeLine_val]; omega) ?_
              walk_at "run"
              exact fin [th, i] (show 2 ≤ 100 by decide) fun n hn => by
                simp only [List.mem_cons, List.not_mem_nil, or_false] at hn
                rcases hn with rfl | rfl <;> assumption
            · walk_at "run"
              refine ⟨by decide, by decide, show 1 ≤ 1000 by decide, ?_⟩
              rw [show (List.replicate ((1 : Nat) : Int).toNat [iD n0]).flatten = [iD n0] from rfl]
              refine st_add_t (show 2 + 1 ≤ sizeLine by rw [sizeLine_val]; decide) ?_
              walk_at "run"
              refine st_append e3 (by rw [List.length_map, sizeLine_val]; omega) ?_
              walk_at "run"
              exact fin [th, i, n0] (show 3 ≤ 100 by decide) fun n hn => by
                simp only [List.mem_cons, List.not_mem_nil, or_false] at hn
                rcases hn with rfl | rfl | rfl <;> assumption
  · walk_at "run"
    by_cases w7 : (way : Int) = 7
    · walk_at "run"
      rw [isSeq_ref]
      refine ⟨⟨_, e⟩, ?_⟩
      walk_at "run"
      refine st_append e (by rw [List.length_map, sizeLine_val]; omega) ?_
      walk_at "run"
      exact nx .ret _ True.intro (bk.sup hpb hph) (by rw [sup_same, List.map_append]; rfl) fun a h1 h2 h3 => by rw [sup_ne h3]
    · walk_at "run"
      by_cases w2 : (way : Int) < 2
      · walk_at "run"
        rw [isSeq_ref]
        refine ⟨⟨_, e⟩, ?_⟩
        walk_at "run"
        refine st_append e (by rw [List.length_map, sizeLine_val]; omega) ?_
        walk_at "run"
        exact nx (.deed [] [] th) _ ⟨Nat.zero_le _, Nat.zero_le _, hth⟩ (bk.sup hpb hph) (by rw [sup_same, List.map_append]; rfl) fun a h1 h2 h3 => by rw [sup_ne h3]
      · walk_at "run"
        by_cases w5 : (way : Int) < 5
        · walk_at "run"
          by_cases hb1 : hb = 1
          · rw [decide_eq_true hb1]
            walk_at "run"
            rw [isSeq_ref]
            refine ⟨⟨_, e⟩, ?_⟩
            walk_at "run"
            refine use_fetchN bk (by omega) fun k S2 hk bk2 s2 => ?_
            walk_at "run"
            refine st_ix_l (m := N) (show k < 5 by omega) hnear fun i hi => ?_
            walk_at "run"
            refine use_fetchN bk2 (by omega) fun r S3 hr bk3 s3 => ?_
            have e3 : S3 p2 = some (.lst (rows.map rowD)) := by rw [s3 _ hpb hph, s2 _ hpb hph]; exact e
            have fin : ∀ l : List Nat, l.length ≤ 100 → (∀ n ∈ l, n < N) → D'.nx [some (.ref b), some (iD W), m, some (.int hb), some (.ref p), some (iD w), some (iD N), some (.ref p2), some (iD t), some (.lst [iD n0, iD n1, iD n2, iD n3, iD n4]), some (iD th), some (iD way)] (L3.sup S3 p2 (.lst (rows.map rowD ++ [rowD (.choose l)]))) := fun l l1 l2 =>
              nx (.choose l) _ ⟨l1, l2⟩ (bk3.sup hpb hph) (by rw [sup_same, List.map_append]; rfl) fun a h1 h2 h3 => by rw [sup_ne h3, s3 a h1 h2, s2 a h1 h2]
            have r01 : r = 0 ∨ r = 1 := by omega
            rcases r01 with rfl | rfl
            · walk_at "run"
              refine ⟨by decide, by decide, show 1 ≤ 1000 by decide, ?_⟩
              rw [show (List.replicate ((0 : Nat) : Int).toNat [iD n0]).flatten = ([] : List D) from rfl]
              refine st_add_t (show 2 + 0 ≤ sizeLine by rw [sizeLine_val]; decide) ?_
              walk_at "run"
              refine st_append e3 (by rw [List.length_map, sizeLine_val]; omega) ?_
              walk_at "run"
              exact fin [th, i] (show 2 ≤ 100 by decide) fun n hn => by
                simp only [List.mem_cons, List.not_mem_nil, or_false] at hn
                rcases hn with rfl | rfl <;> assumption
            · walk_at "run"
              refine ⟨by decide, by decide, show 1 ≤ 1000 by decide, ?_⟩
              rw [show (List.replicate ((1 : Nat) : Int).toNat [iD n0]).flatten = [iD n0] from rfl]
              refine st_add_t (show 2 + 1 ≤ sizeLine by rw [sizeLine_val]; decide) ?_
              walk_at "run"
              refine st_append e3 (by rw [List.length_map, sizeLine_val]; omega) ?_
              walk_at "run"
              exact fin [th, i, n0] (show 3 ≤ 100 by decide) fun n hn => by
                simp only [List.mem_cons, List.not_mem_nil, or_false] at hn
                rcases hn with rfl | rfl | rfl <;> assumption
          · rw [decide_eq_false hb1]
            walk_at "run"
            rw [isSeq_ref]
            refine ⟨⟨_, e⟩, ?_⟩
            walk_at "run"
            refine use_fetchN bk (by omega) fun r S1 hr bk1 s1 => ?_
            walk_at "run"
            have mn : (if (w : Int) + 1 < (W : Int) - 1 then (w : Int) + 1 else (W : Int) - 1) = ((min (W - 1) (w + 1) : Nat) : Int) := by split <;> omega
            rw [mn]
            walk_at "run"
            refine use_fetchN bk1 (by omega) fun k S2 hk bk2 s2 => ?_
            walk_at "run"
            refine st_ix_l (m := W) (show k < 3 by omega) (fun d hd => ?_) fun i hi => ?_
            · simp only [List.mem_cons, List.not_mem_nil, or_false] at hd
              rcases hd with rfl | rfl | rfl
              · exact ⟨_, rfl, by omega⟩
              · exact ⟨_, rfl, by omega⟩
              · exact ⟨_, rfl, hw⟩
            have e2 : S2 p2 = some (.lst (rows.map rowD)) := by rw [s2 _ hpb hph, s1 _ hpb hph]; exact e
            walk_at "run"
            refine st_append e2 (by rw [List.length_map, sizeLine_val]; omega) ?_
            walk_at "run"
            exact nx (.call i th) _ ⟨hi, hth⟩ (bk2.sup hpb hph) (by rw [sup_same, List.map_append]; rfl) fun a h1 h2 h3 => by rw [sup_ne h3, s2 a h1 h2, s1 a h1 h2]
        · walk_at "run"
          rw [isSeq_ref]
          refine ⟨⟨_, e⟩, ?_⟩
          walk_at "run"
          refine use_fetchN bk (by omega) fun k S2 hk bk2 s2 => ?_
          walk_at "run"
          refine st_ix_l (m := N) (show k < 5 by omega) hnear fun i hi => ?_
          walk_at "run"
          refine use_fetchN bk2 (by omega) fun r S3 hr bk3 s3 => ?_
          have e3 : S3 p2 = some (.lst (rows.map rowD)) := by rw [s3 _ hpb hph, s2 _ hpb hph]; exact e
          have fin : ∀ l : List Nat, l.length ≤ 100 → (∀ n ∈ l, n < N) → D'.nx [some (.ref b), some (iD W), m, some (.int hb), some (.ref p), some (iD w), some (iD N), some (.ref p2), some (iD t), some (.lst [iD n0, iD n1, iD n2, iD n3, iD n4]), some (iD th), some (iD way)] (L3.sup S3 p2 (.lst (rows.map rowD ++ [rowD (.choose l)]))) := fun l l1 l2 =>
            nx (.choose l) _ ⟨l1, l2⟩ (bk3.sup hpb hph) (by rw [sup_same, List.map_append]; rfl) fun a h1 h2 h3 => by rw [sup_ne h3, s3 a h1 h2, s2 a h1 h2]
          have r01 : r = 0 ∨ r = 1 := by omega
          rcases r01 with rfl | rfl
          · walk_at "run"
            refine ⟨by decide, by decide, show 1 ≤ 1000 by decide, ?_⟩
            rw [show (List.replicate ((0 : Nat) : Int).toNat [iD n0]).flatten = ([] : List D) from rfl]
            refine st_add_t (show 2 + 0 ≤ sizeLine by rw [sizeLine_val]; decide) ?_
            walk_at "run"
            refine st_append e3 (by rw [List.length_map, sizeLine_val]; omega) ?_
            walk_at "run"
            exact fin [th, i] (show 2 ≤ 100 by decide) fun n hn => by
              simp only [List.mem_cons, List.not_mem_nil, or_false] at hn
              rcases hn with rfl | rfl <;> assumption
          · walk_at "run"
            refine ⟨by decide, by decide, show 1 ≤ 1000 by decide, ?_⟩
            rw [show (List.replicate ((1 : Nat) : Int).toNat [iD n0]).flatten = [iD n0] from rfl]
            refine st_add_t (show 2 + 1 ≤ sizeLine by rw [sizeLine_val]; decide) ?_
            walk_at "run"
            refine st_append e3 (by rw [List.length_map, sizeLine_val]; omega) ?_
            walk_at "run"
            exact fin [th, i, n0] (show 3 ≤ 100 by decide) fun n hn => by
              simp only [List.mem_cons, List.not_mem_nil, or_false] at hn
              rcases hn with rfl | rfl | rfl <;> assumption
end L3

set_option Elab.async false
set_option maxRecDepth 100000
set_option linter.all false
set_option maxHeartbeats 4000000
namespace L3
open PySem L2 L3.K9
local macro_rules | `(tactic| walk_at "cond") => `(tactic| first | omega | (simp only [List.length_append, List.length_cons, List.length_nil, List.length_take, List.length_drop, List.length_map, List.length_reverse]; omega) | rfl | decide)
local macro_rules | `(tactic| walk_at "side") => `(tactic| first | assumption | omega | (simp only [List.length_append, List.length_cons, List.length_nil, List.length_take, List.length_drop, List.length_map, List.length_reverse, sizeLine_val]; omega) | decide)
local macro_rules | `(tactic| walk_at "st") => `(tactic| first
  | with_reducible refine st_ix0 ?_ | with_reducible refine st_ix1 ?_ | with_reducible refine st_ix2 ?_ | with_reducible refine st_ix3 ?_ | with_reducible refine st_ix4 ?_
  | with_reducible refine st_add_pp (by walk_at "side") ?_ | with_reducible refine st_add_p1 (by walk_at "side") ?_ | with_reducible refine st_add_1p (by walk_at "side") ?_
  | with_reducible refine st_add ?_ | with_reducible refine st_sub ?_ | with_reducible refine st_iadd ?_ | with_reducible refine st_neg ?_
  | with_reducible refine st_len_p ?_ | with_reducible refine st_len_lp ?_ | with_reducible refine st_len_rp ?_ | with_reducible refine st_len_t ?_ | with_reducible refine st_len_l ?_
  | with_reducible refine st_add_t (by walk_at "side") ?_ | with_reducible refine st_add_l (by walk_at "side") ?_ | with_reducible refine st_add_s (by walk_at "side") ?_
  | with_reducible refine st_tru_bl ?_ | with_reducible refine st_tru_int ?_ | with_reducible refine st_tru_tup ?_ | with_reducible refine st_tru_lst ?_ | with_reducible refine st_tru_non ?_
  | with_reducible refine st_at (by assumption) ?_ | with_reducible refine st_atl (by assumption) ?_
  | with_reducible refine st_iteT ?_ | with_reducible refine st_iteF ?_ | with_reducible refine st_not ?_
  | with_reducible refine st_lt ?_ | with_reducible refine st_le ?_ | with_reducible refine st_gt ?_ | with_reducible refine st_ge ?_ | with_reducible refine st_eqi ?_ | with_reducible refine st_nei ?_ | with_reducible refine st_eqs ?_ | with_reducible refine st_nes ?_ | with_reducible refine st_eqb ?_
  | with_reducible refine st_isn_non ?_ | with_reducible refine st_isn_int ?_ | with_reducible refine st_isn_tup ?_ | with_reducible refine st_isn_str ?_ | with_reducible refine st_isn_bl ?_
  | with_reducible refine st_isnt_non ?_ | with_reducible refine st_isnt_int ?_ | with_reducible refine st_isnt_tup ?_ | with_reducible refine st_isnt_str ?_
  | with_reducible refine st_int ?_ | with_reducible refine st_intb ?_ | with_reducible refine st_abs ?_ | with_reducible refine st_min2 ?_ | with_reducible refine st_max2 ?_
  | with_reducible refine st_tup_l ?_ | with_reducible refine st_tup_t ?_ | with_reducible refine st_lst_t ?_ | with_reducible refine st_lst_l ?_
  | with_reducible refine st_sl_from ?_ | with_reducible refine st_sl_to ?_
  | with_reducible refine st_lx0 ?_ | with_reducible refine st_lx1 ?_ | with_reducible refine st_lx2 ?_ | with_reducible refine st_lx3 ?_
  | with_reducible refine st_mod (by walk_at "side") ?_ | with_reducible refine st_div (by walk_at "side") ?_ | with_reducible refine st_mul (by walk_at "side") ?_ | with_reducible refine st_mul' (by walk_at "side") ?_
  | with_reducible refine st_isi rfl ?_
  | (with_reducible refine And.intro (Nat.le_of_ble_eq_true rfl) ?_)
  | (refine And.intro (rfl : (_ : Nat) = _) ?_)
  | with_reducible refine st_dT (by walk_at "cond") ?_ | with_reducible refine st_dF (by walk_at "cond") ?_)
local macro_rules | `(tactic| walk_at "hd") => `(tactic| (with_reducible conv => whnf))
local macro_rules | `(tactic| walk_at "run") => `(tactic| ((with_reducible conv => whnf); repeat (walk_at "st"; (with_reducible conv => whnf))))
/-! ### codes that are drawn: all of it -/
/-- what was drawn from stays, the rest is let go -/
theorem ends_keep {P : DK} {d : D} {S S' : Sto} {b h : Addr} (bk' : Bk S' b h) (kp : ∀ a o, a ≠ b → a ≠ h → S a = some o → S' a = some o) (q : ∀ S4, Bk S4 b h → (∀ a, a ≠ b → a ≠ h → S4 a = S a) → P d S4) : Fin_ P d S' := by
  have e : ∀ a, (a = b ∨ a = h) → (fun a => if a = b ∨ a = h then S' a else S a) a = S' a := fun a z => if_pos z
  have e2 : ∀ a, ¬ (a = b ∨ a = h) → (fun a => if a = b ∨ a = h then S' a else S a) a = S a := fun a z => if_neg z
  refine ⟨d, fun a => if a = b ∨ a = h then S' a else S a, fun a o ha => ?_, .refl _, q _ ?_ fun a h1 h2 => e2 a fun z => z.elim h1 h2⟩
  · by_cases z : a = b ∨ a = h
    · rw [← e a z]; exact ha
    · rw [e2 a z] at ha
      exact kp a o (fun y => z (.inl y)) (fun y => z (.inr y)) ha
  · obtain ⟨w, l, ns, e1, e3⟩ := bk'
    exact ⟨w, l, ns, by rw [e b (.inl rfl)]; exact e1, by rw [e h (.inr rfl)]; exact e3⟩
def sp_law_code (x w m k : D) (S : Sto) (Q : DK) : Prop := ∃ (b h : Addr) (W M : Nat) (hb : Int), x = .ref b ∧ w = iD W ∧ m = iD M ∧ k = .int hb ∧ W ≤ 100 ∧ 0 < M ∧ M ≤ 100 ∧ Bk S b h ∧
  ∀ c S', c.length = W → WF c → Bk S' b h → (∀ a, a ≠ b → a ≠ h → S' a = S a) → Q (codeD c) S'
-- _law_code : 0=basket 1=words 2=most 3=habit 4=code 5=word 6=many 7=rows 8=at 9=near 10=then 11=way
def rd_law_code : DTS :=
    (dSeq (dAsg (dLstM dNil) (dTg (.nm 4)))
    (dSeq (dFor (iRange1 (dVar 1)) (dTg (.nm 5)) (dSeq (dAsg (dOp vAdd (dC (.int 1)) (dCall (a2 sp_law_fetch) (dCons (dVar 0) (dCons (dVar 2) dNil)))) (dTg (.nm 6)))
    (dSeq (dAsg (dLstM dNil) (dTg (.nm 7)))
    (dSeq (dFor (iRange1 (dVar 6)) (dTg (.nm 8)) (dSeq (dAsg (dLst (dCons (dCall (a2 sp_law_fetch) (dCons (dVar 0) (dCons (dVar 6) dNil))) (dCons (dCB vMin2 (dCons (dOp vSub (dVar 6) (dC (.int 1))) (dCons (dOp vAdd (dVar 8) (dC (.int 1))) dNil))) (dCons (dCB vMin2 (dCons (dOp vSub (dVar 6) (dC (.int 1))) (dCons (dOp vAdd (dVar 8) (dC (.int 1))) dNil))) (dCons (dOp vSub (dVar 6) (dC (.int 1))) (dCons (dCall (a2 sp_law_fetch) (dCons (dVar 0) (dCons (dOp vAdd (dVar 8) (dC (.int 1))) dNil))) dNil)))))) (dTg (.nm 9)))
    (dSeq (dAsg (dOp vIx (dVar 9) (dIfE (dTest (dOp vLt (dVar 3) (dC (.int 3)))) (dCall (a2 sp_law_fetch) (dCons (dVar 0) (dCons (dC (.int 5)) dNil))) (dOp vAdd (dC (.int 1)) (dCall (a2 sp_law_fetch) (dCons (dVar 0) (dCons (dC (.int 3)) dNil)))))) (dTg (.nm 10)))
    (dSeq (dAsg (dCall (a2 sp_law_fetch) (dCons (dVar 0) (dCons (dC (.int 8)) dNil))) (dTg (.nm 11)))
    (dIf (dOr (dAnd (dTest (dOp vEq (dVar 8) (dOp vSub (dVar 6) (dC (.int 1))))) (dTest (dOp vGt (dCall (a2 sp_law_fetch) (dCons (dVar 0) (dCons (dC (.int 4)) dNil))) (dC (.int 0))))) (dTest (dOp vEq (dVar 11) (dC (.int 7))))) (dDrop (dLM vAppend (dVar 7) (dCons (dTup (dCons (dC (.str "return")) dNil)) dNil))) (dIf (dTest (dOp vLt (dVar 11) (dC (.int 2)))) (dDrop (dLM vAppend (dVar 7) (dCons (dTup (dCons (dC (.str "deed")) (dCons (dTup dNil) (dCons (dTup dNil) (dCons (dVar 10) dNil))))) dNil))) (dIf (dAnd (dTest (dOp vLt (dVar 11) (dC (.int 5)))) (dTest (dOp vNe (dVar 3) (dC (.int 1))))) (dDrop (dLM vAppend (dVar 7) (dCons (dTup (dCons (dC (.str "call")) (dCons (dOp vIx (dLst (dCons (dCall (a2 sp_law_fetch) (dCons (dVar 0) (dCons (dVar 1) dNil))) (dCons (dCB vMin2 (dCons (dOp vSub (dVar 1) (dC (.int 1))) (dCons (dOp vAdd (dVar 5) (dC (.int 1))) dNil))) (dCons (dVar 5) dNil)))) (dCall (a2 sp_law_fetch) (dCons (dVar 0) (dCons (dC (.int 3)) dNil)))) (dCons (dVar 10) dNil)))) dNil))) (dDrop (dLM vAppend (dVar 7) (dCons (dTup (dCons (dC (.str "choose")) (dCons (dOp vAdd (dTup (dCons (dVar 10) (dCons (dOp vIx (dVar 9) (dCall (a2 sp_law_fetch) (dCons (dVar 0) (dCons (dC (.int 5)) dNil)))) dNil))) (dOp vMul (dTup (dCons (dOp vIx (dVar 9) (dC (.int 0))) dNil)) (dCall (a2 sp_law_fetch) (dCons (dVar 0) (dCons (dC (.int 2)) dNil))))) dNil))) dNil))))))))))
    (dDrop (dLM vAppend (dVar 4) (dCons (dCB vTuple (dCons (dVar 7) dNil)) dNil)))))))
    (dRet (dCB vTuple (dCons (dVar 4) dNil)))))
theorem rd_law_code_ok : ∀ ds S P, (a4 sp_law_code) ds S P → rd_law_code (DEnds.of P) (dstart ["basket", "words", "most", "habit", "code", "word", "many", "rows", "at", "near", "then", "way"] ds) S := by
  intro ds S P hsp
  rcases ds with _ | ⟨x, _ | ⟨w, _ | ⟨m, _ | ⟨k, _ | ⟨y, ds⟩⟩⟩⟩⟩ <;> first | exact (hsp : False).elim | skip
  obtain ⟨b, h, W, M, hb, rfl, rfl, rfl, rfl, hW, hM0, hM, bk, q⟩ := (hsp : sp_law_code x w m k S P)
  unfold rd_law_code
  walk_at "run"
  intro p hp
  have hpb := bk.in_b hp
  have hph := bk.in_h hp
  walk_at "run"
  have k0 : ∀ a o, a ≠ b → a ≠ h → S a = some o → L3.sup S p (.lst []) a = some o := fun a o h1 h2 h3 => by
    rw [sup_ne fun z => by subst z; rw [hp] at h3; cases h3]
    exact h3
  refine ⟨by omega, by omega, ?_⟩
  rw [Int.toNat_natCast]
  refine forL_inv (fun i δ S' => ∃ (c : List (List Row)) (x5 x6 x7 x8 x9 x10 x11 : Option D), c.length = i ∧ (∀ rows ∈ c, 0 < rows.length ∧ rows.length ≤ 100 ∧ ∀ r ∈ rows, RowOk W rows.length r) ∧ Bk S' b h ∧
    S' p = some (.lst (c.map fun rows => .tup (rows.map rowD))) ∧ (∀ a o, a ≠ b → a ≠ h → S a = some o → S' a = some o) ∧
    δ = [some (.ref b), some (iD W), some (iD M), some (.int hb), some (.ref p), x5, x6, x7, x8, x9, x10, x11]) (fun _ _ _ _ => True.intro) _ 0 _ _
    ⟨[], none, none, none, none, none, none, none, rfl, (by intro _ hr; cases hr), bk.sup hpb hph, sup_same, k0, rfl⟩ ?_ ?_
  · rintro w d _ S' hj ⟨c, x5, x6, x7, x8, x9, x10, x11, hc, wf, bk', ep', kp', rfl⟩ D2 hrt _ hnx _
    obtain ⟨hw, rfl⟩ := rng_at hj
    rw [Nat.zero_add] at hc hnx
    walk_at "run"
    refine use_fetchN bk' (by omega) fun r S1 hr bk1 s1 => ?_
    walk_at "run"
    obtain ⟨N, hN⟩ : ∃ N : Nat, 1 + (r : Int) = (N : Int) := ⟨1 + r, by omega⟩
    rw [hN]
    have N0 : 0 < N := by omega
    have hN : N ≤ 100 := by omega
    intro p2 hp2
    have h2b := bk1.in_b hp2
    have h2h := bk1.in_h hp2
    have h2p : p2 ≠ p := fun z => by subst z; rw [s1 _ h2b h2h, ep'] at hp2; cases hp2
    have hS2 : ∀ {o : SO}, S p2 = some o → S1 p2 = some o := fun h3 => by rw [s1 _ h2b h2h]; exact kp' _ _ h2b h2h h3
    walk_at "run"
    have epp : L3.sup S1 p2 (.lst []) p = some (.lst (c.map fun rows => .tup (rows.map rowD))) := by
      rw [sup_ne (Ne.symm h2p), s1 _ hpb hph]
      exact ep'
    have k2 : ∀ a o, a ≠ b → a ≠ h → S a = some o → L3.sup S1 p2 (.lst []) a = some o := fun a o h1 h2 h3 => by
      rw [sup_ne fun z => by subst z; rw [hS2 h3] at hp2; cases hp2]
      rw [s1 a h1 h2]
      exact kp' a o h1 h2 h3
    refine ⟨by omega, by omega, ?_⟩
    rw [Int.toNat_natCast]
    refine forL_inv (fun i δ S'' => ∃ (rows : List Row) (x8 x9 x10 x11 : Option D), rows.length = i ∧ (∀ r ∈ rows, RowOk W N r) ∧ Bk S'' b h ∧
      S'' p = some (.lst (c.map fun rows => .tup (rows.map rowD))) ∧ S'' p2 = some (.lst (rows.map rowD)) ∧ (∀ a o, a ≠ b → a ≠ h → S a = some o → S'' a = some o) ∧
      δ = [some (.ref b), some (iD W), some (iD M), some (.int hb), some (.ref p), some (iD w), some (iD N), some (.ref p2), x8, x9, x10, x11]) (fun _ _ _ _ => True.intro) _ 0 _ _
      ⟨[], x8, x9, x10, x11, rfl, (by intro _ hr; cases hr), bk1.sup h2b h2h, epp, sup_same, k2, rfl⟩ ?_ ?_
    · rintro t d _ S'' hj2 ⟨rows, x8, x9, x10, x11, hl, ro, bk'', ep, e2, kp, rfl⟩ D3 hrt3 _ hnx3 _
      obtain ⟨ht, rfl⟩ := rng_at hj2
      rw [Nat.zero_add] at hl hnx3
      walk_at "run"
      refine use_fetchN bk'' (by omega) fun n0 S1' g0 bk1 s1 => ?_
      have g0 : n0 < N := by omega
      walk_at "run"
      have mn : (if (t : Int) + 1 < (N : Int) - 1 then (t : Int) + 1 else (N : Int) - 1) = ((min (N - 1) (t + 1) : Nat) : Int) := by split <;> omega
      have mn1 : (N : Int) - 1 = ((N - 1 : Nat) : Int) := by omega
      refine use_fetchN bk1 (by omega) fun n4 S2 g4 bk2 s2 => ?_
      walk_at "run"
      rw [mn, mn1]
      walk_at "run"
      by_cases h3 : hb < 3
      · rw [decide_eq_true h3]
        walk_at "run"
        refine use_fetchN bk2 (by omega) fun k S3 hk bk3 s3 => ?_
        walk_at "run"
        refine st_ix_l (m := N) (show k < 5 by omega) (fun d hd => ?_) fun th hth => ?_
        · simp only [List.mem_cons, List.not_mem_nil, or_false] at hd
          rcases hd with rfl | rfl | rfl | rfl | rfl
          · exact ⟨_, rfl, g0⟩
          · exact ⟨_, rfl, by omega⟩
          · exact ⟨_, rfl, by omega⟩
          · exact ⟨_, rfl, by omega⟩
          · exact ⟨_, rfl, by omega⟩
        walk_at "run"
        refine use_fetchN bk3 (by omega) fun way S4 hway bk4 s4 => ?_
        walk_at "run"
        have s14 : ∀ a, a ≠ b → a ≠ h → S4 a = S'' a := fun a h1 h2 => by rw [s4 a h1 h2, s3 a h1 h2, s2 a h1 h2, s1 a h1 h2]
        refine code_row bk4 (by rw [s14 _ h2b h2h]; exact e2) h2b h2h hW hw ht hN (by omega) hth g0 (by omega) (by omega) (by omega) (by omega) fun row S5 ok bk5 e5 s5 => ?_
        refine hnx3 _ _ ⟨rows ++ [row], _, _, _, _, by rw [List.length_append, hl]; rfl, fun r hr => ?_, bk5, by rw [s5 _ hpb hph (Ne.symm h2p), s14 _ hpb hph]; exact ep, e5, fun a o h1 h2 h3 => ?_, rfl⟩
        · rcases List.mem_append.mp hr with hr | hr
          · exact ro r hr
          · rw [List.mem_singleton.mp hr]; exact ok
        · rw [s5 a h1 h2 fun z => by subst z; rw [hS2 h3] at hp2; cases hp2]
          rw [s14 a h1 h2]
          exact kp a o h1 h2 h3
      · rw [decide_eq_false h3]
        walk_at "run"
        refine use_fetchN bk2 (by omega) fun k S3 hk bk3 s3 => ?_
        walk_at "run"
        rw [show 1 + (k : Int) = ((1 + k : Nat) : Int) by omega]
        refine st_ix_l (m := N) (show 1 + k < 5 by omega) (fun d hd => ?_) fun th hth => ?_
        · simp only [List.mem_cons, List.not_mem_nil, or_false] at hd
          rcases hd with rfl | rfl | rfl | rfl | rfl
          · exact ⟨_, rfl, g0⟩
          · exact ⟨_, rfl, by omega⟩
          · exact ⟨_, rfl, by omega⟩
          · exact ⟨_, rfl, by omega⟩
          · exact ⟨_, rfl, by omega⟩
        walk_at "run"
        refine use_fetchN bk3 (by omega) fun way S4 hway bk4 s4 => ?_
        walk_at "run"
        have s14 : ∀ a, a ≠ b → a ≠ h → S4 a = S'' a := fun a h1 h2 => by rw [s4 a h1 h2, s3 a h1 h2, s2 a h1 h2, s1 a h1 h2]
        refine code_row bk4 (by rw [s14 _ h2b h2h]; exact e2) h2b h2h hW hw ht hN (by omega) hth g0 (by omega) (by omega) (by omega) (by omega) fun row S5 ok bk5 e5 s5 => ?_
        refine hnx3 _ _ ⟨rows ++ [row], _, _, _, _, by rw [List.length_append, hl]; rfl, fun r hr => ?_, bk5, by rw [s5 _ hpb hph (Ne.symm h2p), s14 _ hpb hph]; exact ep, e5, fun a o h1 h2 h3 => ?_, rfl⟩
        · rcases List.mem_append.mp hr with hr | hr
          · exact ro r hr
          · rw [List.mem_singleton.mp hr]; exact ok
        · rw [s5 a h1 h2 fun z => by subst z; rw [hS2 h3] at hp2; cases hp2]
          rw [s14 a h1 h2]
          exact kp a o h1 h2 h3
    · rintro _ S'' ⟨rows, x8, x9, x10, x11, hl, ro, bk'', ep, e2, kp, rfl⟩
      rw [rng_len, Nat.zero_add] at hl
      walk_at "run"
      rw [isSeq_ref]
      refine ⟨⟨_, ep⟩, ?_⟩
      walk_at "run"
      refine st_tup_r e2 ?_
      walk_at "run"
      refine st_append ep (by rw [List.length_map, sizeLine_val]; omega) ?_
      walk_at "run"
      refine hnx _ _ ⟨c ++ [rows], _, _, _, _, _, _, _, by rw [List.length_append, hc]; rfl, fun rs hr => ?_, bk''.sup hpb hph, by rw [sup_same, List.map_append]; rfl, fun a o h1 h2 h3 => ?_, rfl⟩
      · rcases List.mem_append.mp hr with hr | hr
        · exact wf rs hr
        · rw [List.mem_singleton.mp hr, hl]; exact ⟨N0, hN, ro⟩
      · rw [sup_ne fun z => by subst z; rw [hp] at h3; cases h3]
        exact kp a o h1 h2 h3
  · rintro _ S' ⟨c, x5, x6, x7, x8, x9, x10, x11, hc, wf, bk', ep', kp', rfl⟩
    rw [rng_len, Nat.zero_add] at hc
    walk_at "run"
    refine st_tup_r ep' ?_
    exact ends_keep bk' kp' fun S4 bk4 s4 => q c S4 hc ⟨by omega, by rw [hc]; exact wf⟩ bk4 s4
theorem use_code {b h : Addr} {W M : Nat} {hb : Int} {S : Sto} {Q : DK} (bk : Bk S b h) (hW : W ≤ 100) (hM : 0 < M ∧ M ≤ 100) (q : ∀ c S', c.length = W → WF c → Bk S' b h → (∀ a, a ≠ b → a ≠ h → S' a = S a) → Q (codeD c) S') :
  sp_law_code (.ref b) (iD W) (iD M) (.int hb) S Q := ⟨b, h, W, M, hb, rfl, rfl, rfl, rfl, hW, hM.1, hM.2, bk, q⟩
end L3

set_option Elab.async false
set_option maxRecDepth 100000
set_option linter.all false
set_option maxHeartbeats 4000000
namespace L3
open PySem L2 L3.K9
local macro_rules | `(tactic| walk_at "cond") => `(tactic| first | omega | (simp only [List.length_append, List.length_cons, List.length_nil, List.length_take, List.length_drop, List.length_map, List.length_reverse]; omega) | rfl | decide)
local macro_rules | `(tactic| walk_at "side") => `(tactic| first | assumption | omega | (simp only [List.length_append, List.length_cons, List.length_nil, List.length_take, List.length_drop, List.length_map, List.length_reverse, sizeLine_val]; omega) | decide)
local macro_rules | `(tactic| walk_at "st") => `(tactic| first
  | with_reducible refine st_ix0 ?_ | with_reducible refine st_ix1 ?_ | with_reducible refine st_ix2 ?_ | with_reducible refine st_ix3 ?_ | with_reducible refine st_ix4 ?_
  | with_reducible refine st_add_pp (by walk_at "side") ?_ | with_reducible refine st_add_p1 (by walk_at "side") ?_ | with_reducible refine st_add_1p (by walk_at "side") ?_
  | with_reducible refine st_add ?_ | with_reducible refine st_sub ?_ | with_reducible refine st_iadd ?_ | with_reducible refine st_neg ?_
  | with_reducible refine st_len_p ?_ | with_reducible refine st_len_lp ?_ | with_reducible refine st_len_rp ?_ | with_reducible refine st_len_t ?_ | with_reducible refine st_len_l ?_
  | with_reducible refine st_add_t (by walk_at "side") ?_ | with_reducible refine st_add_l (by walk_at "side") ?_ | with_reducible refine st_add_s (by walk_at "side") ?_
  | with_reducible refine st_tru_bl ?_ | with_reducible refine st_tru_int ?_ | with_reducible refine st_tru_tup ?_ | with_reducible refine st_tru_lst ?_ | with_reducible refine st_tru_non ?_
  | with_reducible refine st_at (by assumption) ?_ | with_reducible refine st_atl (by assumption) ?_
  | with_reducible refine st_iteT ?_ | with_reducible refine st_iteF ?_ | with_reducible refine st_not ?_
  | with_reducible refine st_lt ?_ | with_reducible refine st_le ?_ | with_reducible refine st_gt ?_ | with_reducible refine st_ge ?_ | with_reducible refine st_eqi ?_ | with_reducible refine st_nei ?_ | with_reducible refine st_eqs ?_ | with_reducible refine st_nes ?_ | with_reducible refine st_eqb ?_
  | with_reducible refine st_isn_non ?_ | with_reducible refine st_isn_int ?_ | with_reducible refine st_isn_tup ?_ | with_reducible refine st_isn_str ?_ | with_reducible refine st_isn_bl ?_
  | with_reducible refine st_isnt_non ?_ | with_reducible refine st_isnt_int ?_ | with_reducible refine st_isnt_tup ?_ | with_reducible refine st_isnt_str ?_
  | with_reducible refine st_int ?_ | with_reducible refine st_intb ?_ | with_reducible refine st_abs ?_ | with_reducible refine st_min2 ?_ | with_reducible refine st_max2 ?_
  | with_reducible refine st_tup_l ?_ | with_reducible refine st_tup_t ?_ | with_reducible refine st_lst_t ?_ | with_reducible refine st_lst_l ?_
  | with_reducible refine st_sl_from ?_ | with_reducible refine st_sl_to ?_
  | with_reducible refine st_lx0 ?_ | with_reducible refine st_lx1 ?_ | with_reducible refine st_lx2 ?_ | with_reducible refine st_lx3 ?_
  | with_reducible refine st_mod (by walk_at "side") ?_ | with_reducible refine st_div (by walk_at "side") ?_ | with_reducible refine st_mul (by walk_at "side") ?_ | with_reducible refine st_mul' (by walk_at "side") ?_
  | with_reducible refine st_isi rfl ?_
  | (with_reducible refine And.intro (Nat.le_of_ble_eq_true rfl) ?_)
  | (refine And.intro (rfl : (_ : Nat) = _) ?_)
  | with_reducible refine st_dT (by walk_at "cond") ?_ | with_reducible refine st_dF (by walk_at "cond") ?_)
local macro_rules | `(tactic| walk_at "hd") => `(tactic| (with_reducible conv => whnf))
local macro_rules | `(tactic| walk_at "run") => `(tactic| ((with_reducible conv => whnf); repeat (walk_at "st"; (with_reducible conv => whnf))))
/-! ### one row other -/
theorem st_sl_tto {ds : List D} {k : Nat} {S : Sto} {Q : DK} (h : Q (.tup (ds.take k)) S) : vSl (.tup ds) none (some (k : Int)) S Q := by
  rw [vSl_tup, cut_to]; exact h
theorem st_sl_tfrom {ds : List D} {k : Nat} {S : Sto} {Q : DK} (h : Q (.tup (ds.drop k)) S) : vSl (.tup ds) (some (k : Int)) none S Q := by
  rw [vSl_tup, cut_from]; exact h
theorem st_ix_row {ds : List D} {k nw nr : Nat} {S : Sto} {Q : DK} (hk : k < ds.length) (hp : ∀ d ∈ ds, ∃ row, d = rowD row ∧ RowOk nw nr row) (h : ∀ row, RowOk nw nr row → Q (rowD row) S) : vIx (.lst ds) (.int (k : Int)) S Q := by
  obtain ⟨i, hi, lt⟩ := hp _ (List.getElem_mem hk)
  have g := List.getElem?_eq_getElem hk
  rw [hi] at g
  exact st_atl g (h i lt)
theorem wf_put {c : K9.Code} (wf : WF c) {w t : Nat} {rows : List Row} {row : Row} (e : c[w]? = some rows) (ht : t < rows.length) (ok : RowOk c.length rows.length row) :
    WF (c.take w ++ [rows.take t ++ [row] ++ rows.drop (t + 1)] ++ c.drop (w + 1)) ∧ (c.take w ++ [rows.take t ++ [row] ++ rows.drop (t + 1)] ++ c.drop (w + 1)).length = c.length := by
  obtain ⟨hw, _⟩ := List.getElem?_eq_some_iff.mp e
  have hl : (c.take w ++ [rows.take t ++ [row] ++ rows.drop (t + 1)] ++ c.drop (w + 1)).length = c.length := by
    simp only [List.length_append, List.length_take, List.length_drop, List.length_cons, List.length_nil]
    omega
  have hl2 : (rows.take t ++ [row] ++ rows.drop (t + 1)).length = rows.length := by
    simp only [List.length_append, List.length_take, List.length_drop, List.length_cons, List.length_nil]
    omega
  obtain ⟨h1, h2⟩ := wf
  obtain ⟨r1, r2, r3⟩ := h2 rows (List.mem_of_getElem? e)
  refine ⟨⟨by omega, fun rs hr => ?_⟩, hl⟩
  rw [hl]
  rcases List.mem_append.mp hr with hr | hr
  · rcases List.mem_append.mp hr with hr | hr
    · exact h2 rs (List.mem_of_mem_take hr)
    · rw [List.mem_singleton.mp hr, hl2]
      refine ⟨r1, r2, fun r hr => ?_⟩
      rcases List.mem_append.mp hr with hr | hr
      · rcases List.mem_append.mp hr with hr | hr
        · exact r3 r (List.mem_of_mem_take hr)
        · rw [List.mem_singleton.mp hr]; exact ok
      · exact r3 r (List.mem_of_mem_drop hr)
  · exact h2 rs (List.mem_of_mem_drop hr)
def sp_law_bent (x y : D) (S : Sto) (Q : DK) : Prop := ∃ b h c, x = .ref b ∧ y = codeD c ∧ WF c ∧ 0 < c.length ∧ Bk S b h ∧ ∀ c' S', c'.length = c.length → WF c' → Bk S' b h → (∀ a, a ≠ b → a ≠ h → S' a = S a) → Q (codeD c') S'
-- _law_bent : 0=basket 1=code 2=word 3=rows 4=at 5=other
def rd_law_bent : DTS :=
    (dSeq (dAsg (dCall (a2 sp_law_fetch) (dCons (dVar 0) (dCons (dCB vLen (dCons (dVar 1) dNil)) dNil))) (dTg (.nm 2)))
    (dSeq (dAsg (dOp vIx (dVar 1) (dVar 2)) (dTg (.nm 3)))
    (dSeq (dAsg (dCall (a2 sp_law_fetch) (dCons (dVar 0) (dCons (dCB vLen (dCons (dVar 3) dNil)) dNil))) (dTg (.nm 4)))
    (dSeq (dAsg (dLst (dCons (dTup (dCons (dC (.str "return")) dNil)) (dCons (dTup (dCons (dC (.str "choose")) (dCons (dTup (dCons (dVar 4) (dCons (dVar 4) dNil))) dNil))) (dCons (dTup (dCons (dC (.str "call")) (dCons (dVar 2) (dCons (dVar 4) dNil)))) (dCons (dTup (dCons (dC (.str "call")) (dCons (dCall (a2 sp_law_fetch) (dCons (dVar 0) (dCons (dCB vLen (dCons (dVar 1) dNil)) dNil))) (dCons (dOp vSub (dCB vLen (dCons (dVar 3) dNil)) (dC (.int 1))) dNil)))) (dCons (dTup (dCons (dC (.str "choose")) (dCons (dTup (dCons (dC (.int 0)) (dCons (dOp vSub (dCB vLen (dCons (dVar 3) dNil)) (dC (.int 1))) dNil))) dNil))) (dCons (dTup (dCons (dC (.str "deed")) (dCons (dTup dNil) (dCons (dTup dNil) (dCons (dCall (a2 sp_law_fetch) (dCons (dVar 0) (dCons (dCB vLen (dCons (dVar 3) dNil)) dNil))) dNil))))) dNil))))))) (dTg (.nm 5)))
    (dRet (dOp vAdd (dOp vAdd (dSl vSl (dVar 1) dNoPart (dPart (dVar 2))) (dTup (dCons (dOp vAdd (dOp vAdd (dSl vSl (dVar 3) dNoPart (dPart (dVar 4))) (dTup (dCons (dOp vIx (dVar 5) (dCall (a2 sp_law_fetch) (dCons (dVar 0) (dCons (dC (.int 6)) dNil)))) dNil))) (dSl vSl (dVar 3) (dPart (dOp vAdd (dVar 4) (dC (.int 1)))) dNoPart)) dNil))) (dSl vSl (dVar 1) (dPart (dOp vAdd (dVar 2) (dC (.int 1)))) dNoPart)))))))
theorem rd_law_bent_ok : ∀ ds S P, (a2 sp_law_bent) ds S P → rd_law_bent (DEnds.of P) (dstart ["basket", "code", "word", "rows", "at", "other"] ds) S := by
  intro ds S P hsp
  rcases ds with _ | ⟨x, _ | ⟨w, _ | ⟨y, ds⟩⟩⟩ <;> first | exact (hsp : False).elim | skip
  obtain ⟨b, h, c, rfl, rfl, wf, hc, bk, q⟩ := (hsp : sp_law_bent x w S P)
  unfold rd_law_bent
  have lc := wf.1
  walk_at "run"
  rw [List.length_map]
  refine use_fetchN bk (by omega) fun w S1 hw bk1 s1 => ?_
  have hw : w < c.length := by omega
  have e1 := List.getElem?_eq_getElem hw
  have wr := wf.2 _ (List.getElem_mem hw)
  generalize c[w] = rows at e1 wr
  obtain ⟨r1, r2, r3⟩ := wr
  have e3 : (c.map fun rows => D.tup (rows.map rowD))[w]? = some (.tup (rows.map rowD)) := by rw [List.getElem?_map, e1]; rfl
  walk_at "run"
  rw [List.length_map]
  refine use_fetchN bk1 (by omega) fun t S2 ht bk2 s2 => ?_
  have ht : t < rows.length := by omega
  walk_at "run"
  rw [List.length_map]
  refine use_fetchN bk2 (by omega) fun u S3 hu bk3 s3 => ?_
  have hu : u < c.length := by omega
  walk_at "run"
  rw [List.length_map]
  refine use_fetchN bk3 (by omega) fun v S4 hv bk4 s4 => ?_
  have hv : v < rows.length := by omega
  walk_at "run"
  refine st_sl_tto ?_
  walk_at "run"
  refine st_sl_tto ?_
  walk_at "run"
  refine use_fetchN bk4 (by omega) fun k S5 hk bk5 s5 => ?_
  refine st_ix_row (nw := c.length) (nr := rows.length) (show k < 6 by omega) (fun d hd => ?_) fun row ok => ?_
  · have en : (rows.length : Int) - 1 = ((rows.length - 1 : Nat) : Int) := by omega
    simp only [List.mem_cons, List.not_mem_nil, or_false] at hd
    rcases hd with rfl | rfl | rfl | rfl | rfl | rfl
    · exact ⟨.ret, rfl, True.intro⟩
    · exact ⟨.choose [t, t], rfl, show 2 ≤ 100 by decide, fun n hn => by
        simp only [List.mem_cons, List.not_mem_nil, or_false] at hn
        rcases hn with rfl | rfl <;> exact ht⟩
    · exact ⟨.call w t, rfl, hw, ht⟩
    · exact ⟨.call u (rows.length - 1), by rw [en]; rfl, hu, by omega⟩
    · exact ⟨.choose [0, rows.length - 1], by rw [en]; rfl, show 2 ≤ 100 by decide, fun n hn => by
        simp only [List.mem_cons, List.not_mem_nil, or_false] at hn
        rcases hn with rfl | rfl <;> omega⟩
    · exact ⟨.deed [] [] v, rfl, Nat.zero_le _, Nat.zero_le _, hv⟩
  walk_at "run"
  refine st_sl_tfrom (k := t + 1) ?_
  walk_at "run"
  refine st_sl_tfrom (k := w + 1) ?_
  walk_at "run"
  obtain ⟨wf', hl⟩ := wf_put wf e1 ht ok
  have fin := q _ S5 hl wf' bk5 fun a h1 h2 => by rw [s5 a h1 h2, s4 a h1 h2, s3 a h1 h2, s2 a h1 h2, s1 a h1 h2]
  simp only [codeD, List.map_append, List.map_take, List.map_drop, List.map_cons, List.map_nil] at fin
  exact .of fin
theorem use_bent {b h : Addr} {c : K9.Code} {S : Sto} {Q : DK} (bk : Bk S b h) (wf : WF c) (hc : 0 < c.length) (q : ∀ c' S', c'.length = c.length → WF c' → Bk S' b h → (∀ a, a ≠ b → a ≠ h → S' a = S a) → Q (codeD c') S') : sp_law_bent (.ref b) (codeD c) S Q := ⟨b, h, c, rfl, rfl, wf, hc, bk, q⟩
/-! ### a chain of words -/
def sp_law_chain (x y : D) (S : Sto) (Q : DK) : Prop := ∃ b h m, x = .ref b ∧ y = iD m ∧ 2 ≤ m ∧ m ≤ 100 ∧ Bk S b h ∧ ∀ c S', c.length = m → WF c → Bk S' b h → (∀ a, a ≠ b → a ≠ h → S' a = S a) → Q (codeD c) S'
-- _law_chain : 0=basket 1=many 2=free 3=ring 4=code 5=word 6=first
def rd_law_chain : DTS :=
    (dSeq (dAsg (dCall (a2 sp_law_fetch) (dCons (dVar 0) (dCons (dVar 1) dNil))) (dTg (.nm 2)))
    (dSeq (dAsg (dOp vEq (dCall (a2 sp_law_fetch) (dCons (dVar 0) (dCons (dC (.int 3)) dNil))) (dC (.int 0))) (dTg (.nm 3)))
    (dSeq (dAsg (dLstM dNil) (dTg (.nm 4)))
    (dSeq (dFor (iRange1 (dOp vSub (dVar 1) (dC (.int 1)))) (dTg (.nm 5)) (dSeq (dAsg (dIfE (dTest (dOp vEq (dVar 5) (dVar 2))) (dTup (dCons (dC (.str "choose")) (dCons (dTup (dCons (dC (.int 1)) (dCons (dC (.int 2)) dNil))) dNil))) (dTup (dCons (dC (.str "choose")) (dCons (dTup (dCons (dC (.int 1)) (dCons (dC (.int 1)) dNil))) dNil)))) (dTg (.nm 6)))
    (dDrop (dLM vAppend (dVar 4) (dCons (dTup (dCons (dVar 6) (dCons (dTup (dCons (dC (.str "call")) (dCons (dOp vAdd (dVar 5) (dC (.int 1))) (dCons (dC (.int 2)) dNil)))) (dCons (dTup (dCons (dC (.str "return")) dNil)) dNil)))) dNil)))))
    (dRet (dOp vAdd (dCB vTuple (dCons (dVar 4) dNil)) (dTup (dCons (dTup (dCons (dTup (dCons (dC (.str "deed")) (dCons (dTup dNil) (dCons (dTup dNil) (dCons (dIfE (dTru (dVar 3)) (dC (.int 0)) (dC (.int 1))) dNil))))) (dCons (dTup (dCons (dC (.str "return")) dNil)) dNil))) dNil))))))))
def lnk (w k : Nat) : List Row := [.choose [1, k], .call (w + 1) 2, .ret]
theorem lnk_ok {m w k : Nat} (hw : w + 1 < m) (hk : k < 3) : 0 < (lnk w k).length ∧ (lnk w k).length ≤ 100 ∧ ∀ r ∈ lnk w k, RowOk m (lnk w k).length r := by
  refine ⟨show 0 < 3 by decide, show 3 ≤ 100 by decide, fun r hr => ?_⟩
  simp only [lnk, List.mem_cons, List.not_mem_nil, or_false] at hr
  rcases hr with rfl | rfl | rfl
  · exact ⟨show 2 ≤ 100 by decide, fun n hn => by
      simp only [List.mem_cons, List.not_mem_nil, or_false] at hn
      rcases hn with rfl | rfl
      · show 1 < 3; decide
      · exact hk⟩
  · exact ⟨hw, show 2 < 3 by decide⟩
  · exact True.intro
theorem lst_ok {m k : Nat} (hk : k < 2) : 0 < ([.deed [] [] k, .ret] : List Row).length ∧ ([.deed [] [] k, .ret] : List Row).length ≤ 100 ∧ ∀ r ∈ ([.deed [] [] k, .ret] : List Row), RowOk m ([.deed [] [] k, .ret] : List Row).length r := by
  refine ⟨show 0 < 2 by decide, show 2 ≤ 100 by decide, fun r hr => ?_⟩
  simp only [List.mem_cons, List.not_mem_nil, or_false] at hr
  rcases hr with rfl | rfl
  · exact ⟨Nat.zero_le _, Nat.zero_le _, hk⟩
  · exact True.intro
theorem rd_law_chain_ok : ∀ ds S P, (a2 sp_law_chain) ds S P → rd_law_chain (DEnds.of P) (dstart ["basket", "many", "free", "ring", "code", "word", "first"] ds) S := by
  intro ds S P hsp
  rcases ds with _ | ⟨x, _ | ⟨w, _ | ⟨y, ds⟩⟩⟩ <;> first | exact (hsp : False).elim | skip
  obtain ⟨b, h, m, rfl, rfl, hm, hm2, bk, q⟩ := (hsp : sp_law_chain x w S P)
  unfold rd_law_chain
  walk_at "run"
  refine use_fetchN bk (by omega) fun f S1 hf bk1 s1 => ?_
  walk_at "run"
  refine use_fetchN bk1 (by omega) fun r S2 hr bk2 s2 => ?_
  walk_at "run"
  generalize decide ((r : Int) = 0) = ring
  have s12 : ∀ a, a ≠ b → a ≠ h → S2 a = S a := fun a h1 h2 => by rw [s2 a h1 h2, s1 a h1 h2]
  intro p hp
  have hpb := bk2.in_b hp
  have hph := bk2.in_h hp
  walk_at "run"
  have em : (m : Int) - 1 = ((m - 1 : Nat) : Int) := by omega
  rw [em]
  have k0 : ∀ a o, a ≠ b → a ≠ h → S a = some o → L3.sup S2 p (.lst []) a = some o := fun a o h1 h2 h3 => by
    rw [sup_ne fun z => by subst z; rw [s12 _ h1 h2, h3] at hp; cases hp]
    rw [s12 a h1 h2]
    exact h3
  refine ⟨by omega, by omega, ?_⟩
  rw [Int.toNat_natCast]
  refine forL_inv (fun i δ S' => ∃ (c : List (List Row)) (x5 x6 : Option D), c.length = i ∧ (∀ rows ∈ c, 0 < rows.length ∧ rows.length ≤ 100 ∧ ∀ r ∈ rows, RowOk m rows.length r) ∧ Bk S' b h ∧
    S' p = some (.lst (c.map fun rows => .tup (rows.map rowD))) ∧ (∀ a o, a ≠ b → a ≠ h → S a = some o → S' a = some o) ∧
    δ = [some (.ref b), some (iD m), some (iD f), some (.bl ring), some (.ref p), x5, x6]) (fun _ _ _ _ => True.intro) _ 0 _ _
    ⟨[], none, none, rfl, (by intro _ hr; cases hr), bk2.sup hpb hph, sup_same, k0, rfl⟩ ?_ ?_
  · rintro w d _ S' hj ⟨c, x5, x6, hc, wf, bk', ep', kp', rfl⟩ D2 hrt _ hnx _
    obtain ⟨hw, rfl⟩ := rng_at hj
    rw [Nat.zero_add] at hc hnx
    walk_at "run"
    have put : ∀ k, k < 3 → D2.nx [some (.ref b), some (iD m), some (iD f), some (.bl ring), some (.ref p), some (iD w), some (rowD (.choose [1, k]))] (L3.sup S' p (.lst (c.map (fun rows => .tup (rows.map rowD)) ++ [.tup ((lnk w k).map rowD)]))) := fun k hk => by
      refine hnx _ _ ⟨c ++ [lnk w k], _, _, by rw [List.length_append, hc]; rfl, fun rs hr => ?_, bk'.sup hpb hph, by rw [sup_same, List.map_append]; rfl, fun a o h1 h2 h3 => ?_, rfl⟩
      · rcases List.mem_append.mp hr with hr | hr
        · exact wf rs hr
        · rw [List.mem_singleton.mp hr]; exact lnk_ok (by omega) hk
      · rw [sup_ne fun z => by subst z; rw [s12 _ h1 h2, h3] at hp; cases hp]
        exact kp' a o h1 h2 h3
    by_cases z : (w : Int) = (f : Int)
    · rw [decide_eq_true z]
      walk_at "run"
      rw [isSeq_ref]
      refine ⟨⟨_, ep'⟩, ?_⟩
      walk_at "run"
      refine st_append ep' (by rw [List.length_map, sizeLine_val]; omega) ?_
      walk_at "run"
      exact put 2 (by decide)
    · rw [decide_eq_false z]
      walk_at "run"
      rw [isSeq_ref]
      refine ⟨⟨_, ep'⟩, ?_⟩
      walk_at "run"
      refine st_append ep' (by rw [List.length_map, sizeLine_val]; omega) ?_
      walk_at "run"
      exact put 1 (by decide)
  · rintro _ S' ⟨c, x5, x6, hc, wf, bk', ep', kp', rfl⟩
    rw [rng_len, Nat.zero_add] at hc
    walk_at "run"
    refine st_tup_r ep' ?_
    walk_at "run"
    have fin : ∀ k, k < 2 → Fin_ P (.tup (c.map (fun rows => .tup (rows.map rowD)) ++ [.tup [rowD (.deed [] [] k), rowD .ret]])) S' := fun k hk => by
      have hl : (c ++ [[Row.deed [] [] k, Row.ret]]).length = m := by rw [List.length_append, hc]; simp only [List.length_cons, List.length_nil]; omega
      have := ends_keep (P := P) (d := codeD (c ++ [[Row.deed [] [] k, Row.ret]])) bk' kp' fun S4 bk4 s4 => q _ S4 hl ⟨by omega, fun rs hr => by
        rw [hl]
        rcases List.mem_append.mp hr with hr | hr
        · exact wf rs hr
        · rw [List.mem_singleton.mp hr]; exact lst_ok hk⟩ bk4 s4
      simp only [codeD, List.map_append] at this
      exact this
    cases ring with
    | true =>
      walk_at "run"
      exact fin 0 (by decide)
    | false =>
      walk_at "run"
      exact fin 1 (by decide)
theorem use_chain {b h : Addr} {m : Nat} {S : Sto} {Q : DK} (bk : Bk S b h) (hm : 2 ≤ m ∧ m ≤ 100) (q : ∀ c S', c.length = m → WF c → Bk S' b h → (∀ a, a ≠ b → a ≠ h → S' a = S a) → Q (codeD c) S') : sp_law_chain (.ref b) (iD m) S Q := ⟨b, h, m, rfl, rfl, hm.1, hm.2, bk, q⟩
end L3

set_option Elab.async false
set_option maxRecDepth 100000
set_option linter.all false
set_option maxHeartbeats 4000000
namespace L3
open PySem L2 L3.K9
local macro_rules | `(tactic| walk_at "cond") => `(tactic| first | omega | (simp only [List.length_append, List.length_cons, List.length_nil, List.length_take, List.length_drop, List.length_map, List.length_reverse]; omega) | rfl | decide)
local macro_rules | `(tactic| walk_at "side") => `(tactic| first | assumption | omega | (simp only [List.length_append, List.length_cons, List.length_nil, List.length_take, List.length_drop, List.length_map, List.length_reverse, sizeLine_val]; omega) | decide)
local macro_rules | `(tactic| walk_at "st") => `(tactic| first
  | with_reducible refine st_ix0 ?_ | with_reducible refine st_ix1 ?_ | with_reducible refine st_ix2 ?_ | with_reducible refine st_ix3 ?_ | with_reducible refine st_ix4 ?_
  | with_reducible refine st_add_pp (by walk_at "side") ?_ | with_reducible refine st_add_p1 (by walk_at "side") ?_ | with_reducible refine st_add_1p (by walk_at "side") ?_
  | with_reducible refine st_add ?_ | with_reducible refine st_sub ?_ | with_reducible refine st_iadd ?_ | with_reducible refine st_neg ?_
  | with_reducible refine st_len_p ?_ | with_reducible refine st_len_lp ?_ | with_reducible refine st_len_rp ?_ | with_reducible refine st_len_t ?_ | with_reducible refine st_len_l ?_
  | with_reducible refine st_add_t (by walk_at "side") ?_ | with_reducible refine st_add_l (by walk_at "side") ?_ | with_reducible refine st_add_s (by walk_at "side") ?_
  | with_reducible refine st_tru_bl ?_ | with_reducible refine st_tru_int ?_ | with_reducible refine st_tru_tup ?_ | with_reducible refine st_tru_lst ?_ | with_reducible refine st_tru_non ?_
  | with_reducible refine st_at (by assumption) ?_ | with_reducible refine st_atl (by assumption) ?_
  | with_reducible refine st_iteT ?_ | with_reducible refine st_iteF ?_ | with_reducible refine st_not ?_
  | with_reducible refine st_lt ?_ | with_reducible refine st_le ?_ | with_reducible refine st_gt ?_ | with_reducible refine st_ge ?_ | with_reducible refine st_eqi ?_ | with_reducible refine st_nei ?_ | with_reducible refine st_eqs ?_ | with_reducible refine st_nes ?_ | with_reducible refine st_eqb ?_
  | with_reducible refine st_isn_non ?_ | with_reducible refine st_isn_int ?_ | with_reducible refine st_isn_tup ?_ | with_reducible refine st_isn_str ?_ | with_reducible refine st_isn_bl ?_
  | with_reducible refine st_isnt_non ?_ | with_reducible refine st_isnt_int ?_ | with_reducible refine st_isnt_tup ?_ | with_reducible refine st_isnt_str ?_
  | with_reducible refine st_int ?_ | with_reducible refine st_intb ?_ | with_reducible refine st_abs ?_ | with_reducible refine st_min2 ?_ | with_reducible refine st_max2 ?_
  | with_reducible refine st_tup_l ?_ | with_reducible refine st_tup_t ?_ | with_reducible refine st_lst_t ?_ | with_reducible refine st_lst_l ?_
  | with_reducible refine st_sl_from ?_ | with_reducible refine st_sl_to ?_
  | with_reducible refine st_lx0 ?_ | with_reducible refine st_lx1 ?_ | with_reducible refine st_lx2 ?_ | with_reducible refine st_lx3 ?_
  | with_reducible refine st_mod (by walk_at "side") ?_ | with_reducible refine st_div (by walk_at "side") ?_ | with_reducible refine st_mul (by walk_at "side") ?_ | with_reducible refine st_mul' (by walk_at "side") ?_
  | with_reducible refine st_isi rfl ?_
  | (with_reducible refine And.intro (Nat.le_of_ble_eq_true rfl) ?_)
  | (refine And.intro (rfl : (_ : Nat) = _) ?_)
  | with_reducible refine st_dT (by walk_at "cond") ?_ | with_reducible refine st_dF (by walk_at "cond") ?_)
local macro_rules | `(tactic| walk_at "hd") => `(tactic| (with_reducible conv => whnf))
local macro_rules | `(tactic| walk_at "run") => `(tactic| ((with_reducible conv => whnf); repeat (walk_at "st"; (with_reducible conv => whnf))))
/-! ### all that is asked of a code -/
theorem erows_eq (c : K9.Code) : (endedM c).map erowD = (List.range c.length).map fun w => D.tup (((List.range (rowsOf c w).length).filter fun r => E c w r).map iD) := by
  have fm := fits_ended c
  apply List.ext_getElem?
  intro w
  rw [List.getElem?_map, List.getElem?_map]
  by_cases hw : w < c.length
  · obtain ⟨k, e1, hl⟩ := fm.get (List.getElem?_eq_getElem hw)
    rw [e1, List.getElem?_range hw]
    have er : rowsOf c w = c[w] := by unfold rowsOf; rw [List.getElem?_eq_getElem hw]; rfl
    simp only [Option.map_some, erowD, er, hl]
    have : (fun r => atB k r) = fun r => E c w r := by
      funext r
      unfold E at2
      rw [e1]
    rw [this]
  · rw [List.getElem?_eq_none (by rw [fm.length]; omega), List.getElem?_eq_none (by rw [List.length_range]; omega)]
    rfl
theorem ag_ints {l : List Nat} {n : Nat} (h : l.length ≤ 1000) : agOk (n + 1) (.tup (l.map iD)) = true := agOk_ints (by omega)
theorem ag_two {n : Nat} {x y : D} (h1 : agOk n x = true) (h2 : agOk n y = true) : agOk (n + 1) (.tup [x, y]) = true := by
  have : agOks n [] = true := by cases n <;> rfl
  simp only [agOk, agOks, h1, h2, this, List.length_cons, List.length_nil, Bool.and_self, Bool.true_and]
  exact decide_eq_true (show 2 ≤ 1000000 by decide)
theorem rows_len {c : K9.Code} (wf : WF c) {w : Nat} (hw : w < c.length) : (rowsOf c w).length ≤ 100 := by
  unfold rowsOf
  rw [List.getElem?_eq_getElem hw]
  exact (wf.2 _ (List.getElem_mem hw)).2.1
theorem ag_rows {c : K9.Code} (wf : WF c) {n : Nat} : agOk (n + 2) (.tup ((List.range c.length).map fun w => D.tup (((List.range (rowsOf c w).length).filter fun r => E c w r).map iD))) = true := by
  have lc := wf.1
  have h1 : agOks (n + 1) ((List.range c.length).map fun w => D.tup (((List.range (rowsOf c w).length).filter fun r => E c w r).map iD)) = true := agOks_map fun w hw => by
    refine ag_ints ?_
    have := rows_len wf (List.mem_range.mp hw)
    have h2 := List.length_filter_le (fun r => E c w r) (List.range (rowsOf c w).length)
    rw [List.length_range] at h2
    omega
  simp only [agOk, h1, List.length_map, List.length_range, Bool.true_and, decide_eq_true_eq]
  omega
theorem metS_len {c : K9.Code} (wf : WF c) {w : Nat} (hw : w < c.length) : (metS c w).length ≤ 100 := by
  unfold metS
  rw [(isort_perm _).length_eq]
  have := (ok_metL wf (E c) hw).len
  have := rows_len wf hw
  omega
theorem needS_len {c : K9.Code} (wf : WF c) {w : Nat} (hw : w < c.length) : (needS c w).length ≤ 100 := by
  unfold needS
  rw [(isort_perm _).length_eq]
  have nd := ned_go wf (f := E c) (M := metL c (E c)) (c.length + 1) 0 (Ned.start hw) (by omega)
  have := nd.ok.len
  have := wf.1
  exact Nat.le_trans nd.ok.len this
def sp_law_asked (x : D) (S : Sto) (Q : DK) : Prop := ∃ c, x = codeD c ∧ WF c ∧ Q (.bl true) S
-- _law_asked : 0=code 1=ended 2=rows 3=word 4=at 5=lost 6=due
def rd_law_asked : DTS :=
    (dSeq (dAsg (dCall (a1 sp_law_ended) (dCons (dVar 0) dNil)) (dTg (.nm 1)))
    (dSeq (dAsg (dLstM dNil) (dTg (.nm 2)))
    (dSeq (dFor (iRange1 (dCB vLen (dCons (dVar 0) dNil))) (dTg (.nm 3)) (dDrop (dLM vAppend (dVar 2) (dCons (dCB vTuple (dCons (dLc (iRange1 (dCB vLen (dCons (dOp vIx (dVar 0) (dVar 3)) dNil))) (dTg (.nm 4)) (dTest (dDIn (dKeyT (dCons (dVar 3) (dCons (dVar 4) dNil))) (dVar 1))) (dVar 4) [4]) dNil)) dNil))))
    (dSeq (dAsg (dCB vTuple (dCons (dLc (iRange1 (dCB vLen (dCons (dVar 0) dNil))) (dTg (.nm 3)) (dTest (dDNotIn (dKeyT (dCons (dVar 3) (dCons (dC (.int 0)) dNil))) (dVar 1))) (dVar 3) [3]) dNil)) (dTg (.nm 5)))
    (dSeq (dIf (dNot (dTest (dCall (a2 sp_law_agree) (dCons (dTup (dCons (dCall (a1 sp_ended_rows) (dCons (dVar 0) dNil)) (dCons (dCall (a1 sp_lost_words) (dCons (dVar 0) dNil)) dNil))) (dCons (dTup (dCons (dCB vTuple (dCons (dVar 2) dNil)) (dCons (dVar 5) dNil))) dNil))))) (dRet (dC (.bl false))) dNext)
    (dSeq (dFor (iRange1 (dCB vLen (dCons (dVar 0) dNil))) (dTg (.nm 3)) (dSeq (dAsg (dTup (dCons (dCB vTuple (dCons (dCall (a3 sp_law_met) (dCons (dVar 0) (dCons (dVar 1) (dCons (dVar 3) dNil)))) dNil)) (dCons (dCB vTuple (dCons (dCall (a3 sp_law_needed) (dCons (dVar 0) (dCons (dVar 1) (dCons (dVar 3) dNil)))) dNil)) dNil))) (dTg (.nm 6)))
    (dIf (dNot (dTest (dCall (a2 sp_law_agree) (dCons (dTup (dCons (dCall (a2 sp_met_rows) (dCons (dVar 0) (dCons (dVar 3) dNil))) (dCons (dCall (a2 sp_needed_words) (dCons (dVar 0) (dCons (dVar 3) dNil))) dNil))) (dCons (dVar 6) dNil))))) (dRet (dC (.bl false))) dNext)))
    (dRet (dC (.bl true)))))))))
theorem rd_law_asked_ok : ∀ ds S P, (a1 sp_law_asked) ds S P → rd_law_asked (DEnds.of P) (dstart ["code", "ended", "rows", "word", "at", "lost", "due"] ds) S := by
  intro ds S P hsp
  rcases ds with _ | ⟨x, _ | ⟨y, ds⟩⟩ <;> first | exact (hsp : False).elim | skip
  obtain ⟨c, rfl, wf, q⟩ := (hsp : sp_law_asked x S P)
  unfold rd_law_asked
  have lc := wf.1
  walk_at "run"
  refine use_law_ended wf fun A ps hA hE => ?_
  walk_at "run"
  intro p hp
  have hAp : A ≠ p := fun z => by subst z; rw [sup_same] at hp; cases hp
  have hpS : S p = none := by rw [sup_ne (Ne.symm hAp)] at hp; exact hp
  walk_at "run"
  rw [List.length_map]
  refine ⟨by omega, by omega, ?_⟩
  rw [Int.toNat_natCast]
  have eA : ∀ o, L3.sup (L3.sup S A (.dT (fdD ps))) p o A = some (.dT (fdD ps)) := fun o => by rw [sup_ne hAp, sup_same]
  refine forL_inv (fun i δ S' => S' = L3.sup (L3.sup S A (.dT (fdD ps))) p (.lst ((List.range i).map fun w => D.tup (((List.range (rowsOf c w).length).filter fun r => E c w r).map iD))) ∧ ∃ x3 x4, δ = [some (codeD c), some (.ref A), some (.ref p), x3, x4, none, none]) (fun _ _ _ _ => True.intro) _ 0 _ _ ⟨rfl, none, none, rfl⟩ ?_ ?_
  · rintro w d _ _ hj ⟨rfl, x3, x4, rfl⟩ D2 hrt _ hnx _
    obtain ⟨hw, rfl⟩ := rng_at hj
    rw [Nat.zero_add] at hnx ⊢
    have e1 := List.getElem?_eq_getElem hw
    have er : rowsOf c w = c[w] := by unfold rowsOf; rw [e1]; rfl
    have e3 : (c.map fun rows => D.tup (rows.map rowD))[w]? = some (.tup ((rowsOf c w).map rowD)) := by rw [List.getElem?_map, e1, er]; rfl
    have rl := rows_len wf hw
    walk_at "run"
    rw [isSeq_ref]
    refine ⟨⟨_, sup_same⟩, ?_⟩
    walk_at "run"
    rw [List.length_map]
    refine ⟨by omega, by omega, ?_⟩
    rw [Int.toNat_natCast]
    refine lcL_0 trivial (fun r => if E c w r = true then some (iD r) else none) (by rw [rng_len, sizeLine_val]; omega) (fun r d e P' N zz => ?_) ?_
    · obtain ⟨hr, rfl⟩ := rng_at e
      walk_at "run"
      refine ⟨_, dget_fd (eA _), ?_⟩
      rw [val_fd, mem_E hE]
      cases b : E c w r with
      | true =>
        rw [b] at zz
        walk_at "run"
        exact zz
      | false =>
        rw [b] at zz
        walk_at "run"
        exact zz
    rw [rng_len, fm_if (p := fun r => E c w r) (f := iD) fun j _ => rfl]
    walk_at "run"
    refine st_append sup_same (by rw [List.length_map, List.length_range, sizeLine_val]; omega) ?_
    walk_at "run"
    rw [sup_sup]
    exact hnx _ _ ⟨by rw [List.range_succ, List.map_append]; rfl, _, _, rfl⟩
  · rintro _ _ ⟨rfl, x3, x4, rfl⟩
    rw [rng_len, Nat.zero_add]
    walk_at "run"
    rw [List.length_map]
    refine ⟨by omega, by omega, ?_⟩
    rw [Int.toNat_natCast]
    refine lcL_0 trivial (fun r => if (!E c r 0) = true then some (iD r) else none) (by rw [rng_len, sizeLine_val]; omega) (fun r d e P' N zz => ?_) ?_
    · obtain ⟨hr, rfl⟩ := rng_at e
      walk_at "run"
      refine ⟨_, dget_fd0 (eA _), ?_⟩
      rw [val_fd, mem_E hE]
      cases b : E c r 0 with
      | true =>
        rw [b] at zz
        walk_at "run"
        exact zz
      | false =>
        rw [b] at zz
        walk_at "run"
        exact zz
    rw [rng_len, fm_if (p := fun r => !E c r 0) (f := iD) fun j _ => rfl]
    walk_at "run"
    refine use_ended_rows wf ?_
    walk_at "run"
    refine use_lost_words wf ?_
    walk_at "run"
    refine st_tup_r sup_same ?_
    walk_at "run"
    have ll : (lostL c).length ≤ 1000 := by
      have h2 := List.length_filter_le (fun w => !E c w 0) (List.range c.length)
      rw [List.length_range] at h2
      exact Nat.le_trans h2 (by omega)
    refine use_agree (by unfold erowsD; rw [erows_eq]; rfl) (ag_two (ag_rows wf) (ag_ints (l := lostL c) ll)) ?_
    walk_at "run"
    rw [List.length_map]
    refine ⟨by omega, by omega, ?_⟩
    rw [Int.toNat_natCast]
    generalize hS3 : L3.sup (L3.sup S A (.dT (fdD ps))) p _ = S3
    have eA3 : S3 A = some (.dT (fdD ps)) := by rw [← hS3]; exact eA _
    have kp : ∀ a o, S a = some o → S3 a = some o := fun a o ha => by
      rw [← hS3, sup_ne fun z => by subst z; rw [hpS] at ha; cases ha]
      rw [sup_ne fun z => by subst z; rw [hA] at ha; cases ha]
      exact ha
    refine forL_inv (fun i δ S' => S3 = S' ∧ ∃ x2 x3 x4 x5 x6, δ = [some (codeD c), some (.ref A), x2, x3, x4, x5, x6]) (fun _ _ _ _ => True.intro) _ 0 _ _ ⟨rfl, _, _, _, _, _, rfl⟩ ?_ ?_
    · rintro w d _ _ hj ⟨rfl, x2, x3, x4, x5, x6, rfl⟩ D2 hrt _ hnx _
      obtain ⟨hw, rfl⟩ := rng_at hj
      walk_at "run"
      refine use_law_met wf hw eA3 hE ?_
      walk_at "run"
      refine use_law_needed wf hw eA3 hE ?_
      walk_at "run"
      refine use_met_rows wf hw ?_
      walk_at "run"
      refine use_needed_words wf hw ?_
      walk_at "run"
      have h1 := metS_len wf hw
      have h2 := needS_len wf hw
      refine use_agree rfl (ag_two (ag_ints (by omega)) (ag_ints (by omega))) ?_
      walk_at "run"
      exact hnx _ _ ⟨rfl, _, _, _, _, _, rfl⟩
    · rintro _ _ ⟨rfl, x2, x3, x4, x5, x6, rfl⟩
      walk_at "run"
      exact ⟨_, S, kp, .refl _, q⟩
theorem use_asked {c : K9.Code} {S : Sto} {Q : DK} (wf : WF c) (q : Q (.bl true) S) : sp_law_asked (codeD c) S Q := ⟨c, rfl, wf, q⟩
end L3

set_option Elab.async false
set_option maxRecDepth 100000
set_option linter.all false
set_option maxHeartbeats 4000000
namespace L3
open PySem L2 L3.K9
local macro_rules | `(tactic| walk_at "cond") => `(tactic| first | omega | (simp only [List.length_append, List.length_cons, List.length_nil, List.length_take, List.length_drop, List.length_map, List.length_reverse]; omega) | rfl | decide)
local macro_rules | `(tactic| walk_at "side") => `(tactic| first | assumption | omega | (simp only [List.length_append, List.length_cons, List.length_nil, List.length_take, List.length_drop, List.length_map, List.length_reverse, sizeLine_val]; omega) | decide)
local macro_rules | `(tactic| walk_at "st") => `(tactic| first
  | with_reducible refine st_ix0 ?_ | with_reducible refine st_ix1 ?_ | with_reducible refine st_ix2 ?_ | with_reducible refine st_ix3 ?_ | with_reducible refine st_ix4 ?_
  | with_reducible refine st_add_pp (by walk_at "side") ?_ | with_reducible refine st_add_p1 (by walk_at "side") ?_ | with_reducible refine st_add_1p (by walk_at "side") ?_
  | with_reducible refine st_add ?_ | with_reducible refine st_sub ?_ | with_reducible refine st_iadd ?_ | with_reducible refine st_neg ?_
  | with_reducible refine st_len_p ?_ | with_reducible refine st_len_lp ?_ | with_reducible refine st_len_rp ?_ | with_reducible refine st_len_t ?_ | with_reducible refine st_len_l ?_
  | with_reducible refine st_add_t (by walk_at "side") ?_ | with_reducible refine st_add_l (by walk_at "side") ?_ | with_reducible refine st_add_s (by walk_at "side") ?_
  | with_reducible refine st_tru_bl ?_ | with_reducible refine st_tru_int ?_ | with_reducible refine st_tru_tup ?_ | with_reducible refine st_tru_lst ?_ | with_reducible refine st_tru_non ?_
  | with_reducible refine st_at (by assumption) ?_ | with_reducible refine st_atl (by assumption) ?_
  | with_reducible refine st_iteT ?_ | with_reducible refine st_iteF ?_ | with_reducible refine st_not ?_
  | with_reducible refine st_lt ?_ | with_reducible refine st_le ?_ | with_reducible refine st_gt ?_ | with_reducible refine st_ge ?_ | with_reducible refine st_eqi ?_ | with_reducible refine st_nei ?_ | with_reducible refine st_eqs ?_ | with_reducible refine st_nes ?_ | with_reducible refine st_eqb ?_
  | with_reducible refine st_isn_non ?_ | with_reducible refine st_isn_int ?_ | with_reducible refine st_isn_tup ?_ | with_reducible refine st_isn_str ?_ | with_reducible refine st_isn_bl ?_
  | with_reducible refine st_isnt_non ?_ | with_reducible refine st_isnt_int ?_ | with_reducible refine st_isnt_tup ?_ | with_reducible refine st_isnt_str ?_
  | with_reducible refine st_int ?_ | with_reducible refine st_intb ?_ | with_reducible refine st_abs ?_ | with_reducible refine st_min2 ?_ | with_reducible refine st_max2 ?_
  | with_reducible refine st_tup_l ?_ | with_reducible refine st_tup_t ?_ | with_reducible refine st_lst_t ?_ | with_reducible refine st_lst_l ?_
  | with_reducible refine st_sl_from ?_ | with_reducible refine st_sl_to ?_
  | with_reducible refine st_lx0 ?_ | with_reducible refine st_lx1 ?_ | with_reducible refine st_lx2 ?_ | with_reducible refine st_lx3 ?_
  | with_reducible refine st_mod (by walk_at "side") ?_ | with_reducible refine st_div (by walk_at "side") ?_ | with_reducible refine st_mul (by walk_at "side") ?_ | with_reducible refine st_mul' (by walk_at "side") ?_
  | with_reducible refine st_isi rfl ?_
  | (with_reducible refine And.intro (Nat.le_of_ble_eq_true rfl) ?_)
  | (refine And.intro (rfl : (_ : Nat) = _) ?_)
  | with_reducible refine st_dT (by walk_at "cond") ?_ | with_reducible refine st_dF (by walk_at "cond") ?_)
local macro_rules | `(tactic| walk_at "hd") => `(tactic| (with_reducible conv => whnf))
local macro_rules | `(tactic| walk_at "run") => `(tactic| ((with_reducible conv => whnf); repeat (walk_at "st"; (with_reducible conv => whnf))))
/-! ### codes by hand -/
def hc1 : K9.Code := [[.choose [1, 3], .call 1 2, .call 2 4, .call 2 4, .ret, .call 3 4], [.call 1 1, .ret], [.choose [1, 2], .deed [] [0] 0, .ret], [.ret]]
def hc2 : K9.Code := [[.choose [1, 4], .call 3 2, .call 1 3, .choose [3, 3], .ret], [.call 2 1, .ret], [.call 1 1, .ret], [.ret]]
def hc3 : K9.Code := [[.choose [1, 3], .call 1 2, .deed [0] [] 3, .ret], [.choose [2, 1], .call 0 0, .ret]]
def hc4 : K9.Code := [[.deed [] [] 0]]
def hc5 : K9.Code := [[.deed [] [] 0, .ret]]
def rowOkB (nw nr : Nat) : Row → Bool
  | .ret => true
  | .deed a b n => decide (a.length ≤ 100) && decide (b.length ≤ 100) && decide (n < nr)
  | .call p n => decide (p < nw) && decide (n < nr)
  | .choose l => decide (l.length ≤ 100) && l.all fun n => decide (n < nr)
theorem rowOkB_ok {nw nr : Nat} {r : Row} (h : rowOkB nw nr r = true) : RowOk nw nr r := by
  cases r with
  | ret => exact True.intro
  | deed a b n =>
    simp only [rowOkB, Bool.and_eq_true, decide_eq_true_eq] at h
    exact ⟨h.1.1, h.1.2, h.2⟩
  | call p n =>
    simp only [rowOkB, Bool.and_eq_true, decide_eq_true_eq] at h
    exact h
  | choose l =>
    simp only [rowOkB, Bool.and_eq_true, decide_eq_true_eq, List.all_eq_true] at h
    exact h
def wfB (c : K9.Code) : Bool := decide (c.length ≤ 100) && c.all fun rows => decide (0 < rows.length) && decide (rows.length ≤ 100) && rows.all fun r => rowOkB c.length rows.length r
theorem wfB_ok {c : K9.Code} (h : wfB c = true) : WF c := by
  simp only [wfB, Bool.and_eq_true, decide_eq_true_eq, List.all_eq_true] at h
  exact ⟨h.1, fun rows hr => ⟨(h.2 rows hr).1.1, (h.2 rows hr).1.2, fun r hx => rowOkB_ok ((h.2 rows hr).2 r hx)⟩⟩
theorem hw1 : WF hc1 := wfB_ok (by decide)
theorem hw2 : WF hc2 := wfB_ok (by decide)
theorem hw3 : WF hc3 := wfB_ok (by decide)
theorem hw4 : WF hc4 := wfB_ok (by decide)
theorem hw5 : WF hc5 := wfB_ok (by decide)
theorem her1 : endedM hc1 = [[true, false, true, true, true, true], [false, true], [true, true, true], [true]] := by decide
theorem her2 : endedM hc2 = [[true, false, false, false, true], [false, true], [false, true], [true]] := by decide
theorem her3 : endedM hc3 = [[true, true, true, true], [true, true, true]] := by decide
theorem hlo1 : lostL hc1 = [1] := by decide
theorem hlo2 : lostL hc2 = [1, 2] := by decide
theorem hlo3 : lostL hc3 = [] := by decide
theorem hlo4 : lostL hc4 = [0] := by decide
theorem hme10 : metS hc1 0 = [0, 1, 3, 4] := by decide
theorem hme11 : metS hc1 1 = [0] := by decide
theorem hme20 : metS hc2 0 = [0, 1, 2, 4] := by decide
theorem hme22 : metS hc2 2 = [0] := by decide
theorem hme31 : metS hc3 1 = [0, 1, 2] := by decide
theorem hme50 : metS hc5 0 = [0] := by decide
theorem hne10 : needS hc1 0 = [0, 2] := by decide
theorem hne11 : needS hc1 1 = [1] := by decide
theorem hne12 : needS hc1 2 = [2] := by decide
theorem hne20 : needS hc2 0 = [0] := by decide
theorem hne22 : needS hc2 2 = [2] := by decide
theorem hne31 : needS hc3 1 = [0, 1] := by decide
def sp_law_hand (x : D) (S : Sto) (Q : DK) : Prop := Q (.bl true) S
-- _law_hand : 0=basket 1=end 2=code 3=told 4=due 5=both
def rd_law_hand : DTS :=
    (dSeq (dAsg (dTup (dCons (dC (.str "return")) dNil)) (dTg (.nm 1)))
    (dSeq (dAsg (dTup (dCons (dTup (dCons (dTup (dCons (dC (.str "choose")) (dCons (dTup (dCons (dC (.int 1)) (dCons (dC (.int 3)) dNil))) dNil))) (dCons (dTup (dCons (dC (.str "call")) (dCons (dC (.int 1)) (dCons (dC (.int 2)) dNil)))) (dCons (dTup (dCons (dC (.str "call")) (dCons (dC (.int 2)) (dCons (dC (.int 4)) dNil)))) (dCons (dTup (dCons (dC (.str "call")) (dCons (dC (.int 2)) (dCons (dC (.int 4)) dNil)))) (dCons (dVar 1) (dCons (dTup (dCons (dC (.str "call")) (dCons (dC (.int 3)) (dCons (dC (.int 4)) dNil)))) dNil))))))) (dCons (dTup (dCons (dTup (dCons (dC (.str "call")) (dCons (dC (.int 1)) (dCons (dC (.int 1)) dNil)))) (dCons (dVar 1) dNil))) (dCons (dTup (dCons (dTup (dCons (dC (.str "choose")) (dCons (dTup (dCons (dC (.int 1)) (dCons (dC (.int 2)) dNil))) dNil))) (dCons (dTup (dCons (dC (.str "deed")) (dCons (dTup dNil) (dCons (dTup (dCons (dC (.int 0)) dNil)) (dCons (dC (.int 0)) dNil))))) (dCons (dVar 1) dNil)))) (dCons (dTup (dCons (dVar 1) dNil)) dNil))))) (dTg (.nm 2)))
    (dSeq (dAsg (dTup (dCons (dCall (kw1 (fun x0 => [x0]) (a1 sp_ended_rows)) (dCons (dVar 2) dNil)) (dCons (dCall (kw1 (fun x0 => [x0]) (a1 sp_lost_words)) (dCons (dVar 2) dNil)) (dCons (dCall (kw2 (fun x0 x1 => [x0, x1]) (a2 sp_met_rows)) (dCons (dVar 2) (dCons (dC (.int 0)) dNil))) (dCons (dCall (a2 sp_met_rows) (dCons (dVar 2) (dCons (dC (.int 1)) dNil))) (dCons (dCall (kw2 (fun x0 x1 => [x0, x1]) (a2 sp_needed_words)) (dCons (dVar 2) (dCons (dC (.int 0)) dNil))) (dCons (dCall (a2 sp_needed_words) (dCons (dVar 2) (dCons (dC (.int 1)) dNil))) (dCons (dCall (a2 sp_needed_words) (dCons (dVar 2) (dCons (dC (.int 2)) dNil))) dNil)))))))) (dTg (.nm 3)))
    (dSeq (dAsg (dTup (dCons (dTup (dCons (dTup (dCons (dC (.int 0)) (dCons (dC (.int 2)) (dCons (dC (.int 3)) (dCons (dC (.int 4)) (dCons (dC (.int 5)) dNil)))))) (dCons (dTup (dCons (dC (.int 1)) dNil)) (dCons (dTup (dCons (dC (.int 0)) (dCons (dC (.int 1)) (dCons (dC (.int 2)) dNil)))) (dCons (dTup (dCons (dC (.int 0)) dNil)) dNil))))) (dCons (dTup (dCons (dC (.int 1)) dNil)) (dCons (dTup (dCons (dC (.int 0)) (dCons (dC (.int 1)) (dCons (dC (.int 3)) (dCons (dC (.int 4)) dNil))))) (dCons (dTup (dCons (dC (.int 0)) dNil)) (dCons (dTup (dCons (dC (.int 0)) (dCons (dC (.int 2)) dNil))) (dCons (dTup (dCons (dC (.int 1)) dNil)) (dCons (dTup (dCons (dC (.int 2)) dNil)) dNil)))))))) (dTg (.nm 4)))
    (dSeq (dIf (dNot (dTest (dCall (a2 sp_law_agree) (dCons (dVar 3) (dCons (dVar 4) dNil))))) (dRet (dC (.bl false))) dNext)
    (dSeq (dAsg (dTup (dCons (dTup (dCons (dTup (dCons (dC (.str "choose")) (dCons (dTup (dCons (dC (.int 1)) (dCons (dC (.int 4)) dNil))) dNil))) (dCons (dTup (dCons (dC (.str "call")) (dCons (dC (.int 3)) (dCons (dC (.int 2)) dNil)))) (dCons (dTup (dCons (dC (.str "call")) (dCons (dC (.int 1)) (dCons (dC (.int 3)) dNil)))) (dCons (dTup (dCons (dC (.str "choose")) (dCons (dTup (dCons (dC (.int 3)) (dCons (dC (.int 3)) dNil))) dNil))) (dCons (dVar 1) dNil)))))) (dCons (dTup (dCons (dTup (dCons (dC (.str "call")) (dCons (dC (.int 2)) (dCons (dC (.int 1)) dNil)))) (dCons (dVar 1) dNil))) (dCons (dTup (dCons (dTup (dCons (dC (.str "call")) (dCons (dC (.int 1)) (dCons (dC (.int 1)) dNil)))) (dCons (dVar 1) dNil))) (dCons (dTup (dCons (dVar 1) dNil)) dNil))))) (dTg (.nm 2)))
    (dSeq (dAsg (dTup (dCons (dCall (a1 sp_ended_rows) (dCons (dVar 2) dNil)) (dCons (dCall (a1 sp_lost_words) (dCons (dVar 2) dNil)) (dCons (dCall (a2 sp_met_rows) (dCons (dVar 2) (dCons (dC (.int 0)) dNil))) (dCons (dCall (a2 sp_needed_words) (dCons (dVar 2) (dCons (dC (.int 0)) dNil))) (dCons (dCall (a2 sp_met_rows) (dCons (dVar 2) (dCons (dC (.int 2)) dNil))) (dCons (dCall (a2 sp_needed_words) (dCons (dVar 2) (dCons (dC (.int 2)) dNil))) dNil))))))) (dTg (.nm 3)))
    (dSeq (dIf (dNot (dTest (dCall (a2 sp_law_agree) (dCons (dVar 3) (dCons (dTup (dCons (dTup (dCons (dTup (dCons (dC (.int 0)) (dCons (dC (.int 4)) dNil))) (dCons (dTup (dCons (dC (.int 1)) dNil)) (dCons (dTup (dCons (dC (.int 1)) dNil)) (dCons (dTup (dCons (dC (.int 0)) dNil)) dNil))))) (dCons (dTup (dCons (dC (.int 1)) (dCons (dC (.int 2)) dNil))) (dCons (dTup (dCons (dC (.int 0)) (dCons (dC (.int 1)) (dCons (dC (.int 2)) (dCons (dC (.int 4)) dNil))))) (dCons (dTup (dCons (dC (.int 0)) dNil)) (dCons (dTup (dCons (dC (.int 0)) dNil)) (dCons (dTup (dCons (dC (.int 2)) dNil)) dNil))))))) dNil))))) (dRet (dC (.bl false))) dNext)
    (dSeq (dAsg (dTup (dCons (dTup (dCons (dTup (dCons (dC (.str "choose")) (dCons (dTup (dCons (dC (.int 1)) (dCons (dC (.int 3)) dNil))) dNil))) (dCons (dTup (dCons (dC (.str "call")) (dCons (dC (.int 1)) (dCons (dC (.int 2)) dNil)))) (dCons (dTup (dCons (dC (.str "deed")) (dCons (dTup (dCons (dC (.int 0)) dNil)) (dCons (dTup dNil) (dCons (dC (.int 3)) dNil))))) (dCons (dVar 1) dNil))))) (dCons (dTup (dCons (dTup (dCons (dC (.str "choose")) (dCons (dTup (dCons (dC (.int 2)) (dCons (dC (.int 1)) dNil))) dNil))) (dCons (dTup (dCons (dC (.str "call")) (dCons (dC (.int 0)) (dCons (dC (.int 0)) dNil)))) (dCons (dVar 1) dNil)))) dNil))) (dTg (.nm 5)))
    (dSeq (dAsg (dTup (dCons (dCall (a1 sp_ended_rows) (dCons (dVar 5) dNil)) (dCons (dCall (a1 sp_lost_words) (dCons (dVar 5) dNil)) (dCons (dCall (a2 sp_needed_words) (dCons (dVar 5) (dCons (dC (.int 1)) dNil))) (dCons (dCall (a2 sp_met_rows) (dCons (dVar 5) (dCons (dC (.int 1)) dNil))) dNil))))) (dTg (.nm 3)))
    (dRet (dAndV (dCall (a2 sp_law_agree) (dCons (dVar 3) (dCons (dTup (dCons (dTup (dCons (dTup (dCons (dC (.int 0)) (dCons (dC (.int 1)) (dCons (dC (.int 2)) (dCons (dC (.int 3)) dNil))))) (dCons (dTup (dCons (dC (.int 0)) (dCons (dC (.int 1)) (dCons (dC (.int 2)) dNil)))) dNil))) (dCons (dTup dNil) (dCons (dTup (dCons (dC (.int 0)) (dCons (dC (.int 1)) dNil))) (dCons (dTup (dCons (dC (.int 0)) (dCons (dC (.int 1)) (dCons (dC (.int 2)) dNil)))) dNil))))) dNil))) (dCall (a2 sp_law_agree) (dCons (dTup (dCons (dCall (a1 sp_lost_words) (dCons (dTup (dCons (dTup (dCons (dTup (dCons (dC (.str "deed")) (dCons (dTup dNil) (dCons (dTup dNil) (dCons (dC (.int 0)) dNil))))) dNil)) dNil)) dNil)) (dCons (dCall (a2 sp_met_rows) (dCons (dTup (dCons (dTup (dCons (dTup (dCons (dC (.str "deed")) (dCons (dTup dNil) (dCons (dTup dNil) (dCons (dC (.int 0)) dNil))))) (dCons (dVar 1) dNil))) dNil)) (dCons (dC (.int 0)) dNil))) dNil))) (dCons (dTup (dCons (dTup (dCons (dC (.int 0)) dNil)) (dCons (dTup (dCons (dC (.int 0)) dNil)) dNil))) dNil)))))))))))))))
theorem rd_law_hand_ok : ∀ ds S P, (a1 sp_law_hand) ds S P → rd_law_hand (DEnds.of P) (dstart ["basket", "end", "code", "told", "due", "both"] ds) S := by
  intro ds S P hsp
  rcases ds with _ | ⟨x, _ | ⟨y, ds⟩⟩ <;> first | exact (hsp : False).elim | skip
  have q : P (.bl true) S := hsp
  unfold rd_law_hand
  walk_at "run"
  refine use_ended_rows (c := hc1) hw1 ?_
  walk_at "run"
  refine use_lost_words (c := hc1) hw1 ?_
  walk_at "run"
  refine use_met_rows (c := hc1) (i := 0) hw1 (by decide) ?_
  walk_at "run"
  refine use_met_rows (c := hc1) (i := 1) hw1 (by decide) ?_
  walk_at "run"
  refine use_needed_words (c := hc1) (i := 0) hw1 (by decide) ?_
  walk_at "run"
  refine use_needed_words (c := hc1) (i := 1) hw1 (by decide) ?_
  walk_at "run"
  refine use_needed_words (c := hc1) (i := 2) hw1 (by decide) ?_
  walk_at "run"
  refine use_agree (by unfold erowsD; rw [her1, hlo1, hme10, hme11, hne10, hne11, hne12]; rfl) (by rfl) ?_
  walk_at "run"
  refine use_ended_rows (c := hc2) hw2 ?_
  walk_at "run"
  refine use_lost_words (c := hc2) hw2 ?_
  walk_at "run"
  refine use_met_rows (c := hc2) (i := 0) hw2 (by decide) ?_
  walk_at "run"
  refine use_needed_words (c := hc2) (i := 0) hw2 (by decide) ?_
  walk_at "run"
  refine use_met_rows (c := hc2) (i := 2) hw2 (by decide) ?_
  walk_at "run"
  refine use_needed_words (c := hc2) (i := 2) hw2 (by decide) ?_
  walk_at "run"
  refine use_agree (by unfold erowsD; rw [her2, hlo2, hme20, hne20, hme22, hne22]; rfl) (by rfl) ?_
  walk_at "run"
  refine use_ended_rows (c := hc3) hw3 ?_
  walk_at "run"
  refine use_lost_words (c := hc3) hw3 ?_
  walk_at "run"
  refine use_needed_words (c := hc3) (i := 1) hw3 (by decide) ?_
  walk_at "run"
  refine use_met_rows (c := hc3) (i := 1) hw3 (by decide) ?_
  walk_at "run"
  refine use_agree (by unfold erowsD; rw [her3, hlo3, hne31, hme31]; rfl) (by rfl) ?_
  walk_at "run"
  refine use_lost_words (c := hc4) hw4 ?_
  walk_at "run"
  refine use_met_rows (c := hc5) (i := 0) hw5 (by decide) ?_
  walk_at "run"
  refine use_agree (by rw [hlo4, hme50]; rfl) (by rfl) ?_
  exact .of q
theorem use_hand {x : D} {S : Sto} {Q : DK} (q : Q (.bl true) S) : sp_law_hand x S Q := q
end L3

set_option Elab.async false
set_option maxRecDepth 100000
set_option linter.all false
set_option maxHeartbeats 4000000
namespace L3
open PySem L2 L3.K9
local macro_rules | `(tactic| walk_at "cond") => `(tactic| first | omega | (simp only [List.length_append, List.length_cons, List.length_nil, List.length_take, List.length_drop, List.length_map, List.length_reverse]; omega) | rfl | decide)
local macro_rules | `(tactic| walk_at "side") => `(tactic| first | assumption | omega | (simp only [List.length_append, List.length_cons, List.length_nil, List.length_take, List.length_drop, List.length_map, List.length_reverse, sizeLine_val]; omega) | decide)
local macro_rules | `(tactic| walk_at "st") => `(tactic| first
  | with_reducible refine st_ix0 ?_ | with_reducible refine st_ix1 ?_ | with_reducible refine st_ix2 ?_ | with_reducible refine st_ix3 ?_ | with_reducible refine st_ix4 ?_
  | with_reducible refine st_add_pp (by walk_at "side") ?_ | with_reducible refine st_add_p1 (by walk_at "side") ?_ | with_reducible refine st_add_1p (by walk_at "side") ?_
  | with_reducible refine st_add ?_ | with_reducible refine st_sub ?_ | with_reducible refine st_iadd ?_ | with_reducible refine st_neg ?_
  | with_reducible refine st_len_p ?_ | with_reducible refine st_len_lp ?_ | with_reducible refine st_len_rp ?_ | with_reducible refine st_len_t ?_ | with_reducible refine st_len_l ?_
  | with_reducible refine st_add_t (by walk_at "side") ?_ | with_reducible refine st_add_l (by walk_at "side") ?_ | with_reducible refine st_add_s (by walk_at "side") ?_
  | with_reducible refine st_tru_bl ?_ | with_reducible refine st_tru_int ?_ | with_reducible refine st_tru_tup ?_ | with_reducible refine st_tru_lst ?_ | with_reducible refine st_tru_non ?_
  | with_reducible refine st_at (by assumption) ?_ | with_reducible refine st_atl (by assumption) ?_
  | with_reducible refine st_iteT ?_ | with_reducible refine st_iteF ?_ | with_reducible refine st_not ?_
  | with_reducible refine st_lt ?_ | with_reducible refine st_le ?_ | with_reducible refine st_gt ?_ | with_reducible refine st_ge ?_ | with_reducible refine st_eqi ?_ | with_reducible refine st_nei ?_ | with_reducible refine st_eqs ?_ | with_reducible refine st_nes ?_ | with_reducible refine st_eqb ?_
  | with_reducible refine st_isn_non ?_ | with_reducible refine st_isn_int ?_ | with_reducible refine st_isn_tup ?_ | with_reducible refine st_isn_str ?_ | with_reducible refine st_isn_bl ?_
  | with_reducible refine st_isnt_non ?_ | with_reducible refine st_isnt_int ?_ | with_reducible refine st_isnt_tup ?_ | with_reducible refine st_isnt_str ?_
  | with_reducible refine st_int ?_ | with_reducible refine st_intb ?_ | with_reducible refine st_abs ?_ | with_reducible refine st_min2 ?_ | with_reducible refine st_max2 ?_
  | with_reducible refine st_tup_l ?_ | with_reducible refine st_tup_t ?_ | with_reducible refine st_lst_t ?_ | with_reducible refine st_lst_l ?_
  | with_reducible refine st_sl_from ?_ | with_reducible refine st_sl_to ?_
  | with_reducible refine st_lx0 ?_ | with_reducible refine st_lx1 ?_ | with_reducible refine st_lx2 ?_ | with_reducible refine st_lx3 ?_
  | with_reducible refine st_mod (by walk_at "side") ?_ | with_reducible refine st_div (by walk_at "side") ?_ | with_reducible refine st_mul (by walk_at "side") ?_ | with_reducible refine st_mul' (by walk_at "side") ?_
  | with_reducible refine st_isi rfl ?_
  | (with_reducible refine And.intro (Nat.le_of_ble_eq_true rfl) ?_)
  | (refine And.intro (rfl : (_ : Nat) = _) ?_)
  | with_reducible refine st_dT (by walk_at "cond") ?_ | with_reducible refine st_dF (by walk_at "cond") ?_)
local macro_rules | `(tactic| walk_at "hd") => `(tactic| (with_reducible conv => whnf))
local macro_rules | `(tactic| walk_at "run") => `(tactic| ((with_reducible conv => whnf); repeat (walk_at "st"; (with_reducible conv => whnf))))
/-! ### the law -/
def rd_law_rest : DTS :=
    (dSeq (dAsg (dCall (a4 sp_law_code) (dCons (dVar 1) (dCons (dIfE (dTru (dVar 3)) (dC (.int 12)) (dOp vAdd (dC (.int 1)) (dCall (a2 sp_law_fetch) (dCons (dVar 1) (dCons (dC (.int 5)) dNil))))) (dCons (dIfE (dTru (dVar 3)) (dC (.int 30)) (dC (.int 8))) (dCons (dCall (a2 sp_law_fetch) (dCons (dVar 1) (dCons (dC (.int 5)) dNil))) dNil))))) (dTg (.nm 4)))
    (dSeq (dIf (dNot (dTest (dCall (a1 sp_law_asked) (dCons (dVar 4) dNil)))) (dRet (dC (.bl false))) dNext)
    (dFor (iRange1 (dIfE (dTru (dVar 3)) (dC (.int 1)) (dC (.int 3)))) (dTg (.nm 5)) (dSeq (dAsg (dCall (a2 sp_law_bent) (dCons (dVar 1) (dCons (dVar 4) dNil))) (dTg (.nm 6)))
    (dIf (dOr (dNot (dTest (dCall (a1 sp_law_asked) (dCons (dVar 6) dNil)))) (dAnd (dTest (dOp vEq (dVar 5) (dC (.int 2)))) (dNot (dTest (dCall (a1 sp_law_asked) (dCons (dCall (a2 sp_law_bent) (dCons (dVar 1) (dCons (dVar 6) dNil))) dNil)))))) (dRet (dC (.bl false))) dNext)))))
theorem law_rest {D' : DEnds} {S : Sto} {b h : Addr} {lap : Nat} {wide : Bool} {x0 x4 x5 x6 : Option D} (bk : Bk S b h) (nx : ∀ S', Bk S' b h → ∀ y4 y5 y6, D'.nx [x0, some (.ref b), some (iD lap), some (.bl wide), y4, y5, y6] S') :
    rd_law_rest D' [x0, some (.ref b), some (iD lap), some (.bl wide), x4, x5, x6] S := by
  unfold rd_law_rest
  cases wide with
  | true =>
    walk_at "run"
    refine use_fetchN bk (by omega) fun hb S2 hhb bk2 s2 => ?_
    refine use_code (W := 12) (M := 30) bk2 (by omega) (by decide) fun c S3 hc wf bk3 s3 => ?_
    have c0 : 0 < c.length := by omega
    walk_at "run"
    refine use_asked wf ?_
    walk_at "run"
    refine ⟨by decide, by decide, ?_⟩
    refine forL_inv (fun i δ S' => Bk S' b h ∧ ∃ x5 x6, δ = [x0, some (.ref b), some (iD lap), some (.bl true), some (codeD c), x5, x6]) (fun _ _ _ _ => True.intro) _ 0 _ _ ⟨bk3, x5, x6, rfl⟩ ?_ ?_
    · rintro t d _ S' hj ⟨bk4, x5, x6, rfl⟩ D2 hrt _ hnx _
      obtain ⟨ht, rfl⟩ := rng_at hj
      walk_at "run"
      refine use_bent bk4 wf c0 fun c2 S5 hc2 wf2 bk5 s5 => ?_
      walk_at "run"
      refine use_asked wf2 ?_
      walk_at "run"
      exact hnx _ _ ⟨bk5, _, _, rfl⟩
    · rintro _ S' ⟨bk4, x5, x6, rfl⟩
      exact nx _ bk4 _ _ _
  | false =>
    walk_at "run"
    refine use_fetchN bk (by omega) fun r S1 hr bk1 s1 => ?_
    walk_at "run"
    rw [show 1 + (r : Int) = ((1 + r : Nat) : Int) by omega]
    walk_at "run"
    refine use_fetchN bk1 (by omega) fun hb S2 hhb bk2 s2 => ?_
    refine use_code (W := 1 + r) (M := 8) bk2 (by omega) (by decide) fun c S3 hc wf bk3 s3 => ?_
    have c0 : 0 < c.length := by omega
    walk_at "run"
    refine use_asked wf ?_
    walk_at "run"
    refine ⟨by decide, by decide, ?_⟩
    refine forL_inv (fun i δ S' => Bk S' b h ∧ ∃ x5 x6, δ = [x0, some (.ref b), some (iD lap), some (.bl false), some (codeD c), x5, x6]) (fun _ _ _ _ => True.intro) _ 0 _ _ ⟨bk3, x5, x6, rfl⟩ ?_ ?_
    · rintro t d _ S' hj ⟨bk4, x5, x6, rfl⟩ D2 hrt _ hnx _
      obtain ⟨ht, rfl⟩ := rng_at hj
      walk_at "run"
      refine use_bent bk4 wf c0 fun c2 S5 hc2 wf2 bk5 s5 => ?_
      walk_at "run"
      refine use_asked wf2 ?_
      walk_at "run"
      by_cases t2 : (t : Int) = 2
      · rw [decide_eq_true t2]
        walk_at "run"
        refine use_bent bk5 wf2 (by omega) fun c3 S6 hc3 wf3 bk6 s6 => ?_
        refine use_asked wf3 ?_
        walk_at "run"
        exact hnx _ _ ⟨bk6, _, _, rfl⟩
      · rw [decide_eq_false t2]
        walk_at "run"
        exact hnx _ _ ⟨bk5, _, _, rfl⟩
    · rintro _ S' ⟨bk4, x5, x6, rfl⟩
      exact nx _ bk4 _ _ _
-- law : 0=script 1=basket 2=lap 3=wide 4=code 5=turn 6=other
def rd_law : DTS :=
    (dSeq (dAsg (dCall (a1 sp_law_basket) (dCons (dVar 0) dNil)) (dTg (.nm 1)))
    (dSeq (dIf (dNot (dTest (dCall (a1 sp_law_hand) (dCons (dVar 1) dNil)))) (dRet (dC (.bl false))) dNext)
    (dSeq (dFor (iRange1 (dC (.int 3))) (dTg (.nm 2)) (dSeq (dAsg (dAndV (dOp vEq (dVar 2) (dC (.int 0))) (dOp vEq (dCall (a2 sp_law_fetch) (dCons (dVar 1) (dCons (dC (.int 11)) dNil))) (dC (.int 7)))) (dTg (.nm 3)))
    (dSeq (dAsg (dCall (a4 sp_law_code) (dCons (dVar 1) (dCons (dIfE (dTru (dVar 3)) (dC (.int 12)) (dOp vAdd (dC (.int 1)) (dCall (a2 sp_law_fetch) (dCons (dVar 1) (dCons (dC (.int 5)) dNil))))) (dCons (dIfE (dTru (dVar 3)) (dC (.int 30)) (dC (.int 8))) (dCons (dCall (a2 sp_law_fetch) (dCons (dVar 1) (dCons (dC (.int 5)) dNil))) dNil))))) (dTg (.nm 4)))
    (dSeq (dIf (dNot (dTest (dCall (a1 sp_law_asked) (dCons (dVar 4) dNil)))) (dRet (dC (.bl false))) dNext)
    (dFor (iRange1 (dIfE (dTru (dVar 3)) (dC (.int 1)) (dC (.int 3)))) (dTg (.nm 5)) (dSeq (dAsg (dCall (a2 sp_law_bent) (dCons (dVar 1) (dCons (dVar 4) dNil))) (dTg (.nm 6)))
    (dIf (dOr (dNot (dTest (dCall (a1 sp_law_asked) (dCons (dVar 6) dNil)))) (dAnd (dTest (dOp vEq (dVar 5) (dC (.int 2)))) (dNot (dTest (dCall (a1 sp_law_asked) (dCons (dCall (a2 sp_law_bent) (dCons (dVar 1) (dCons (dVar 6) dNil))) dNil)))))) (dRet (dC (.bl false))) dNext)))))))
    (dRet (dCall (a1 sp_law_asked) (dCons (dCall (a2 sp_law_chain) (dCons (dVar 1) (dCons (dOp vAdd (dC (.int 2)) (dCall (a2 sp_law_fetch) (dCons (dVar 1) (dCons (dC (.int 11)) dNil)))) dNil))) dNil))))))
theorem rd_law_ok : ∀ ds S P, spTrue ds S P → rd_law (DEnds.of P) (dstart ["script", "basket", "lap", "wide", "code", "turn", "other"] ds) S := by
  rintro ds S P ⟨ns, rfl, hl, q⟩
  unfold rd_law
  walk_at "run"
  refine use_basket hl fun b h S1 _ _ bk1 _ => ?_
  walk_at "run"
  refine use_hand ?_
  walk_at "run"
  refine ⟨by decide, by decide, ?_⟩
  refine forL_inv (fun i δ S' => Bk S' b h ∧ ∃ x2 x3 x4 x5 x6, δ = [some (.ro (ns.map .int)), some (.ref b), x2, x3, x4, x5, x6]) (fun _ _ _ _ => True.intro) _ 0 _ _ ⟨bk1, none, none, none, none, none, rfl⟩ ?_ ?_
  · rintro lap d _ S' hj ⟨bk2, x2, x3, x4, x5, x6, rfl⟩ D2 hrt _ hnx _
    obtain ⟨hlap, rfl⟩ := rng_at hj
    walk_at "run"
    by_cases z : (lap : Int) = 0
    · rw [decide_eq_true z]
      walk_at "run"
      refine use_fetchN bk2 (by omega) fun r S3 hr bk3 s3 => ?_
      walk_at "run"
      exact law_rest (wide := decide ((r : Int) = 7)) bk3 fun S4 bk4 y4 y5 y6 => hnx _ _ ⟨bk4, _, _, _, _, _, rfl⟩
    · rw [decide_eq_false z]
      walk_at "run"
      exact law_rest (wide := false) bk2 fun S4 bk4 y4 y5 y6 => hnx _ _ ⟨bk4, _, _, _, _, _, rfl⟩
  · rintro _ S' ⟨bk2, x2, x3, x4, x5, x6, rfl⟩
    walk_at "run"
    refine use_fetchN bk2 (by omega) fun r S3 hr bk3 s3 => ?_
    walk_at "run"
    refine use_chain (m := 2 + r) bk3 (by omega) fun c S4 hc wf bk4 s4 => ?_
    refine use_asked wf ?_
    exact .of (q _)
end L3

set_option Elab.async false
set_option maxRecDepth 100000
set_option linter.all false
set_option maxHeartbeats 4000000
namespace L3
set_option autoImplicit false
open PySem PySem.Spec PyProof.Rows L2
/-! the text by places -/
def topS (i : Nat) : Stmt := PySem.Challenge.pw_pilesfit_k09_ends.main.body.getD i (.Pass ⟨0, 0, 0, 0⟩)
abbrev s_nexts_of : Stmt := topS 1
abbrev N_nexts_of : List Str := ["row"]
theorem sc_nexts_of : FnScope N_nexts_of ["row"] (defScope s_nexts_of) := ⟨rfl, rfl, rfl, by decide +kernel, rfl, by decide +kernel, by decide +kernel⟩
abbrev s_goes_on : Stmt := topS 3
abbrev N_goes_on : List Str := ["code", "row", "ended", "kept", "number"]
theorem sc_goes_on : FnScope N_goes_on ["code", "row", "ended", "kept"] (defScope s_goes_on) := ⟨rfl, rfl, rfl, by decide +kernel, rfl, by decide +kernel, by decide +kernel⟩
abbrev s_ended_marks : Stmt := topS 4
abbrev N_ended_marks : List Str := ["code", "marks", "rows", "row", "changed", "later", "at"]
theorem sc_ended_marks : FnScope N_ended_marks ["code"] (defScope s_ended_marks) := ⟨rfl, rfl, rfl, by decide +kernel, rfl, by decide +kernel, by decide +kernel⟩
abbrev s_ended_rows : Stmt := topS 5
abbrev N_ended_rows : List Str := ["code", "row", "at", "mark"]
theorem sc_ended_rows : FnScope N_ended_rows ["code"] (defScope s_ended_rows) := ⟨rfl, rfl, rfl, by decide +kernel, rfl, by decide +kernel, by decide +kernel⟩
abbrev s_lost_words : Stmt := topS 6
abbrev N_lost_words : List Str := ["code", "at", "row"]
theorem sc_lost_words : FnScope N_lost_words ["code"] (defScope s_lost_words) := ⟨rfl, rfl, rfl, by decide +kernel, rfl, by decide +kernel, by decide +kernel⟩
abbrev s_ways_on : Stmt := topS 7
abbrev N_ways_on : List Str := ["code", "marks", "word", "row", "told"]
theorem sc_ways_on : FnScope N_ways_on ["code", "marks", "word", "row"] (defScope s_ways_on) := ⟨rfl, rfl, rfl, by decide +kernel, rfl, by decide +kernel, by decide +kernel⟩
abbrev s_met_by : Stmt := topS 8
abbrev N_met_by : List Str := ["code", "marks", "word", "found", "place", "number"]
theorem sc_met_by : FnScope N_met_by ["code", "marks", "word"] (defScope s_met_by) := ⟨rfl, rfl, rfl, by decide +kernel, rfl, by decide +kernel, by decide +kernel⟩
abbrev s_met_rows : Stmt := topS 9
abbrev N_met_rows : List Str := ["code", "word"]
theorem sc_met_rows : FnScope N_met_rows ["code", "word"] (defScope s_met_rows) := ⟨rfl, rfl, rfl, by decide +kernel, rfl, by decide +kernel, by decide +kernel⟩
abbrev s_needed_by : Stmt := topS 10
abbrev N_needed_by : List Str := ["code", "marks", "word", "found", "place", "row", "told"]
theorem sc_needed_by : FnScope N_needed_by ["code", "marks", "word"] (defScope s_needed_by) := ⟨rfl, rfl, rfl, by decide +kernel, rfl, by decide +kernel, by decide +kernel⟩
abbrev s_needed_words : Stmt := topS 11
abbrev N_needed_words : List Str := ["code", "word"]
theorem sc_needed_words : FnScope N_needed_words ["code", "word"] (defScope s_needed_words) := ⟨rfl, rfl, rfl, by decide +kernel, rfl, by decide +kernel, by decide +kernel⟩
abbrev s_law_basket : Stmt := topS 13
abbrev N_law_basket : List Str := ["script", "heavy", "weight", "cell", "load"]
theorem sc_law_basket : FnScope N_law_basket ["script"] (defScope s_law_basket) := ⟨rfl, rfl, rfl, by decide +kernel, rfl, by decide +kernel, by decide +kernel⟩
abbrev s_law_fetch : Stmt := topS 14
abbrev N_law_fetch : List Str := ["basket", "many", "heavy", "load"]
theorem sc_law_fetch : FnScope N_law_fetch ["basket", "many"] (defScope s_law_fetch) := ⟨rfl, rfl, rfl, by decide +kernel, rfl, by decide +kernel, by decide +kernel⟩
abbrev s_law_agree : Stmt := topS 15
abbrev N_law_agree : List Str := ["told", "due", "one", "other"]
theorem sc_law_agree : FnScope N_law_agree ["told", "due"] (defScope s_law_agree) := ⟨rfl, rfl, rfl, by decide +kernel, rfl, by decide +kernel, by decide +kernel⟩
abbrev s_law_leads : Stmt := topS 16
abbrev N_law_leads : List Str := ["row"]
theorem sc_law_leads : FnScope N_law_leads ["row"] (defScope s_law_leads) := ⟨rfl, rfl, rfl, by decide +kernel, rfl, by decide +kernel, by decide +kernel⟩
abbrev s_law_code : Stmt := topS 17
abbrev N_law_code : List Str := ["basket", "words", "most", "habit", "code", "word", "many", "rows", "at", "near", "then", "way"]
theorem sc_law_code : FnScope N_law_code ["basket", "words", "most", "habit"] (defScope s_law_code) := ⟨rfl, rfl, rfl, by decide +kernel, rfl, by decide +kernel, by decide +kernel⟩
abbrev s_law_ended : Stmt := topS 18
abbrev N_law_ended : List Str := ["code", "found", "word", "at", "before", "row", "one"]
theorem sc_law_ended : FnScope N_law_ended ["code"] (defScope s_law_ended) := ⟨rfl, rfl, rfl, by decide +kernel, rfl, by decide +kernel, by decide +kernel⟩
abbrev s_law_met : Stmt := topS 19
abbrev N_law_met : List Str := ["code", "ended", "word", "met", "at", "row", "one"]
theorem sc_law_met : FnScope N_law_met ["code", "ended", "word"] (defScope s_law_met) := ⟨rfl, rfl, rfl, by decide +kernel, rfl, by decide +kernel, by decide +kernel⟩
abbrev s_law_needed : Stmt := topS 20
abbrev N_law_needed : List Str := ["code", "ended", "word", "needed", "at", "here", "spot", "row"]
theorem sc_law_needed : FnScope N_law_needed ["code", "ended", "word"] (defScope s_law_needed) := ⟨rfl, rfl, rfl, by decide +kernel, rfl, by decide +kernel, by decide +kernel⟩
abbrev s_law_asked : Stmt := topS 21
abbrev N_law_asked : List Str := ["code", "ended", "rows", "word", "at", "lost", "due"]
theorem sc_law_asked : FnScope N_law_asked ["code"] (defScope s_law_asked) := ⟨rfl, rfl, rfl, by decide +kernel, rfl, by decide +kernel, by decide +kernel⟩
abbrev s_law_bent : Stmt := topS 22
abbrev N_law_bent : List Str := ["basket", "code", "word", "rows", "at", "other"]
theorem sc_law_bent : FnScope N_law_bent ["basket", "code"] (defScope s_law_bent) := ⟨rfl, rfl, rfl, by decide +kernel, rfl, by decide +kernel, by decide +kernel⟩
abbrev s_law_chain : Stmt := topS 23
abbrev N_law_chain : List Str := ["basket", "many", "free", "ring", "code", "word", "first"]
theorem sc_law_chain : FnScope N_law_chain ["basket", "many"] (defScope s_law_chain) := ⟨rfl, rfl, rfl, by decide +kernel, rfl, by decide +kernel, by decide +kernel⟩
abbrev s_law_hand : Stmt := topS 24
abbrev N_law_hand : List Str := ["basket", "end", "code", "told", "due", "both"]
theorem sc_law_hand : FnScope N_law_hand ["basket"] (defScope s_law_hand) := ⟨rfl, rfl, rfl, by decide +kernel, rfl, by decide +kernel, by decide +kernel⟩
abbrev s_law : Stmt := topS 25
abbrev N_law : List Str := ["script", "basket", "lap", "wide", "code", "turn", "other"]
theorem sc_law : FnScope N_law ["script"] (defScope s_law) := ⟨rfl, rfl, rfl, by decide +kernel, rfl, by decide +kernel, by decide +kernel⟩
/-- what the top has written -/
structure Txt (K : PySem.W.Frag) (mg : Str → Option Value) where
  f_nexts_of : Addr
  fd_nexts_of : FuncData
  F_nexts_of : Fun K "nexts_of" "nexts_of" s_nexts_of f_nexts_of fd_nexts_of
  m_nexts_of : mg "nexts_of" = some (.ref f_nexts_of)
  b_nexts_of : Binds K fd_nexts_of ["row"] []
  f_goes_on : Addr
  fd_goes_on : FuncData
  F_goes_on : Fun K "goes_on" "goes_on" s_goes_on f_goes_on fd_goes_on
  m_goes_on : mg "goes_on" = some (.ref f_goes_on)
  b_goes_on : Binds K fd_goes_on ["code", "row", "ended", "kept"] []
  f_ended_marks : Addr
  fd_ended_marks : FuncData
  F_ended_marks : Fun K "ended_marks" "ended_marks" s_ended_marks f_ended_marks fd_ended_marks
  m_ended_marks : mg "ended_marks" = some (.ref f_ended_marks)
  b_ended_marks : Binds K fd_ended_marks ["code"] []
  f_ended_rows : Addr
  fd_ended_rows : FuncData
  F_ended_rows : Fun K "ended_rows" "ended_rows" s_ended_rows f_ended_rows fd_ended_rows
  m_ended_rows : mg "ended_rows" = some (.ref f_ended_rows)
  b_ended_rows : Binds K fd_ended_rows ["code"] []
  f_lost_words : Addr
  fd_lost_words : FuncData
  F_lost_words : Fun K "lost_words" "lost_words" s_lost_words f_lost_words fd_lost_words
  m_lost_words : mg "lost_words" = some (.ref f_lost_words)
  b_lost_words : Binds K fd_lost_words ["code"] []
  f_ways_on : Addr
  fd_ways_on : FuncData
  F_ways_on : Fun K "ways_on" "ways_on" s_ways_on f_ways_on fd_ways_on
  m_ways_on : mg "ways_on" = some (.ref f_ways_on)
  b_ways_on : Binds K fd_ways_on ["code", "marks", "word", "row"] []
  f_met_by : Addr
  fd_met_by : FuncData
  F_met_by : Fun K "met_by" "met_by" s_met_by f_met_by fd_met_by
  m_met_by : mg "met_by" = some (.ref f_met_by)
  b_met_by : Binds K fd_met_by ["code", "marks", "word"] []
  f_met_rows : Addr
  fd_met_rows : FuncData
  F_met_rows : Fun K "met_rows" "met_rows" s_met_rows f_met_rows fd_met_rows
  m_met_rows : mg "met_rows" = some (.ref f_met_rows)
  b_met_rows : Binds K fd_met_rows ["code", "word"] []
  f_needed_by : Addr
  fd_needed_by : FuncData
  F_needed_by : Fun K "needed_by" "needed_by" s_needed_by f_needed_by fd_needed_by
  m_needed_by : mg "needed_by" = some (.ref f_needed_by)
  b_needed_by : Binds K fd_needed_by ["code", "marks", "word"] []
  f_needed_words : Addr
  fd_needed_words : FuncData
  F_needed_words : Fun K "needed_words" "needed_words" s_needed_words f_needed_words fd_needed_words
  m_needed_words : mg "needed_words" = some (.ref f_needed_words)
  b_needed_words : Binds K fd_needed_words ["code", "word"] []
  f_law_basket : Addr
  fd_law_basket : FuncData
  F_law_basket : Fun K "_law_basket" "_law_basket" s_law_basket f_law_basket fd_law_basket
  m_law_basket : mg "_law_basket" = some (.ref f_law_basket)
  b_law_basket : Binds K fd_law_basket ["script"] []
  f_law_fetch : Addr
  fd_law_fetch : FuncData
  F_law_fetch : Fun K "_law_fetch" "_law_fetch" s_law_fetch f_law_fetch fd_law_fetch
  m_law_fetch : mg "_law_fetch" = some (.ref f_law_fetch)
  b_law_fetch : Binds K fd_law_fetch ["basket", "many"] []
  f_law_agree : Addr
  fd_law_agree : FuncData
  F_law_agree : Fun K "_law_agree" "_law_agree" s_law_agree f_law_agree fd_law_agree
  m_law_agree : mg "_law_agree" = some (.ref f_law_agree)
  b_law_agree : Binds K fd_law_agree ["told", "due"] []
  f_law_leads : Addr
  fd_law_leads : FuncData
  F_law_leads : Fun K "_law_leads" "_law_leads" s_law_leads f_law_leads fd_law_leads
  m_law_leads : mg "_law_leads" = some (.ref f_law_leads)
  b_law_leads : Binds K fd_law_leads ["row"] []
  f_law_code : Addr
  fd_law_code : FuncData
  F_law_code : Fun K "_law_code" "_law_code" s_law_code f_law_code fd_law_code
  m_law_code : mg "_law_code" = some (.ref f_law_code)
  b_law_code : Binds K fd_law_code ["basket", "words", "most", "habit"] []
  f_law_ended : Addr
  fd_law_ended : FuncData
  F_law_ended : Fun K "_law_ended" "_law_ended" s_law_ended f_law_ended fd_law_ended
  m_law_ended : mg "_law_ended" = some (.ref f_law_ended)
  b_law_ended : Binds K fd_law_ended ["code"] []
  f_law_met : Addr
  fd_law_met : FuncData
  F_law_met : Fun K "_law_met" "_law_met" s_law_met f_law_met fd_law_met
  m_law_met : mg "_law_met" = some (.ref f_law_met)
  b_law_met : Binds K fd_law_met ["code", "ended", "word"] []
  f_law_needed : Addr
  fd_law_needed : FuncData
  F_law_needed : Fun K "_law_needed" "_law_needed" s_law_needed f_law_needed fd_law_needed
  m_law_needed : mg "_law_needed" = some (.ref f_law_needed)
  b_law_needed : Binds K fd_law_needed ["code", "ended", "word"] []
  f_law_asked : Addr
  fd_law_asked : FuncData
  F_law_asked : Fun K "_law_asked" "_law_asked" s_law_asked f_law_asked fd_law_asked
  m_law_asked : mg "_law_asked" = some (.ref f_law_asked)
  b_law_asked : Binds K fd_law_asked ["code"] []
  f_law_bent : Addr
  fd_law_bent : FuncData
  F_law_bent : Fun K "_law_bent" "_law_bent" s_law_bent f_law_bent fd_law_bent
  m_law_bent : mg "_law_bent" = some (.ref f_law_bent)
  b_law_bent : Binds K fd_law_bent ["basket", "code"] []
  f_law_chain : Addr
  fd_law_chain : FuncData
  F_law_chain : Fun K "_law_chain" "_law_chain" s_law_chain f_law_chain fd_law_chain
  m_law_chain : mg "_law_chain" = some (.ref f_law_chain)
  b_law_chain : Binds K fd_law_chain ["basket", "many"] []
  f_law_hand : Addr
  fd_law_hand : FuncData
  F_law_hand : Fun K "_law_hand" "_law_hand" s_law_hand f_law_hand fd_law_hand
  m_law_hand : mg "_law_hand" = some (.ref f_law_hand)
  b_law_hand : Binds K fd_law_hand ["basket"] []
  f_law : Addr
  fd_law : FuncData
  F_law : Fun K "law" "law" s_law f_law fd_law
  m_law : mg "law" = some (.ref f_law)
  b_law : Binds K fd_law ["script"] []
  z_abs : mg "abs" = none
  z_any : mg "any" = none
  z_bool : mg "bool" = none
  z_enumerate : mg "enumerate" = none
  z_int : mg "int" = none
  z_isinstance : mg "isinstance" = none
  z_len : mg "len" = none
  z_min : mg "min" = none
  z_range : mg "range" = none
  z_sorted : mg "sorted" = none
  z_tuple : mg "tuple" = none
  z_zip : mg "zip" = none
  kw_0 : KwB fd_needed_words ["code", "word"] ["code", "word"] 0 [0, 1]
  kw_1 : KwB fd_met_rows ["code", "word"] ["code", "word"] 0 [0, 1]
  kw_2 : KwB fd_lost_words ["code"] ["code"] 0 [0]
  kw_3 : KwB fd_ended_rows ["code"] ["code"] 0 [0]
section
variable {P : Program} {w : World} {K : PySem.W.Frag} {mg : Str → Option Value} {base : Heap}
theorem dv_nexts_of (T : Txt K mg) : ∀ (cdv : Value) (A : Around) (outer : List Env) (s : Shared) (H : Hp) (E : XK), Room 0 (A.deeper (envOfC "nexts_of" (defScope s_nexts_of) s.heap.objs.size T.f_nexts_of cdv)) → DPSs (cxOf CX0 P w K mg base N_nexts_of "nexts_of" (defScope s_nexts_of) T.f_nexts_of cdv A outer s H E).nox (KG.top K) (defBody s_nexts_of) rd_nexts_of := by
    intro cdv A outer s H E hr
    unfold rd_nexts_of
    exact (dpss_cons (dps_if (dpt_cmp (dop_eq hr.units) (dpe_ix dix (dpe_var 0) dpe_int) dpe_str) (dpss_one (dps_ret (dpe_ix dix (dpe_var 0) dpe_int))) dpss_nil)
    (dpss_one (dps_ret (dpe_ifExp (dpt_cmp (dop_eq hr.units) (dpe_ix dix (dpe_var 0) dpe_int) dpe_str) (dpe_tup dpa_nil) (dpe_tup (dpa_cons (dpe_ix dix (dpe_var 0) (dpe_un dun_neg dpe_int)) dpa_nil))))))
theorem ok_nexts_of (T : Txt K mg) : FnD P w K mg base 1 T.f_nexts_of T.fd_nexts_of ["row"] (a1 sp_nexts_of) := FnD.mk T.F_nexts_of sc_nexts_of a1_len (dv_nexts_of T) rd_nexts_of_ok
theorem dv_goes_on (T : Txt K mg) : ∀ (cdv : Value) (A : Around) (outer : List Env) (s : Shared) (H : Hp) (E : XK), Room 1 (A.deeper (envOfC "goes_on" (defScope s_goes_on) s.heap.objs.size T.f_goes_on cdv)) → DPSs (cxOf CX0 P w K mg base N_goes_on "goes_on" (defScope s_goes_on) T.f_goes_on cdv A outer s H E).nox (KG.top K) (defBody s_goes_on) rd_goes_on := by
    intro cdv A outer s H E hr
    unfold rd_goes_on
    exact (dpss_cons (dps_if (dpt_cmp (dop_eq hr.units) (dpe_ix dix (dpe_var 1) dpe_int) dpe_str) (dpss_one (dps_ret dpe_bl)) dpss_nil)
    (dpss_cons (dps_if (DPW.pt (dpw_and (dpt_cmp (dop_eq hr.units) (dpe_ix dix (dpe_var 1) dpe_int) dpe_str) (dpw_and1 (dpt_not (dpt_truth (dpe_ix dix (dpe_ix dix (dpe_var 2) (dpe_ix dix (dpe_var 1) dpe_int)) dpe_int)))))) (dpss_one (dps_ret dpe_bl)) dpss_nil)
    (dpss_one (dps_ret (dpe_callB (dcall_any rfl) (by rfl) T.z_any boot_any (dpa_cons (dpe_lc (tg := (.nm 4)) (own := [("number", 4)]) sc_goes_on.nd (dpi_tup (dpe_call (ok_nexts_of T) (hr.mono (by decide)) (by rfl) T.m_nexts_of T.F_nexts_of.kp T.b_nexts_of (dpa_cons (dpe_var 1) dpa_nil))) (blkOk_by (own := [("number", 4)]) (N := N_goes_on) (sc := defScope s_goes_on) (by decide +kernel)) (fun _ _ _ _ _ => dpg_name 4 sc_goes_on.nd) (fun _ _ _ _ _ => dpt_yes) (fun _ _ _ _ _ => (dpe_ix dix (dpe_var 3) (dpe_var 4)))) dpa_nil))))))
theorem ok_goes_on (T : Txt K mg) : FnD P w K mg base 2 T.f_goes_on T.fd_goes_on ["code", "row", "ended", "kept"] (a4 sp_goes_on) := FnD.mk T.F_goes_on sc_goes_on a4_len (dv_goes_on T) rd_goes_on_ok
theorem dv_ended_marks (T : Txt K mg) : ∀ (cdv : Value) (A : Around) (outer : List Env) (s : Shared) (H : Hp) (E : XK), Room 2 (A.deeper (envOfC "ended_marks" (defScope s_ended_marks) s.heap.objs.size T.f_ended_marks cdv)) → DPSs (cxOf CX0 P w K mg base N_ended_marks "ended_marks" (defScope s_ended_marks) T.f_ended_marks cdv A outer s H E).nox (KG.top K) (defBody s_ended_marks) rd_ended_marks := by
    intro cdv A outer s H E hr
    unfold rd_ended_marks
    exact (dpss_cons (dps_set 1 sc_ended_marks.nd (dpe_lc (tg := (.nm 2)) (own := [("rows", 2)]) sc_ended_marks.nd (dpi_tup (dpe_var 0)) (blkOk_by (own := [("rows", 2)]) (N := N_ended_marks) (sc := defScope s_ended_marks) (by decide +kernel)) (fun _ _ _ _ _ => dpg_name 2 sc_ended_marks.nd) (fun _ _ _ _ _ => dpt_yes) (fun _ _ _ _ _ => (dpe_lc (tg := (.nm 3)) (own := [("row", 3)]) sc_ended_marks.nd (dpi_tup (dpe_var 2)) (blkOk_by (own := [("row", 3)]) (by kernel_rfl)) (fun _ _ _ _ _ => dpg_name 3 sc_ended_marks.nd) (fun _ _ _ _ _ => dpt_yes) (fun _ _ _ _ _ => dpe_bl)))))
    (dpss_cons (dps_set 4 sc_ended_marks.nd dpe_bl)
    (dpss_cons (dps_while (dpt_truth (dpe_var 4)) (dpss_cons (dps_set 5 sc_ended_marks.nd (dpe_lstM dpa_nil))
    (dpss_cons (dps_for (dpi_enum (by rfl) T.z_enumerate (dpe_var 0)) (dpg_tg (tg := .tp [6, 2]) (pg_tup rfl (pgs_cons (dpg_name 6 sc_ended_marks.nd) (pgs_cons (dpg_name 2 sc_ended_marks.nd) pgs_nil)))) (dpss_one (dps_expr (dpe_lm PySem.F.slot_list_append PySem.F.type_list_append mt_append lr_append (dpe_var 5) (dpa_cons (dpe_lc (tg := (.nm 3)) (own := [("row", 3)]) sc_ended_marks.nd (dpi_tup (dpe_var 2)) (blkOk_by (own := [("row", 3)]) (N := N_ended_marks) (sc := defScope s_ended_marks) (by decide +kernel)) (fun _ _ _ _ _ => dpg_name 3 sc_ended_marks.nd) (fun _ _ _ _ _ => dpt_yes) (fun _ _ _ _ _ => (dpe_call (ok_goes_on T) (hr.mono (by decide)) (by rfl) T.m_goes_on T.F_goes_on.kp T.b_goes_on (dpa_cons (dpe_var 0) (dpa_cons (dpe_var 3) (dpa_cons (dpe_var 1) (dpa_cons (dpe_ix dix (dpe_var 1) (dpe_var 6)) dpa_nil))))))) dpa_nil)))))
    (dpss_frz 5 (dpss_cons (dps_set 4 sc_ended_marks.nd (dpe_cmp (dop_ne hr.units) (dpe_var 5) (dpe_var 1)))
    (dpss_one (dps_set 1 sc_ended_marks.nd (dpe_var 5))))))))
    (dpss_one (dps_ret (dpe_var 1))))))
theorem ok_ended_marks (T : Txt K mg) : FnD P w K mg base 3 T.f_ended_marks T.fd_ended_marks ["code"] (a1 sp_ended_marks) := FnD.mk T.F_ended_marks sc_ended_marks a1_len (dv_ended_marks T) rd_ended_marks_ok
theorem dv_ended_rows (T : Txt K mg) : ∀ (cdv : Value) (A : Around) (outer : List Env) (s : Shared) (H : Hp) (E : XK), Room 3 (A.deeper (envOfC "ended_rows" (defScope s_ended_rows) s.heap.objs.size T.f_ended_rows cdv)) → DPSs (cxOf CX0 P w K mg base N_ended_rows "ended_rows" (defScope s_ended_rows) T.f_ended_rows cdv A outer s H E).nox (KG.top K) (defBody s_ended_rows) rd_ended_rows := by
    intro cdv A outer s H E hr
    unfold rd_ended_rows
    exact (dpss_one (dps_ret (dpe_callTy dcall_tuple (by rfl) T.z_tuple boot_tuple (dpa_cons (dpe_lc (tg := (.nm 1)) (own := [("row", 1)]) sc_ended_rows.nd (dpi_seq (dpe_call (ok_ended_marks T) (hr.mono (by decide)) (by rfl) T.m_ended_marks T.F_ended_marks.kp T.b_ended_marks (dpa_cons (dpe_var 0) dpa_nil))) (blkOk_by (own := [("row", 1)]) (N := N_ended_rows) (sc := defScope s_ended_rows) (by decide +kernel)) (fun _ _ _ _ _ => dpg_name 1 sc_ended_rows.nd) (fun _ _ _ _ _ => dpt_yes) (fun _ _ _ _ _ => (dpe_callTy dcall_tuple (by rfl) T.z_tuple boot_tuple (dpa_cons (dpe_lc (tg := (.tp [2, 3])) (own := [("at", 2), ("mark", 3)]) sc_ended_rows.nd (dpi_enum (by rfl) T.z_enumerate (dpe_var 1)) (blkOk_by (own := [("at", 2), ("mark", 3)]) (by kernel_rfl)) (fun _ _ _ _ _ => (pg_tup rfl (pgs_cons (dpg_name 2 sc_ended_rows.nd) (pgs_cons (dpg_name 3 sc_ended_rows.nd) pgs_nil)))) (fun _ _ _ _ _ => dpts_one (dpt_truth (dpe_var 3))) (fun _ _ _ _ _ => (dpe_var 2))) dpa_nil)))) dpa_nil))))
theorem ok_ended_rows (T : Txt K mg) : FnD P w K mg base 4 T.f_ended_rows T.fd_ended_rows ["code"] (a1 sp_ended_rows) := FnD.mk T.F_ended_rows sc_ended_rows a1_len (dv_ended_rows T) rd_ended_rows_ok
theorem dv_lost_words (T : Txt K mg) : ∀ (cdv : Value) (A : Around) (outer : List Env) (s : Shared) (H : Hp) (E : XK), Room 3 (A.deeper (envOfC "lost_words" (defScope s_lost_words) s.heap.objs.size T.f_lost_words cdv)) → DPSs (cxOf CX0 P w K mg base N_lost_words "lost_words" (defScope s_lost_words) T.f_lost_words cdv A outer s H E).nox (KG.top K) (defBody s_lost_words) rd_lost_words := by
    intro cdv A outer s H E hr
    unfold rd_lost_words
    exact (dpss_one (dps_ret (dpe_callTy dcall_tuple (by rfl) T.z_tuple boot_tuple (dpa_cons (dpe_lc (tg := (.tp [1, 2])) (own := [("at", 1), ("row", 2)]) sc_lost_words.nd (dpi_enum (by rfl) T.z_enumerate (dpe_call (ok_ended_marks T) (hr.mono (by decide)) (by rfl) T.m_ended_marks T.F_ended_marks.kp T.b_ended_marks (dpa_cons (dpe_var 0) dpa_nil))) (blkOk_by (own := [("at", 1), ("row", 2)]) (N := N_lost_words) (sc := defScope s_lost_words) (by decide +kernel)) (fun _ _ _ _ _ => (pg_tup rfl (pgs_cons (dpg_name 1 sc_lost_words.nd) (pgs_cons (dpg_name 2 sc_lost_words.nd) pgs_nil)))) (fun _ _ _ _ _ => dpts_one (dpt_not (dpt_truth (dpe_ix dix (dpe_var 2) dpe_int)))) (fun _ _ _ _ _ => (dpe_var 1))) dpa_nil))))
theorem ok_lost_words (T : Txt K mg) : FnD P w K mg base 4 T.f_lost_words T.fd_lost_words ["code"] (a1 sp_lost_words) := FnD.mk T.F_lost_words sc_lost_words a1_len (dv_lost_words T) rd_lost_words_ok
theorem dv_ways_on (T : Txt K mg) : ∀ (cdv : Value) (A : Around) (outer : List Env) (s : Shared) (H : Hp) (E : XK), Room 1 (A.deeper (envOfC "ways_on" (defScope s_ways_on) s.heap.objs.size T.f_ways_on cdv)) → DPSs (cxOf CX0 P w K mg base N_ways_on "ways_on" (defScope s_ways_on) T.f_ways_on cdv A outer s H E).nox (KG.top K) (defBody s_ways_on) rd_ways_on := by
    intro cdv A outer s H E hr
    unfold rd_ways_on
    exact (dpss_cons (dps_set 4 sc_ways_on.nd (dpe_ix dix (dpe_ix dix (dpe_var 0) (dpe_var 2)) (dpe_var 3)))
    (dpss_one (dps_ret (dpe_ifExp (DPW.pt (dpw_and (dpt_cmp (dop_eq hr.units) (dpe_ix dix (dpe_var 4) dpe_int) dpe_str) (dpw_and1 (dpt_not (dpt_truth (dpe_ix dix (dpe_ix dix (dpe_var 1) (dpe_ix dix (dpe_var 4) dpe_int)) dpe_int)))))) (dpe_tup dpa_nil) (dpe_call (ok_nexts_of T) (hr.mono (by decide)) (by rfl) T.m_nexts_of T.F_nexts_of.kp T.b_nexts_of (dpa_cons (dpe_var 4) dpa_nil))))))
theorem ok_ways_on (T : Txt K mg) : FnD P w K mg base 2 T.f_ways_on T.fd_ways_on ["code", "marks", "word", "row"] (a4 sp_ways_on) := FnD.mk T.F_ways_on sc_ways_on a4_len (dv_ways_on T) rd_ways_on_ok
theorem dv_met_by (T : Txt K mg) : ∀ (cdv : Value) (A : Around) (outer : List Env) (s : Shared) (H : Hp) (E : XK), Room 2 (A.deeper (envOfC "met_by" (defScope s_met_by) s.heap.objs.size T.f_met_by cdv)) → DPSs (cxOf CX0 P w K mg base N_met_by "met_by" (defScope s_met_by) T.f_met_by cdv A outer s H E).nox (KG.top K) (defBody s_met_by) rd_met_by := by
    intro cdv A outer s H E hr
    unfold rd_met_by
    exact (dpss_cons (dps_set 3 sc_met_by.nd (dpe_lstM (dpa_cons dpe_int dpa_nil)))
    (dpss_cons (dps_set 4 sc_met_by.nd dpe_int)
    (dpss_cons (dps_while (dpt_cmp dop_lt (dpe_var 4) (dpe_callB dcall_len (by rfl) T.z_len boot_len (dpa_cons (dpe_var 3) dpa_nil))) (dpss_cons (dps_for (dpi_tup (dpe_call (ok_ways_on T) (hr.mono (by decide)) (by rfl) T.m_ways_on T.F_ways_on.kp T.b_ways_on (dpa_cons (dpe_var 0) (dpa_cons (dpe_var 1) (dpa_cons (dpe_var 2) (dpa_cons (dpe_ix dix (dpe_var 3) (dpe_var 4)) dpa_nil)))))) (dpg_tg (dpg_name 5 sc_met_by.nd)) (dpss_one (dps_if (dpt_cmp dop_notin (dpe_var 5) (dpe_var 3)) (dpss_one (dps_expr (dpe_lm PySem.F.slot_list_append PySem.F.type_list_append mt_append lr_append (dpe_var 3) (dpa_cons (dpe_var 5) dpa_nil)))) dpss_nil)))
    (dpss_one (dps_aug 4 dop_iadd sc_met_by.nd dpe_int))))
    (dpss_one (dps_ret (dpe_var 3))))))
theorem ok_met_by (T : Txt K mg) : FnD P w K mg base 3 T.f_met_by T.fd_met_by ["code", "marks", "word"] (a3 sp_met_by) := FnD.mk T.F_met_by sc_met_by a3_len (dv_met_by T) rd_met_by_ok
theorem dv_met_rows (T : Txt K mg) : ∀ (cdv : Value) (A : Around) (outer : List Env) (s : Shared) (H : Hp) (E : XK), Room 3 (A.deeper (envOfC "met_rows" (defScope s_met_rows) s.heap.objs.size T.f_met_rows cdv)) → DPSs (cxOf CX0 P w K mg base N_met_rows "met_rows" (defScope s_met_rows) T.f_met_rows cdv A outer s H E).nox (KG.top K) (defBody s_met_rows) rd_met_rows := by
    intro cdv A outer s H E hr
    unfold rd_met_rows
    exact (dpss_one (dps_ret (dpe_callTy dcall_tuple (by rfl) T.z_tuple boot_tuple (dpa_cons (dpe_callB dcall_sortedI (by rfl) T.z_sorted boot_sorted (dpa_cons (dpe_call (ok_met_by T) (hr.mono (by decide)) (by rfl) T.m_met_by T.F_met_by.kp T.b_met_by (dpa_cons (dpe_var 0) (dpa_cons (dpe_call (ok_ended_marks T) (hr.mono (by decide)) (by rfl) T.m_ended_marks T.F_ended_marks.kp T.b_ended_marks (dpa_cons (dpe_var 0) dpa_nil)) (dpa_cons (dpe_var 1) dpa_nil)))) dpa_nil)) dpa_nil))))
theorem ok_met_rows (T : Txt K mg) : FnD P w K mg base 4 T.f_met_rows T.fd_met_rows ["code", "word"] (a2 sp_met_rows) := FnD.mk T.F_met_rows sc_met_rows a2_len (dv_met_rows T) rd_met_rows_ok
theorem dv_needed_by (T : Txt K mg) : ∀ (cdv : Value) (A : Around) (outer : List Env) (s : Shared) (H : Hp) (E : XK), Room 3 (A.deeper (envOfC "needed_by" (defScope s_needed_by) s.heap.objs.size T.f_needed_by cdv)) → DPSs (cxOf CX0 P w K mg base N_needed_by "needed_by" (defScope s_needed_by) T.f_needed_by cdv A outer s H E).nox (KG.top K) (defBody s_needed_by) rd_needed_by := by
    intro cdv A outer s H E hr
    unfold rd_needed_by
    exact (dpss_cons (dps_set 3 sc_needed_by.nd (dpe_lstM (dpa_cons (dpe_var 2) dpa_nil)))
    (dpss_cons (dps_set 4 sc_needed_by.nd dpe_int)
    (dpss_cons (dps_while (dpt_cmp dop_lt (dpe_var 4) (dpe_callB dcall_len (by rfl) T.z_len boot_len (dpa_cons (dpe_var 3) dpa_nil))) (dpss_cons (dps_for (dpi_seq (dpe_call (ok_met_by T) (hr.mono (by decide)) (by rfl) T.m_met_by T.F_met_by.kp T.b_met_by (dpa_cons (dpe_var 0) (dpa_cons (dpe_var 1) (dpa_cons (dpe_ix dix (dpe_var 3) (dpe_var 4)) dpa_nil))))) (dpg_tg (dpg_name 5 sc_needed_by.nd)) (dpss_cons (dps_set 6 sc_needed_by.nd (dpe_ix dix (dpe_ix dix (dpe_var 0) (dpe_ix dix (dpe_var 3) (dpe_var 4))) (dpe_var 5)))
    (dpss_one (dps_if (DPW.pt (dpw_and (dpt_cmp (dop_eq hr.units) (dpe_ix dix (dpe_var 6) dpe_int) dpe_str) (dpw_and (dpt_truth (dpe_ix dix (dpe_ix dix (dpe_var 1) (dpe_ix dix (dpe_var 3) (dpe_var 4))) (dpe_var 5))) (dpw_and1 (dpt_cmp dop_notin (dpe_ix dix (dpe_var 6) dpe_int) (dpe_var 3)))))) (dpss_one (dps_expr (dpe_lm PySem.F.slot_list_append PySem.F.type_list_append mt_append lr_append (dpe_var 3) (dpa_cons (dpe_ix dix (dpe_var 6) dpe_int) dpa_nil)))) dpss_nil))))
    (dpss_one (dps_aug 4 dop_iadd sc_needed_by.nd dpe_int))))
    (dpss_one (dps_ret (dpe_var 3))))))
theorem ok_needed_by (T : Txt K mg) : FnD P w K mg base 4 T.f_needed_by T.fd_needed_by ["code", "marks", "word"] (a3 sp_needed_by) := FnD.mk T.F_needed_by sc_needed_by a3_len (dv_needed_by T) rd_needed_by_ok
theorem dv_needed_words (T : Txt K mg) : ∀ (cdv : Value) (A : Around) (outer : List Env) (s : Shared) (H : Hp) (E : XK), Room 4 (A.deeper (envOfC "needed_words" (defScope s_needed_words) s.heap.objs.size T.f_needed_words cdv)) → DPSs (cxOf CX0 P w K mg base N_needed_words "needed_words" (defScope s_needed_words) T.f_needed_words cdv A outer s H E).nox (KG.top K) (defBody s_needed_words) rd_needed_words := by
    intro cdv A outer s H E hr
    unfold rd_needed_words
    exact (dpss_one (dps_ret (dpe_callTy dcall_tuple (by rfl) T.z_tuple boot_tuple (dpa_cons (dpe_callB dcall_sortedI (by rfl) T.z_sorted boot_sorted (dpa_cons (dpe_call (ok_needed_by T) (hr.mono (by decide)) (by rfl) T.m_needed_by T.F_needed_by.kp T.b_needed_by (dpa_cons (dpe_var 0) (dpa_cons (dpe_call (ok_ended_marks T) (hr.mono (by decide)) (by rfl) T.m_ended_marks T.F_ended_marks.kp T.b_ended_marks (dpa_cons (dpe_var 0) dpa_nil)) (dpa_cons (dpe_var 1) dpa_nil)))) dpa_nil)) dpa_nil))))
theorem ok_needed_words (T : Txt K mg) : FnD P w K mg base 5 T.f_needed_words T.fd_needed_words ["code", "word"] (a2 sp_needed_words) := FnD.mk T.F_needed_words sc_needed_words a2_len (dv_needed_words T) rd_needed_words_ok
theorem dv_law_basket (T : Txt K mg) : ∀ (cdv : Value) (A : Around) (outer : List Env) (s : Shared) (H : Hp) (E : XK), Room 0 (A.deeper (envOfC "_law_basket" (defScope s_law_basket) s.heap.objs.size T.f_law_basket cdv)) → DPSs (cxOf CX0 P w K mg base N_law_basket "_law_basket" (defScope s_law_basket) T.f_law_basket cdv A outer s H E).nox (KG.top K) (defBody s_law_basket) rd_law_basket := by
    intro cdv A outer s H E hr
    unfold rd_law_basket
    exact (dpss_cons (dps_set 1 sc_law_basket.nd (dpe_lstM dpa_nil))
    (dpss_cons (dps_set 2 sc_law_basket.nd dpe_int)
    (dpss_cons (dps_for (dpi_seq (dpe_slice dsl (dpe_var 0) dpo_none (dpo_some dpe_int))) (dpg_tg (dpg_name 3 sc_law_basket.nd)) (dpss_cons (dps_set 4 sc_law_basket.nd (dpe_op dop_mod (dpe_callB dcall_abs (by rfl) T.z_abs boot_abs (dpa_cons (dpe_callTy dcall_int (by rfl) T.z_int boot_int (dpa_cons (dpe_var 3) dpa_nil)) dpa_nil)) (dpe_op dop_shl dpe_int dpe_int)))
    (dpss_cons (dps_set 2 sc_law_basket.nd (dpe_op dop_mod (dpe_op dop_add (dpe_op dop_add (dpe_op dop_mod (dpe_callTy dcall_int (by rfl) T.z_int boot_int (dpa_cons (dpe_var 4) dpa_nil)) dpe_int) (dpe_op dop_mul (dpe_var 2) dpe_int)) dpe_int) dpe_int))
    (dpss_one (dps_if (dpt_cmp dop_ge (dpe_var 4) (dpe_op dop_pow dpe_int dpe_int)) (dpss_one (dps_expr (dpe_lm PySem.F.slot_list_append PySem.F.type_list_append mt_append lr_append (dpe_var 1) (dpa_cons (dpe_var 4) dpa_nil)))) dpss_nil)))))
    (dpss_one (dps_ret (dpe_disp (ks := [Sum.inr "heavy", Sum.inr "weight", Sum.inr "lap"]) (ts := [(dVar 1), (dVar 2), (dC (.int 0))]) (pps_cons (tk := tKey (Sum.inr "heavy")) pe_str (dpe_var 1) (pps_cons (tk := tKey (Sum.inr "weight")) pe_str (dpe_var 2) (pps_cons (tk := tKey (Sum.inr "lap")) pe_str dpe_int pps_nil))) (by decide) (by decide) rfl))))))
theorem ok_law_basket (T : Txt K mg) : FnD P w K mg base 1 T.f_law_basket T.fd_law_basket ["script"] (a1 sp_law_basket) := FnD.mk T.F_law_basket sc_law_basket a1_len (dv_law_basket T) rd_law_basket_ok
theorem dv_law_fetch (T : Txt K mg) : ∀ (cdv : Value) (A : Around) (outer : List Env) (s : Shared) (H : Hp) (E : XK), Room 0 (A.deeper (envOfC "_law_fetch" (defScope s_law_fetch) s.heap.objs.size T.f_law_fetch cdv)) → DPSs (cxOf CX0 P w K mg base N_law_fetch "_law_fetch" (defScope s_law_fetch) T.f_law_fetch cdv A outer s H E).nox (KG.top K) (defBody s_law_fetch) rd_law_fetch := by
    intro cdv A outer s H E hr
    unfold rd_law_fetch
    exact (dpss_cons (dps_set 2 sc_law_fetch.nd (dpe_dget (hu_of hr) (dpe_var 0) dpe_str))
    (dpss_cons (dps_if (dpt_truth (dpe_var 2)) (dpss_cons (dps_set 3 sc_law_fetch.nd (dpe_callTy dcall_int (by rfl) T.z_int boot_int (dpa_cons (dpe_ix dix (dpe_var 2) dpe_int) dpa_nil)))
    (dpss_cons (dps_asg (dpe_op dop_div (dpe_var 3) (dpe_var 1)) (dpg_sub (dpe_var 2) dpe_int))
    (dpss_cons (dps_if (dpt_cmp (dop_eq hr.units) (dpe_ix dix (dpe_var 2) dpe_int) dpe_int) (dpss_one (dps_expr (dpe_lm PySem.F.slot_list_pop PySem.F.type_list_pop mt_popAt lr_popAt (dpe_var 2) (dpa_cons dpe_int dpa_nil)))) dpss_nil)
    (dpss_one (dps_ret (dpe_op dop_mod (dpe_var 3) (dpe_var 1))))))) dpss_nil)
    (dpss_cons (dps_dput (hu_of hr) (dpe_var 0) dpe_str (dpe_op dop_add (dpe_dget (hu_of hr) (dpe_var 0) dpe_str) dpe_int))
    (dpss_cons (dps_dput (hu_of hr) (dpe_var 0) dpe_str (dpe_op dop_mod (dpe_op dop_add (dpe_op dop_add (dpe_op dop_mul (dpe_callTy dcall_int (by rfl) T.z_int boot_int (dpa_cons (dpe_dget (hu_of hr) (dpe_var 0) dpe_str) dpa_nil)) dpe_int) (dpe_op dop_mul (dpe_dget (hu_of hr) (dpe_var 0) dpe_str) dpe_int)) dpe_int) dpe_int))
    (dpss_one (dps_ret (dpe_op dop_mod (dpe_op dop_div (dpe_callTy dcall_int (by rfl) T.z_int boot_int (dpa_cons (dpe_dget (hu_of hr) (dpe_var 0) dpe_str) dpa_nil)) dpe_int) (dpe_var 1))))))))
theorem ok_law_fetch (T : Txt K mg) : FnD P w K mg base 1 T.f_law_fetch T.fd_law_fetch ["basket", "many"] (a2 sp_law_fetch) := FnD.mk T.F_law_fetch sc_law_fetch a2_len (dv_law_fetch T) rd_law_fetch_ok
theorem dv_law_agree (T : Txt K mg) {k : Nat} {spr : DSp} (G : FnD P w K mg base k T.f_law_agree T.fd_law_agree ["told", "due"] spr) (hk : 0 ≤ k) : ∀ (cdv : Value) (A : Around) (outer : List Env) (s : Shared) (H : Hp) (E : XK), Room k (A.deeper (envOfC "_law_agree" (defScope s_law_agree) s.heap.objs.size T.f_law_agree cdv)) → DPSs (cxOf CX0 P w K mg base N_law_agree "_law_agree" (defScope s_law_agree) T.f_law_agree cdv A outer s H E).nox (KG.top K) (defBody s_law_agree) (rd_law_agree spr) := by
    intro cdv A outer s H E hr
    unfold rd_law_agree
    exact (dpss_cons (dps_if (dpt_not (dpt_val (dpe_callB dcall_isi (by rfl) T.z_isinstance boot_isinstance (dpa_cons (dpe_var 1) (dpa_cons (dpe_ty (by rfl) T.z_tuple boot_tuple) dpa_nil))))) (dpss_one (dps_ret (dpe_and (dpe_callB dcall_isi (by rfl) T.z_isinstance boot_isinstance (dpa_cons (dpe_var 0) (dpa_cons (dpe_ty (by rfl) T.z_int boot_int) dpa_nil))) (dpe_and (dpe_not (dpe_callB dcall_isi (by rfl) T.z_isinstance boot_isinstance (dpa_cons (dpe_var 0) (dpa_cons (dpe_ty (by rfl) T.z_bool boot_bool) dpa_nil)))) (dpe_one (dpe_cmp (dop_eq hr.units) (dpe_var 0) (dpe_var 1))))))) dpss_nil)
    (dpss_cons (dps_if (DPW.pt (dpw_or (dpt_not (dpt_val (dpe_callB dcall_isi (by rfl) T.z_isinstance boot_isinstance (dpa_cons (dpe_var 0) (dpa_cons (dpe_ty (by rfl) T.z_tuple boot_tuple) dpa_nil))))) (dpw_or1 (dpt_cmp (dop_ne hr.units) (dpe_callB dcall_len (by rfl) T.z_len boot_len (dpa_cons (dpe_var 0) dpa_nil)) (dpe_callB dcall_len (by rfl) T.z_len boot_len (dpa_cons (dpe_var 1) dpa_nil)))))) (dpss_one (dps_ret dpe_bl)) dpss_nil)
    (dpss_cons (dps_for (dpi_zip (by rfl) T.z_zip (dpe_var 0) (dpe_var 1)) (dpg_tg (tg := .tp [2, 3]) (pg_tup rfl (pgs_cons (dpg_name 2 sc_law_agree.nd) (pgs_cons (dpg_name 3 sc_law_agree.nd) pgs_nil)))) (dpss_one (dps_if (dpt_not (dpt_val (dpe_call G hr (by rfl) T.m_law_agree T.F_law_agree.kp T.b_law_agree (dpa_cons (dpe_var 2) (dpa_cons (dpe_var 3) dpa_nil))))) (dpss_one (dps_ret dpe_bl)) dpss_nil)))
    (dpss_one (dps_ret dpe_bl)))))
theorem ok_agree_n (T : Txt K mg) : ∀ n, FnD P w K mg base (n + 1) T.f_law_agree T.fd_law_agree ["told", "due"] (a2 (sp_agree n))
  | 0 => FnD.mk T.F_law_agree sc_law_agree a2_len (dv_law_agree T (k := 0) (spr := fun _ _ _ => False) FnD.none (Nat.le_refl 0)) (rd_law_agree_ok 0 _ (fun m e => by cases e))
  | n + 1 => FnD.mk T.F_law_agree sc_law_agree a2_len (dv_law_agree T (ok_agree_n T n) (Nat.zero_le _)) (rd_law_agree_ok (n + 1) _ (fun m e => by cases e; rfl))
theorem ok_law_agree (T : Txt K mg) : FnD P w K mg base 7 T.f_law_agree T.fd_law_agree ["told", "due"] (a2 sp_law_agree) := ok_agree_n T 6
theorem dv_law_leads (T : Txt K mg) : ∀ (cdv : Value) (A : Around) (outer : List Env) (s : Shared) (H : Hp) (E : XK), Room 0 (A.deeper (envOfC "_law_leads" (defScope s_law_leads) s.heap.objs.size T.f_law_leads cdv)) → DPSs (cxOf CX0 P w K mg base N_law_leads "_law_leads" (defScope s_law_leads) T.f_law_leads cdv A outer s H E).nox (KG.top K) (defBody s_law_leads) rd_law_leads := by
    intro cdv A outer s H E hr
    unfold rd_law_leads
    exact (dpss_cons (dps_if (dpt_cmp (dop_eq hr.units) (dpe_ix dix (dpe_var 0) dpe_int) dpe_str) (dpss_one (dps_ret (dpe_tup dpa_nil))) dpss_nil)
    (dpss_one (dps_ret (dpe_ifExp (dpt_cmp (dop_eq hr.units) (dpe_ix dix (dpe_var 0) dpe_int) dpe_str) (dpe_ix dix (dpe_var 0) dpe_int) (dpe_tup (dpa_cons (dpe_ix dix (dpe_var 0) (dpe_op dop_sub (dpe_callB dcall_len (by rfl) T.z_len boot_len (dpa_cons (dpe_var 0) dpa_nil)) dpe_int)) dpa_nil))))))
theorem ok_law_leads (T : Txt K mg) : FnD P w K mg base 1 T.f_law_leads T.fd_law_leads ["row"] (a1 sp_law_leads) := FnD.mk T.F_law_leads sc_law_leads a1_len (dv_law_leads T) rd_law_leads_ok
theorem dv_law_code (T : Txt K mg) : ∀ (cdv : Value) (A : Around) (outer : List Env) (s : Shared) (H : Hp) (E : XK), Room 1 (A.deeper (envOfC "_law_code" (defScope s_law_code) s.heap.objs.size T.f_law_code cdv)) → DPSs (cxOf CX0 P w K mg base N_law_code "_law_code" (defScope s_law_code) T.f_law_code cdv A outer s H E).nox (KG.top K) (defBody s_law_code) rd_law_code := by
    intro cdv A outer s H E hr
    unfold rd_law_code
    exact (dpss_cons (dps_set 4 sc_law_code.nd (dpe_lstM dpa_nil))
    (dpss_cons (dps_for (dpi_range1 (by rfl) T.z_range (dpe_var 1)) (dpg_tg (dpg_name 5 sc_law_code.nd)) (dpss_cons (dps_set 6 sc_law_code.nd (dpe_op dop_add dpe_int (dpe_call (ok_law_fetch T) (hr.mono (by decide)) (by rfl) T.m_law_fetch T.F_law_fetch.kp T.b_law_fetch (dpa_cons (dpe_var 0) (dpa_cons (dpe_var 2) dpa_nil)))))
    (dpss_cons (dps_set 7 sc_law_code.nd (dpe_lstM dpa_nil))
    (dpss_cons (dps_for (dpi_range1 (by rfl) T.z_range (dpe_var 6)) (dpg_tg (dpg_name 8 sc_law_code.nd)) (dpss_cons (dps_set 9 sc_law_code.nd (dpe_lst (dpa_cons (dpe_call (ok_law_fetch T) (hr.mono (by decide)) (by rfl) T.m_law_fetch T.F_law_fetch.kp T.b_law_fetch (dpa_cons (dpe_var 0) (dpa_cons (dpe_var 6) dpa_nil))) (dpa_cons (dpe_callB (dcall_min2 rfl) (by rfl) T.z_min boot_min (dpa_cons (dpe_op dop_sub (dpe_var 6) dpe_int) (dpa_cons (dpe_op dop_add (dpe_var 8) dpe_int) dpa_nil))) (dpa_cons (dpe_callB (dcall_min2 rfl) (by rfl) T.z_min boot_min (dpa_cons (dpe_op dop_sub (dpe_var 6) dpe_int) (dpa_cons (dpe_op dop_add (dpe_var 8) dpe_int) dpa_nil))) (dpa_cons (dpe_op dop_sub (dpe_var 6) dpe_int) (dpa_cons (dpe_call (ok_law_fetch T) (hr.mono (by decide)) (by rfl) T.m_law_fetch T.F_law_fetch.kp T.b_law_fetch (dpa_cons (dpe_var 0) (dpa_cons (dpe_op dop_add (dpe_var 8) dpe_int) dpa_nil))) dpa_nil)))))))
    (dpss_cons (dps_set 10 sc_law_code.nd (dpe_ix dix (dpe_var 9) (dpe_ifExp (dpt_cmp dop_lt (dpe_var 3) dpe_int) (dpe_call (ok_law_fetch T) (hr.mono (by decide)) (by rfl) T.m_law_fetch T.F_law_fetch.kp T.b_law_fetch (dpa_cons (dpe_var 0) (dpa_cons dpe_int dpa_nil))) (dpe_op dop_add dpe_int (dpe_call (ok_law_fetch T) (hr.mono (by decide)) (by rfl) T.m_law_fetch T.F_law_fetch.kp T.b_law_fetch (dpa_cons (dpe_var 0) (dpa_cons dpe_int dpa_nil)))))))
    (dpss_cons (dps_set 11 sc_law_code.nd (dpe_call (ok_law_fetch T) (hr.mono (by decide)) (by rfl) T.m_law_fetch T.F_law_fetch.kp T.b_law_fetch (dpa_cons (dpe_var 0) (dpa_cons dpe_int dpa_nil))))
    (dpss_one (dps_if (DPW.pt (dpw_or (DPW.pt (dpw_and (dpt_cmp (dop_eq hr.units) (dpe_var 8) (dpe_op dop_sub (dpe_var 6) dpe_int)) (dpw_and1 (dpt_cmp dop_gt (dpe_call (ok_law_fetch T) (hr.mono (by decide)) (by rfl) T.m_law_fetch T.F_law_fetch.kp T.b_law_fetch (dpa_cons (dpe_var 0) (dpa_cons dpe_int dpa_nil))) dpe_int)))) (dpw_or1 (dpt_cmp (dop_eq hr.units) (dpe_var 11) dpe_int)))) (dpss_one (dps_expr (dpe_lm PySem.F.slot_list_append PySem.F.type_list_append mt_append lr_append (dpe_var 7) (dpa_cons (dpe_tup (dpa_cons dpe_str dpa_nil)) dpa_nil)))) (dpss_one (dps_if (dpt_cmp dop_lt (dpe_var 11) dpe_int) (dpss_one (dps_expr (dpe_lm PySem.F.slot_list_append PySem.F.type_list_append mt_append lr_append (dpe_var 7) (dpa_cons (dpe_tup (dpa_cons dpe_str (dpa_cons (dpe_tup dpa_nil) (dpa_cons (dpe_tup dpa_nil) (dpa_cons (dpe_var 10) dpa_nil))))) dpa_nil)))) (dpss_one (dps_if (DPW.pt (dpw_and (dpt_cmp dop_lt (dpe_var 11) dpe_int) (dpw_and1 (dpt_cmp (dop_ne hr.units) (dpe_var 3) dpe_int)))) (dpss_one (dps_expr (dpe_lm PySem.F.slot_list_append PySem.F.type_list_append mt_append lr_append (dpe_var 7) (dpa_cons (dpe_tup (dpa_cons dpe_str (dpa_cons (dpe_ix dix (dpe_lst (dpa_cons (dpe_call (ok_law_fetch T) (hr.mono (by decide)) (by rfl) T.m_law_fetch T.F_law_fetch.kp T.b_law_fetch (dpa_cons (dpe_var 0) (dpa_cons (dpe_var 1) dpa_nil))) (dpa_cons (dpe_callB (dcall_min2 rfl) (by rfl) T.z_min boot_min (dpa_cons (dpe_op dop_sub (dpe_var 1) dpe_int) (dpa_cons (dpe_op dop_add (dpe_var 5) dpe_int) dpa_nil))) (dpa_cons (dpe_var 5) dpa_nil)))) (dpe_call (ok_law_fetch T) (hr.mono (by decide)) (by rfl) T.m_law_fetch T.F_law_fetch.kp T.b_law_fetch (dpa_cons (dpe_var 0) (dpa_cons dpe_int dpa_nil)))) (dpa_cons (dpe_var 10) dpa_nil)))) dpa_nil)))) (dpss_one (dps_expr (dpe_lm PySem.F.slot_list_append PySem.F.type_list_append mt_append lr_append (dpe_var 7) (dpa_cons (dpe_tup (dpa_cons dpe_str (dpa_cons (dpe_op dop_add (dpe_tup (dpa_cons (dpe_var 10) (dpa_cons (dpe_ix dix (dpe_var 9) (dpe_call (ok_law_fetch T) (hr.mono (by decide)) (by rfl) T.m_law_fetch T.F_law_fetch.kp T.b_law_fetch (dpa_cons (dpe_var 0) (dpa_cons dpe_int dpa_nil)))) dpa_nil))) (dpe_op dop_mul (dpe_tup (dpa_cons (dpe_ix dix (dpe_var 9) dpe_int) dpa_nil)) (dpe_call (ok_law_fetch T) (hr.mono (by decide)) (by rfl) T.m_law_fetch T.F_law_fetch.kp T.b_law_fetch (dpa_cons (dpe_var 0) (dpa_cons dpe_int dpa_nil))))) dpa_nil))) dpa_nil))))))))))))))
    (dpss_one (dps_expr (dpe_lm PySem.F.slot_list_append PySem.F.type_list_append mt_append lr_append (dpe_var 4) (dpa_cons (dpe_callTy dcall_tuple (by rfl) T.z_tuple boot_tuple (dpa_cons (dpe_var 7) dpa_nil)) dpa_nil))))))))
    (dpss_one (dps_ret (dpe_callTy dcall_tuple (by rfl) T.z_tuple boot_tuple (dpa_cons (dpe_var 4) dpa_nil))))))
theorem ok_law_code (T : Txt K mg) : FnD P w K mg base 2 T.f_law_code T.fd_law_code ["basket", "words", "most", "habit"] (a4 sp_law_code) := FnD.mk T.F_law_code sc_law_code a4_len (dv_law_code T) rd_law_code_ok
theorem dv_law_ended (T : Txt K mg) : ∀ (cdv : Value) (A : Around) (outer : List Env) (s : Shared) (H : Hp) (E : XK), Room 1 (A.deeper (envOfC "_law_ended" (defScope s_law_ended) s.heap.objs.size T.f_law_ended cdv)) → DPSs (cxOf CX0 P w K mg base N_law_ended "_law_ended" (defScope s_law_ended) T.f_law_ended cdv A outer s H E).nox (KG.top K) (defBody s_law_ended) rd_law_ended := by
    intro cdv A outer s H E hr
    unfold rd_law_ended
    exact (dpss_cons (dps_set 1 sc_law_ended.nd dpe_dnewT)
    (dpss_cons (dps_for (dpi_range1 (by rfl) T.z_range (dpe_callB dcall_len (by rfl) T.z_len boot_len (dpa_cons (dpe_var 0) dpa_nil))) (dpg_tg (dpg_name 2 sc_law_ended.nd)) (dpss_one (dps_for (dpi_range1 (by rfl) T.z_range (dpe_callB dcall_len (by rfl) T.z_len boot_len (dpa_cons (dpe_ix dix (dpe_var 0) (dpe_var 2)) dpa_nil))) (dpg_tg (dpg_name 3 sc_law_ended.nd)) (dpss_one (dps_if (dpt_cmp (dop_eq hr.units) (dpe_ix dix (dpe_ix dix (dpe_ix dix (dpe_var 0) (dpe_var 2)) (dpe_var 3)) dpe_int) dpe_str) (dpss_one (dps_dput (hu_of hr) (dpe_var 1) (dpe_key (dpa_cons (dpe_var 2) (dpa_cons (dpe_var 3) dpa_nil))) dpe_bl)) dpss_nil)))))
    (dpss_cons (dps_set 4 sc_law_ended.nd (dpe_un dun_neg dpe_int))
    (dpss_cons (dps_while (dpt_cmp dop_gt (dpe_callB dcall_lenT (by rfl) T.z_len boot_len (dpa_cons (dpe_var 1) dpa_nil)) (dpe_var 4)) (dpss_cons (dps_set 4 sc_law_ended.nd (dpe_callB dcall_lenT (by rfl) T.z_len boot_len (dpa_cons (dpe_var 1) dpa_nil)))
    (dpss_one (dps_for (dpi_range1 (by rfl) T.z_range (dpe_callB dcall_len (by rfl) T.z_len boot_len (dpa_cons (dpe_var 0) dpa_nil))) (dpg_tg (dpg_name 2 sc_law_ended.nd)) (dpss_one (dps_for (dpi_down (by rfl) T.z_range (dpe_op dop_sub (dpe_callB dcall_len (by rfl) T.z_len boot_len (dpa_cons (dpe_ix dix (dpe_var 0) (dpe_var 2)) dpa_nil)) dpe_int) (dpe_un dun_neg dpe_int) (dpe_un dun_neg dpe_int)) (dpg_tg (dpg_name 3 sc_law_ended.nd)) (dpss_cons (dps_set 5 sc_law_ended.nd (dpe_ix dix (dpe_ix dix (dpe_var 0) (dpe_var 2)) (dpe_var 3)))
    (dpss_one (dps_if (DPW.pt (dpw_and (dpt_dnotin (hu_of hr) (dpe_key (dpa_cons (dpe_var 2) (dpa_cons (dpe_var 3) dpa_nil))) (dpe_var 1)) (dpw_and1 (dpt_cmp dop_gt (dpe_callB dcall_len (by rfl) T.z_len boot_len (dpa_cons (dpe_lc (tg := (.nm 6)) (own := [("one", 6)]) sc_law_ended.nd (dpi_tup (dpe_call (ok_law_leads T) (hr.mono (by decide)) (by rfl) T.m_law_leads T.F_law_leads.kp T.b_law_leads (dpa_cons (dpe_var 5) dpa_nil))) (blkOk_by (own := [("one", 6)]) (N := N_law_ended) (sc := defScope s_law_ended) (by decide +kernel)) (fun _ _ _ _ _ => dpg_name 6 sc_law_ended.nd) (fun _ _ _ _ _ => dpts_one (dpt_din (hu_of hr) (dpe_key (dpa_cons (dpe_var 2) (dpa_cons (dpe_var 6) dpa_nil))) (dpe_var 1))) (fun _ _ _ _ _ => (dpe_var 6))) dpa_nil)) dpe_int)))) (dpss_one (dps_if (DPW.pt (dpw_or (dpt_cmp (dop_ne hr.units) (dpe_ix dix (dpe_var 5) dpe_int) dpe_str) (dpw_or1 (dpt_din (hu_of hr) (dpe_key (dpa_cons (dpe_ix dix (dpe_var 5) dpe_int) (dpa_cons dpe_int dpa_nil))) (dpe_var 1))))) (dpss_one (dps_dput (hu_of hr) (dpe_var 1) (dpe_key (dpa_cons (dpe_var 2) (dpa_cons (dpe_var 3) dpa_nil))) dpe_bl)) dpss_nil)) dpss_nil)))))))))
    (dpss_one (dps_ret (dpe_var 1)))))))
theorem ok_law_ended (T : Txt K mg) : FnD P w K mg base 2 T.f_law_ended T.fd_law_ended ["code"] (a1 sp_law_ended) := FnD.mk T.F_law_ended sc_law_ended a1_len (dv_law_ended T) rd_law_ended_ok
theorem dv_law_met (T : Txt K mg) : ∀ (cdv : Value) (A : Around) (outer : List Env) (s : Shared) (H : Hp) (E : XK), Room 1 (A.deeper (envOfC "_law_met" (defScope s_law_met) s.heap.objs.size T.f_law_met cdv)) → DPSs (cxOf CX0 P w K mg base N_law_met "_law_met" (defScope s_law_met) T.f_law_met cdv A outer s H E).nox (KG.top K) (defBody s_law_met) rd_law_met := by
    intro cdv A outer s H E hr
    unfold rd_law_met
    exact (dpss_cons (dps_set 3 sc_law_met.nd (dpe_lstM (dpa_cons dpe_int dpa_nil)))
    (dpss_cons (dps_set 4 sc_law_met.nd dpe_int)
    (dpss_cons (dps_while (dpt_cmp dop_lt (dpe_var 4) (dpe_callB dcall_len (by rfl) T.z_len boot_len (dpa_cons (dpe_var 3) dpa_nil))) (dpss_cons (dps_set 5 sc_law_met.nd (dpe_ix dix (dpe_ix dix (dpe_var 0) (dpe_var 2)) (dpe_ix dix (dpe_var 3) (dpe_var 4))))
    (dpss_cons (dps_if (DPW.pt (dpw_or (dpt_cmp (dop_ne hr.units) (dpe_ix dix (dpe_var 5) dpe_int) dpe_str) (dpw_or1 (dpt_din (hu_of hr) (dpe_key (dpa_cons (dpe_ix dix (dpe_var 5) dpe_int) (dpa_cons dpe_int dpa_nil))) (dpe_var 1))))) (dpss_one (dps_for (dpi_tup (dpe_call (ok_law_leads T) (hr.mono (by decide)) (by rfl) T.m_law_leads T.F_law_leads.kp T.b_law_leads (dpa_cons (dpe_var 5) dpa_nil))) (dpg_tg (dpg_name 6 sc_law_met.nd)) (dpss_one (dps_if (dpt_cmp dop_notin (dpe_var 6) (dpe_var 3)) (dpss_one (dps_expr (dpe_lm PySem.F.slot_list_append PySem.F.type_list_append mt_append lr_append (dpe_var 3) (dpa_cons (dpe_var 6) dpa_nil)))) dpss_nil)))) dpss_nil)
    (dpss_one (dps_set 4 sc_law_met.nd (dpe_op dop_add (dpe_var 4) dpe_int))))))
    (dpss_one (dps_ret (dpe_callB dcall_sortedI (by rfl) T.z_sorted boot_sorted (dpa_cons (dpe_var 3) dpa_nil)))))))
theorem ok_law_met (T : Txt K mg) : FnD P w K mg base 2 T.f_law_met T.fd_law_met ["code", "ended", "word"] (a3 sp_law_met) := FnD.mk T.F_law_met sc_law_met a3_len (dv_law_met T) rd_law_met_ok
theorem dv_law_needed (T : Txt K mg) : ∀ (cdv : Value) (A : Around) (outer : List Env) (s : Shared) (H : Hp) (E : XK), Room 2 (A.deeper (envOfC "_law_needed" (defScope s_law_needed) s.heap.objs.size T.f_law_needed cdv)) → DPSs (cxOf CX0 P w K mg base N_law_needed "_law_needed" (defScope s_law_needed) T.f_law_needed cdv A outer s H E).nox (KG.top K) (defBody s_law_needed) rd_law_needed := by
    intro cdv A outer s H E hr
    unfold rd_law_needed
    exact (dpss_cons (dps_set 3 sc_law_needed.nd (dpe_lstM (dpa_cons (dpe_var 2) dpa_nil)))
    (dpss_cons (dps_set 4 sc_law_needed.nd dpe_int)
    (dpss_cons (dps_while (dpt_cmp dop_lt (dpe_var 4) (dpe_callB dcall_len (by rfl) T.z_len boot_len (dpa_cons (dpe_var 3) dpa_nil))) (dpss_cons (dps_set 5 sc_law_needed.nd (dpe_ix dix (dpe_var 3) (dpe_var 4)))
    (dpss_cons (dps_for (dpi_seq (dpe_call (ok_law_met T) (hr.mono (by decide)) (by rfl) T.m_law_met T.F_law_met.kp T.b_law_met (dpa_cons (dpe_var 0) (dpa_cons (dpe_var 1) (dpa_cons (dpe_var 5) dpa_nil))))) (dpg_tg (dpg_name 6 sc_law_needed.nd)) (dpss_cons (dps_set 7 sc_law_needed.nd (dpe_ix dix (dpe_ix dix (dpe_var 0) (dpe_var 5)) (dpe_var 6)))
    (dpss_one (dps_if (DPW.pt (dpw_and (dpt_cmp (dop_eq hr.units) (dpe_ix dix (dpe_var 7) dpe_int) dpe_str) (dpw_and (dpt_din (hu_of hr) (dpe_key (dpa_cons (dpe_var 5) (dpa_cons (dpe_var 6) dpa_nil))) (dpe_var 1)) (dpw_and1 (dpt_cmp dop_notin (dpe_ix dix (dpe_var 7) dpe_int) (dpe_var 3)))))) (dpss_one (dps_expr (dpe_lm PySem.F.slot_list_append PySem.F.type_list_append mt_append lr_append (dpe_var 3) (dpa_cons (dpe_ix dix (dpe_var 7) dpe_int) dpa_nil)))) dpss_nil))))
    (dpss_one (dps_set 4 sc_law_needed.nd (dpe_op dop_add (dpe_var 4) dpe_int))))))
    (dpss_one (dps_ret (dpe_callB dcall_sortedI (by rfl) T.z_sorted boot_sorted (dpa_cons (dpe_var 3) dpa_nil)))))))
theorem ok_law_needed (T : Txt K mg) : FnD P w K mg base 3 T.f_law_needed T.fd_law_needed ["code", "ended", "word"] (a3 sp_law_needed) := FnD.mk T.F_law_needed sc_law_needed a3_len (dv_law_needed T) rd_law_needed_ok
theorem dv_law_asked (T : Txt K mg) : ∀ (cdv : Value) (A : Around) (outer : List Env) (s : Shared) (H : Hp) (E : XK), Room 7 (A.deeper (envOfC "_law_asked" (defScope s_law_asked) s.heap.objs.size T.f_law_asked cdv)) → DPSs (cxOf CX0 P w K mg base N_law_asked "_law_asked" (defScope s_law_asked) T.f_law_asked cdv A outer s H E).nox (KG.top K) (defBody s_law_asked) rd_law_asked := by
    intro cdv A outer s H E hr
    unfold rd_law_asked
    exact (dpss_cons (dps_set 1 sc_law_asked.nd (dpe_call (ok_law_ended T) (hr.mono (by decide)) (by rfl) T.m_law_ended T.F_law_ended.kp T.b_law_ended (dpa_cons (dpe_var 0) dpa_nil)))
    (dpss_cons (dps_set 2 sc_law_asked.nd (dpe_lstM dpa_nil))
    (dpss_cons (dps_for (dpi_range1 (by rfl) T.z_range (dpe_callB dcall_len (by rfl) T.z_len boot_len (dpa_cons (dpe_var 0) dpa_nil))) (dpg_tg (dpg_name 3 sc_law_asked.nd)) (dpss_one (dps_expr (dpe_lm PySem.F.slot_list_append PySem.F.type_list_append mt_append lr_append (dpe_var 2) (dpa_cons (dpe_callTy dcall_tuple (by rfl) T.z_tuple boot_tuple (dpa_cons (dpe_lc (tg := (.nm 4)) (own := [("at", 4)]) sc_law_asked.nd (dpi_range1 (by rfl) T.z_range (dpe_callB dcall_len (by rfl) T.z_len boot_len (dpa_cons (dpe_ix dix (dpe_var 0) (dpe_var 3)) dpa_nil))) (blkOk_by (own := [("at", 4)]) (N := N_law_asked) (sc := defScope s_law_asked) (by decide +kernel)) (fun _ _ _ _ _ => dpg_name 4 sc_law_asked.nd) (fun _ _ _ _ _ => dpts_one (dpt_din (hu_of hr) (dpe_key (dpa_cons (dpe_var 3) (dpa_cons (dpe_var 4) dpa_nil))) (dpe_var 1))) (fun _ _ _ _ _ => (dpe_var 4))) dpa_nil)) dpa_nil)))))
    (dpss_cons (dps_set 5 sc_law_asked.nd (dpe_callTy dcall_tuple (by rfl) T.z_tuple boot_tuple (dpa_cons (dpe_lc (tg := (.nm 3)) (own := [("word", 3)]) sc_law_asked.nd (dpi_range1 (by rfl) T.z_range (dpe_callB dcall_len (by rfl) T.z_len boot_len (dpa_cons (dpe_var 0) dpa_nil))) (blkOk_by (own := [("word", 3)]) (N := N_law_asked) (sc := defScope s_law_asked) (by decide +kernel)) (fun _ _ _ _ _ => dpg_name 3 sc_law_asked.nd) (fun _ _ _ _ _ => dpts_one (dpt_dnotin (hu_of hr) (dpe_key (dpa_cons (dpe_var 3) (dpa_cons dpe_int dpa_nil))) (dpe_var 1))) (fun _ _ _ _ _ => (dpe_var 3))) dpa_nil)))
    (dpss_cons (dps_if (dpt_not (dpt_val (dpe_call (ok_law_agree T) (hr.mono (by decide)) (by rfl) T.m_law_agree T.F_law_agree.kp T.b_law_agree (dpa_cons (dpe_tup (dpa_cons (dpe_call (ok_ended_rows T) (hr.mono (by decide)) (by rfl) T.m_ended_rows T.F_ended_rows.kp T.b_ended_rows (dpa_cons (dpe_var 0) dpa_nil)) (dpa_cons (dpe_call (ok_lost_words T) (hr.mono (by decide)) (by rfl) T.m_lost_words T.F_lost_words.kp T.b_lost_words (dpa_cons (dpe_var 0) dpa_nil)) dpa_nil))) (dpa_cons (dpe_tup (dpa_cons (dpe_callTy dcall_tuple (by rfl) T.z_tuple boot_tuple (dpa_cons (dpe_var 2) dpa_nil)) (dpa_cons (dpe_var 5) dpa_nil))) dpa_nil))))) (dpss_one (dps_ret dpe_bl)) dpss_nil)
    (dpss_cons (dps_for (dpi_range1 (by rfl) T.z_range (dpe_callB dcall_len (by rfl) T.z_len boot_len (dpa_cons (dpe_var 0) dpa_nil))) (dpg_tg (dpg_name 3 sc_law_asked.nd)) (dpss_cons (dps_set 6 sc_law_asked.nd (dpe_tup (dpa_cons (dpe_callTy dcall_tuple (by rfl) T.z_tuple boot_tuple (dpa_cons (dpe_call (ok_law_met T) (hr.mono (by decide)) (by rfl) T.m_law_met T.F_law_met.kp T.b_law_met (dpa_cons (dpe_var 0) (dpa_cons (dpe_var 1) (dpa_cons (dpe_var 3) dpa_nil)))) dpa_nil)) (dpa_cons (dpe_callTy dcall_tuple (by rfl) T.z_tuple boot_tuple (dpa_cons (dpe_call (ok_law_needed T) (hr.mono (by decide)) (by rfl) T.m_law_needed T.F_law_needed.kp T.b_law_needed (dpa_cons (dpe_var 0) (dpa_cons (dpe_var 1) (dpa_cons (dpe_var 3) dpa_nil)))) dpa_nil)) dpa_nil))))
    (dpss_one (dps_if (dpt_not (dpt_val (dpe_call (ok_law_agree T) (hr.mono (by decide)) (by rfl) T.m_law_agree T.F_law_agree.kp T.b_law_agree (dpa_cons (dpe_tup (dpa_cons (dpe_call (ok_met_rows T) (hr.mono (by decide)) (by rfl) T.m_met_rows T.F_met_rows.kp T.b_met_rows (dpa_cons (dpe_var 0) (dpa_cons (dpe_var 3) dpa_nil))) (dpa_cons (dpe_call (ok_needed_words T) (hr.mono (by decide)) (by rfl) T.m_needed_words T.F_needed_words.kp T.b_needed_words (dpa_cons (dpe_var 0) (dpa_cons (dpe_var 3) dpa_nil))) dpa_nil))) (dpa_cons (dpe_var 6) dpa_nil))))) (dpss_one (dps_ret dpe_bl)) dpss_nil))))
    (dpss_one (dps_ret dpe_bl))))))))
theorem ok_law_asked (T : Txt K mg) : FnD P w K mg base 8 T.f_law_asked T.fd_law_asked ["code"] (a1 sp_law_asked) := FnD.mk T.F_law_asked sc_law_asked a1_len (dv_law_asked T) rd_law_asked_ok
theorem dv_law_bent (T : Txt K mg) : ∀ (cdv : Value) (A : Around) (outer : List Env) (s : Shared) (H : Hp) (E : XK), Room 1 (A.deeper (envOfC "_law_bent" (defScope s_law_bent) s.heap.objs.size T.f_law_bent cdv)) → DPSs (cxOf CX0 P w K mg base N_law_bent "_law_bent" (defScope s_law_bent) T.f_law_bent cdv A outer s H E).nox (KG.top K) (defBody s_law_bent) rd_law_bent := by
    intro cdv A outer s H E hr
    unfold rd_law_bent
    exact (dpss_cons (dps_set 2 sc_law_bent.nd (dpe_call (ok_law_fetch T) (hr.mono (by decide)) (by rfl) T.m_law_fetch T.F_law_fetch.kp T.b_law_fetch (dpa_cons (dpe_var 0) (dpa_cons (dpe_callB dcall_len (by rfl) T.z_len boot_len (dpa_cons (dpe_var 1) dpa_nil)) dpa_nil))))
    (dpss_cons (dps_set 3 sc_law_bent.nd (dpe_ix dix (dpe_var 1) (dpe_var 2)))
    (dpss_cons (dps_set 4 sc_law_bent.nd (dpe_call (ok_law_fetch T) (hr.mono (by decide)) (by rfl) T.m_law_fetch T.F_law_fetch.kp T.b_law_fetch (dpa_cons (dpe_var 0) (dpa_cons (dpe_callB dcall_len (by rfl) T.z_len boot_len (dpa_cons (dpe_var 3) dpa_nil)) dpa_nil))))
    (dpss_cons (dps_set 5 sc_law_bent.nd (dpe_lst (dpa_cons (dpe_tup (dpa_cons dpe_str dpa_nil)) (dpa_cons (dpe_tup (dpa_cons dpe_str (dpa_cons (dpe_tup (dpa_cons (dpe_var 4) (dpa_cons (dpe_var 4) dpa_nil))) dpa_nil))) (dpa_cons (dpe_tup (dpa_cons dpe_str (dpa_cons (dpe_var 2) (dpa_cons (dpe_var 4) dpa_nil)))) (dpa_cons (dpe_tup (dpa_cons dpe_str (dpa_cons (dpe_call (ok_law_fetch T) (hr.mono (by decide)) (by rfl) T.m_law_fetch T.F_law_fetch.kp T.b_law_fetch (dpa_cons (dpe_var 0) (dpa_cons (dpe_callB dcall_len (by rfl) T.z_len boot_len (dpa_cons (dpe_var 1) dpa_nil)) dpa_nil))) (dpa_cons (dpe_op dop_sub (dpe_callB dcall_len (by rfl) T.z_len boot_len (dpa_cons (dpe_var 3) dpa_nil)) dpe_int) dpa_nil)))) (dpa_cons (dpe_tup (dpa_cons dpe_str (dpa_cons (dpe_tup (dpa_cons dpe_int (dpa_cons (dpe_op dop_sub (dpe_callB dcall_len (by rfl) T.z_len boot_len (dpa_cons (dpe_var 3) dpa_nil)) dpe_int) dpa_nil))) dpa_nil))) (dpa_cons (dpe_tup (dpa_cons dpe_str (dpa_cons (dpe_tup dpa_nil) (dpa_cons (dpe_tup dpa_nil) (dpa_cons (dpe_call (ok_law_fetch T) (hr.mono (by decide)) (by rfl) T.m_law_fetch T.F_law_fetch.kp T.b_law_fetch (dpa_cons (dpe_var 0) (dpa_cons (dpe_callB dcall_len (by rfl) T.z_len boot_len (dpa_cons (dpe_var 3) dpa_nil)) dpa_nil))) dpa_nil))))) dpa_nil))))))))
    (dpss_one (dps_ret (dpe_op dop_add (dpe_op dop_add (dpe_slice dsl (dpe_var 1) dpo_none (dpo_some (dpe_var 2))) (dpe_tup (dpa_cons (dpe_op dop_add (dpe_op dop_add (dpe_slice dsl (dpe_var 3) dpo_none (dpo_some (dpe_var 4))) (dpe_tup (dpa_cons (dpe_ix dix (dpe_var 5) (dpe_call (ok_law_fetch T) (hr.mono (by decide)) (by rfl) T.m_law_fetch T.F_law_fetch.kp T.b_law_fetch (dpa_cons (dpe_var 0) (dpa_cons dpe_int dpa_nil)))) dpa_nil))) (dpe_slice dsl (dpe_var 3) (dpo_some (dpe_op dop_add (dpe_var 4) dpe_int)) dpo_none)) dpa_nil))) (dpe_slice dsl (dpe_var 1) (dpo_some (dpe_op dop_add (dpe_var 2) dpe_int)) dpo_none))))))))
theorem ok_law_bent (T : Txt K mg) : FnD P w K mg base 2 T.f_law_bent T.fd_law_bent ["basket", "code"] (a2 sp_law_bent) := FnD.mk T.F_law_bent sc_law_bent a2_len (dv_law_bent T) rd_law_bent_ok
theorem dv_law_chain (T : Txt K mg) : ∀ (cdv : Value) (A : Around) (outer : List Env) (s : Shared) (H : Hp) (E : XK), Room 1 (A.deeper (envOfC "_law_chain" (defScope s_law_chain) s.heap.objs.size T.f_law_chain cdv)) → DPSs (cxOf CX0 P w K mg base N_law_chain "_law_chain" (defScope s_law_chain) T.f_law_chain cdv A outer s H E).nox (KG.top K) (defBody s_law_chain) rd_law_chain := by
    intro cdv A outer s H E hr
    unfold rd_law_chain
    exact (dpss_cons (dps_set 2 sc_law_chain.nd (dpe_call (ok_law_fetch T) (hr.mono (by decide)) (by rfl) T.m_law_fetch T.F_law_fetch.kp T.b_law_fetch (dpa_cons (dpe_var 0) (dpa_cons (dpe_var 1) dpa_nil))))
    (dpss_cons (dps_set 3 sc_law_chain.nd (dpe_cmp (dop_eq hr.units) (dpe_call (ok_law_fetch T) (hr.mono (by decide)) (by rfl) T.m_law_fetch T.F_law_fetch.kp T.b_law_fetch (dpa_cons (dpe_var 0) (dpa_cons dpe_int dpa_nil))) dpe_int))
    (dpss_cons (dps_set 4 sc_law_chain.nd (dpe_lstM dpa_nil))
    (dpss_cons (dps_for (dpi_range1 (by rfl) T.z_range (dpe_op dop_sub (dpe_var 1) dpe_int)) (dpg_tg (dpg_name 5 sc_law_chain.nd)) (dpss_cons (dps_set 6 sc_law_chain.nd (dpe_ifExp (dpt_cmp (dop_eq hr.units) (dpe_var 5) (dpe_var 2)) (dpe_tup (dpa_cons dpe_str (dpa_cons (dpe_tup (dpa_cons dpe_int (dpa_cons dpe_int dpa_nil))) dpa_nil))) (dpe_tup (dpa_cons dpe_str (dpa_cons (dpe_tup (dpa_cons dpe_int (dpa_cons dpe_int dpa_nil))) dpa_nil)))))
    (dpss_one (dps_expr (dpe_lm PySem.F.slot_list_append PySem.F.type_list_append mt_append lr_append (dpe_var 4) (dpa_cons (dpe_tup (dpa_cons (dpe_var 6) (dpa_cons (dpe_tup (dpa_cons dpe_str (dpa_cons (dpe_op dop_add (dpe_var 5) dpe_int) (dpa_cons dpe_int dpa_nil)))) (dpa_cons (dpe_tup (dpa_cons dpe_str dpa_nil)) dpa_nil)))) dpa_nil))))))
    (dpss_one (dps_ret (dpe_op dop_add (dpe_callTy dcall_tuple (by rfl) T.z_tuple boot_tuple (dpa_cons (dpe_var 4) dpa_nil)) (dpe_tup (dpa_cons (dpe_tup (dpa_cons (dpe_tup (dpa_cons dpe_str (dpa_cons (dpe_tup dpa_nil) (dpa_cons (dpe_tup dpa_nil) (dpa_cons (dpe_ifExp (dpt_truth (dpe_var 3)) dpe_int dpe_int) dpa_nil))))) (dpa_cons (dpe_tup (dpa_cons dpe_str dpa_nil)) dpa_nil))) dpa_nil)))))))))
theorem ok_law_chain (T : Txt K mg) : FnD P w K mg base 2 T.f_law_chain T.fd_law_chain ["basket", "many"] (a2 sp_law_chain) := FnD.mk T.F_law_chain sc_law_chain a2_len (dv_law_chain T) rd_law_chain_ok
theorem dv_law_hand (T : Txt K mg) : ∀ (cdv : Value) (A : Around) (outer : List Env) (s : Shared) (H : Hp) (E : XK), Room 7 (A.deeper (envOfC "_law_hand" (defScope s_law_hand) s.heap.objs.size T.f_law_hand cdv)) → DPSs (cxOf CX0 P w K mg base N_law_hand "_law_hand" (defScope s_law_hand) T.f_law_hand cdv A outer s H E).nox (KG.top K) (defBody s_law_hand) rd_law_hand := by
    intro cdv A outer s H E hr
    unfold rd_law_hand
    exact (dpss_cons (dps_set 1 sc_law_hand.nd (dpe_tup (dpa_cons dpe_str dpa_nil)))
    (dpss_cons (dps_set 2 sc_law_hand.nd (dpe_tup (dpa_cons (dpe_tup (dpa_cons (dpe_tup (dpa_cons dpe_str (dpa_cons (dpe_tup (dpa_cons dpe_int (dpa_cons dpe_int dpa_nil))) dpa_nil))) (dpa_cons (dpe_tup (dpa_cons dpe_str (dpa_cons dpe_int (dpa_cons dpe_int dpa_nil)))) (dpa_cons (dpe_tup (dpa_cons dpe_str (dpa_cons dpe_int (dpa_cons dpe_int dpa_nil)))) (dpa_cons (dpe_tup (dpa_cons dpe_str (dpa_cons dpe_int (dpa_cons dpe_int dpa_nil)))) (dpa_cons (dpe_var 1) (dpa_cons (dpe_tup (dpa_cons dpe_str (dpa_cons dpe_int (dpa_cons dpe_int dpa_nil)))) dpa_nil))))))) (dpa_cons (dpe_tup (dpa_cons (dpe_tup (dpa_cons dpe_str (dpa_cons dpe_int (dpa_cons dpe_int dpa_nil)))) (dpa_cons (dpe_var 1) dpa_nil))) (dpa_cons (dpe_tup (dpa_cons (dpe_tup (dpa_cons dpe_str (dpa_cons (dpe_tup (dpa_cons dpe_int (dpa_cons dpe_int dpa_nil))) dpa_nil))) (dpa_cons (dpe_tup (dpa_cons dpe_str (dpa_cons (dpe_tup dpa_nil) (dpa_cons (dpe_tup (dpa_cons dpe_int dpa_nil)) (dpa_cons dpe_int dpa_nil))))) (dpa_cons (dpe_var 1) dpa_nil)))) (dpa_cons (dpe_tup (dpa_cons (dpe_var 1) dpa_nil)) dpa_nil))))))
    (dpss_cons (dps_set 3 sc_law_hand.nd (dpe_tup (dpa_cons (dpe_kw0 (tk := [(dVar 2)]) (sp' := (kw1 (fun x0 => [x0]) (a1 sp_ended_rows))) (ok_ended_rows T) (hr.mono (by decide)) (by rfl) T.m_ended_rows T.F_ended_rows.kp T.kw_3 kw1_ok rfl (dpk_cons (dpe_var 2) dpk_nil)) (dpa_cons (dpe_kw0 (tk := [(dVar 2)]) (sp' := (kw1 (fun x0 => [x0]) (a1 sp_lost_words))) (ok_lost_words T) (hr.mono (by decide)) (by rfl) T.m_lost_words T.F_lost_words.kp T.kw_2 kw1_ok rfl (dpk_cons (dpe_var 2) dpk_nil)) (dpa_cons (dpe_kw0 (tk := [(dVar 2), (dC (.int 0))]) (sp' := (kw2 (fun x0 x1 => [x0, x1]) (a2 sp_met_rows))) (ok_met_rows T) (hr.mono (by decide)) (by rfl) T.m_met_rows T.F_met_rows.kp T.kw_1 kw2_ok rfl (dpk_cons (dpe_var 2) (dpk_cons dpe_int dpk_nil))) (dpa_cons (dpe_call (ok_met_rows T) (hr.mono (by decide)) (by rfl) T.m_met_rows T.F_met_rows.kp T.b_met_rows (dpa_cons (dpe_var 2) (dpa_cons dpe_int dpa_nil))) (dpa_cons (dpe_kw0 (tk := [(dVar 2), (dC (.int 0))]) (sp' := (kw2 (fun x0 x1 => [x0, x1]) (a2 sp_needed_words))) (ok_needed_words T) (hr.mono (by decide)) (by rfl) T.m_needed_words T.F_needed_words.kp T.kw_0 kw2_ok rfl (dpk_cons (dpe_var 2) (dpk_cons dpe_int dpk_nil))) (dpa_cons (dpe_call (ok_needed_words T) (hr.mono (by decide)) (by rfl) T.m_needed_words T.F_needed_words.kp T.b_needed_words (dpa_cons (dpe_var 2) (dpa_cons dpe_int dpa_nil))) (dpa_cons (dpe_call (ok_needed_words T) (hr.mono (by decide)) (by rfl) T.m_needed_words T.F_needed_words.kp T.b_needed_words (dpa_cons (dpe_var 2) (dpa_cons dpe_int dpa_nil))) dpa_nil)))))))))
    (dpss_cons (dps_set 4 sc_law_hand.nd (dpe_tup (dpa_cons (dpe_tup (dpa_cons (dpe_tup (dpa_cons dpe_int (dpa_cons dpe_int (dpa_cons dpe_int (dpa_cons dpe_int (dpa_cons dpe_int dpa_nil)))))) (dpa_cons (dpe_tup (dpa_cons dpe_int dpa_nil)) (dpa_cons (dpe_tup (dpa_cons dpe_int (dpa_cons dpe_int (dpa_cons dpe_int dpa_nil)))) (dpa_cons (dpe_tup (dpa_cons dpe_int dpa_nil)) dpa_nil))))) (dpa_cons (dpe_tup (dpa_cons dpe_int dpa_nil)) (dpa_cons (dpe_tup (dpa_cons dpe_int (dpa_cons dpe_int (dpa_cons dpe_int (dpa_cons dpe_int dpa_nil))))) (dpa_cons (dpe_tup (dpa_cons dpe_int dpa_nil)) (dpa_cons (dpe_tup (dpa_cons dpe_int (dpa_cons dpe_int dpa_nil))) (dpa_cons (dpe_tup (dpa_cons dpe_int dpa_nil)) (dpa_cons (dpe_tup (dpa_cons dpe_int dpa_nil)) dpa_nil)))))))))
    (dpss_cons (dps_if (dpt_not (dpt_val (dpe_call (ok_law_agree T) (hr.mono (by decide)) (by rfl) T.m_law_agree T.F_law_agree.kp T.b_law_agree (dpa_cons (dpe_var 3) (dpa_cons (dpe_var 4) dpa_nil))))) (dpss_one (dps_ret dpe_bl)) dpss_nil)
    (dpss_cons (dps_set 2 sc_law_hand.nd (dpe_tup (dpa_cons (dpe_tup (dpa_cons (dpe_tup (dpa_cons dpe_str (dpa_cons (dpe_tup (dpa_cons dpe_int (dpa_cons dpe_int dpa_nil))) dpa_nil))) (dpa_cons (dpe_tup (dpa_cons dpe_str (dpa_cons dpe_int (dpa_cons dpe_int dpa_nil)))) (dpa_cons (dpe_tup (dpa_cons dpe_str (dpa_cons dpe_int (dpa_cons dpe_int dpa_nil)))) (dpa_cons (dpe_tup (dpa_cons dpe_str (dpa_cons (dpe_tup (dpa_cons dpe_int (dpa_cons dpe_int dpa_nil))) dpa_nil))) (dpa_cons (dpe_var 1) dpa_nil)))))) (dpa_cons (dpe_tup (dpa_cons (dpe_tup (dpa_cons dpe_str (dpa_cons dpe_int (dpa_cons dpe_int dpa_nil)))) (dpa_cons (dpe_var 1) dpa_nil))) (dpa_cons (dpe_tup (dpa_cons (dpe_tup (dpa_cons dpe_str (dpa_cons dpe_int (dpa_cons dpe_int dpa_nil)))) (dpa_cons (dpe_var 1) dpa_nil))) (dpa_cons (dpe_tup (dpa_cons (dpe_var 1) dpa_nil)) dpa_nil))))))
    (dpss_cons (dps_set 3 sc_law_hand.nd (dpe_tup (dpa_cons (dpe_call (ok_ended_rows T) (hr.mono (by decide)) (by rfl) T.m_ended_rows T.F_ended_rows.kp T.b_ended_rows (dpa_cons (dpe_var 2) dpa_nil)) (dpa_cons (dpe_call (ok_lost_words T) (hr.mono (by decide)) (by rfl) T.m_lost_words T.F_lost_words.kp T.b_lost_words (dpa_cons (dpe_var 2) dpa_nil)) (dpa_cons (dpe_call (ok_met_rows T) (hr.mono (by decide)) (by rfl) T.m_met_rows T.F_met_rows.kp T.b_met_rows (dpa_cons (dpe_var 2) (dpa_cons dpe_int dpa_nil))) (dpa_cons (dpe_call (ok_needed_words T) (hr.mono (by decide)) (by rfl) T.m_needed_words T.F_needed_words.kp T.b_needed_words (dpa_cons (dpe_var 2) (dpa_cons dpe_int dpa_nil))) (dpa_cons (dpe_call (ok_met_rows T) (hr.mono (by decide)) (by rfl) T.m_met_rows T.F_met_rows.kp T.b_met_rows (dpa_cons (dpe_var 2) (dpa_cons dpe_int dpa_nil))) (dpa_cons (dpe_call (ok_needed_words T) (hr.mono (by decide)) (by rfl) T.m_needed_words T.F_needed_words.kp T.b_needed_words (dpa_cons (dpe_var 2) (dpa_cons dpe_int dpa_nil))) dpa_nil))))))))
    (dpss_cons (dps_if (dpt_not (dpt_val (dpe_call (ok_law_agree T) (hr.mono (by decide)) (by rfl) T.m_law_agree T.F_law_agree.kp T.b_law_agree (dpa_cons (dpe_var 3) (dpa_cons (dpe_tup (dpa_cons (dpe_tup (dpa_cons (dpe_tup (dpa_cons dpe_int (dpa_cons dpe_int dpa_nil))) (dpa_cons (dpe_tup (dpa_cons dpe_int dpa_nil)) (dpa_cons (dpe_tup (dpa_cons dpe_int dpa_nil)) (dpa_cons (dpe_tup (dpa_cons dpe_int dpa_nil)) dpa_nil))))) (dpa_cons (dpe_tup (dpa_cons dpe_int (dpa_cons dpe_int dpa_nil))) (dpa_cons (dpe_tup (dpa_cons dpe_int (dpa_cons dpe_int (dpa_cons dpe_int (dpa_cons dpe_int dpa_nil))))) (dpa_cons (dpe_tup (dpa_cons dpe_int dpa_nil)) (dpa_cons (dpe_tup (dpa_cons dpe_int dpa_nil)) (dpa_cons (dpe_tup (dpa_cons dpe_int dpa_nil)) dpa_nil))))))) dpa_nil))))) (dpss_one (dps_ret dpe_bl)) dpss_nil)
    (dpss_cons (dps_set 5 sc_law_hand.nd (dpe_tup (dpa_cons (dpe_tup (dpa_cons (dpe_tup (dpa_cons dpe_str (dpa_cons (dpe_tup (dpa_cons dpe_int (dpa_cons dpe_int dpa_nil))) dpa_nil))) (dpa_cons (dpe_tup (dpa_cons dpe_str (dpa_cons dpe_int (dpa_cons dpe_int dpa_nil)))) (dpa_cons (dpe_tup (dpa_cons dpe_str (dpa_cons (dpe_tup (dpa_cons dpe_int dpa_nil)) (dpa_cons (dpe_tup dpa_nil) (dpa_cons dpe_int dpa_nil))))) (dpa_cons (dpe_var 1) dpa_nil))))) (dpa_cons (dpe_tup (dpa_cons (dpe_tup (dpa_cons dpe_str (dpa_cons (dpe_tup (dpa_cons dpe_int (dpa_cons dpe_int dpa_nil))) dpa_nil))) (dpa_cons (dpe_tup (dpa_cons dpe_str (dpa_cons dpe_int (dpa_cons dpe_int dpa_nil)))) (dpa_cons (dpe_var 1) dpa_nil)))) dpa_nil))))
    (dpss_cons (dps_set 3 sc_law_hand.nd (dpe_tup (dpa_cons (dpe_call (ok_ended_rows T) (hr.mono (by decide)) (by rfl) T.m_ended_rows T.F_ended_rows.kp T.b_ended_rows (dpa_cons (dpe_var 5) dpa_nil)) (dpa_cons (dpe_call (ok_lost_words T) (hr.mono (by decide)) (by rfl) T.m_lost_words T.F_lost_words.kp T.b_lost_words (dpa_cons (dpe_var 5) dpa_nil)) (dpa_cons (dpe_call (ok_needed_words T) (hr.mono (by decide)) (by rfl) T.m_needed_words T.F_needed_words.kp T.b_needed_words (dpa_cons (dpe_var 5) (dpa_cons dpe_int dpa_nil))) (dpa_cons (dpe_call (ok_met_rows T) (hr.mono (by decide)) (by rfl) T.m_met_rows T.F_met_rows.kp T.b_met_rows (dpa_cons (dpe_var 5) (dpa_cons dpe_int dpa_nil))) dpa_nil))))))
    (dpss_one (dps_ret (dpe_and (dpe_call (ok_law_agree T) (hr.mono (by decide)) (by rfl) T.m_law_agree T.F_law_agree.kp T.b_law_agree (dpa_cons (dpe_var 3) (dpa_cons (dpe_tup (dpa_cons (dpe_tup (dpa_cons (dpe_tup (dpa_cons dpe_int (dpa_cons dpe_int (dpa_cons dpe_int (dpa_cons dpe_int dpa_nil))))) (dpa_cons (dpe_tup (dpa_cons dpe_int (dpa_cons dpe_int (dpa_cons dpe_int dpa_nil)))) dpa_nil))) (dpa_cons (dpe_tup dpa_nil) (dpa_cons (dpe_tup (dpa_cons dpe_int (dpa_cons dpe_int dpa_nil))) (dpa_cons (dpe_tup (dpa_cons dpe_int (dpa_cons dpe_int (dpa_cons dpe_int dpa_nil)))) dpa_nil))))) dpa_nil))) (dpe_one (dpe_call (ok_law_agree T) (hr.mono (by decide)) (by rfl) T.m_law_agree T.F_law_agree.kp T.b_law_agree (dpa_cons (dpe_tup (dpa_cons (dpe_call (ok_lost_words T) (hr.mono (by decide)) (by rfl) T.m_lost_words T.F_lost_words.kp T.b_lost_words (dpa_cons (dpe_tup (dpa_cons (dpe_tup (dpa_cons (dpe_tup (dpa_cons dpe_str (dpa_cons (dpe_tup dpa_nil) (dpa_cons (dpe_tup dpa_nil) (dpa_cons dpe_int dpa_nil))))) dpa_nil)) dpa_nil)) dpa_nil)) (dpa_cons (dpe_call (ok_met_rows T) (hr.mono (by decide)) (by rfl) T.m_met_rows T.F_met_rows.kp T.b_met_rows (dpa_cons (dpe_tup (dpa_cons (dpe_tup (dpa_cons (dpe_tup (dpa_cons dpe_str (dpa_cons (dpe_tup dpa_nil) (dpa_cons (dpe_tup dpa_nil) (dpa_cons dpe_int dpa_nil))))) (dpa_cons (dpe_var 1) dpa_nil))) dpa_nil)) (dpa_cons dpe_int dpa_nil))) dpa_nil))) (dpa_cons (dpe_tup (dpa_cons (dpe_tup (dpa_cons dpe_int dpa_nil)) (dpa_cons (dpe_tup (dpa_cons dpe_int dpa_nil)) dpa_nil))) dpa_nil)))))))))))))))))
theorem ok_law_hand (T : Txt K mg) : FnD P w K mg base 8 T.f_law_hand T.fd_law_hand ["basket"] (a1 sp_law_hand) := FnD.mk T.F_law_hand sc_law_hand a1_len (dv_law_hand T) rd_law_hand_ok
theorem dv_law (T : Txt K mg) : ∀ (cdv : Value) (A : Around) (outer : List Env) (s : Shared) (H : Hp) (E : XK), Room 8 (A.deeper (envOfC "law" (defScope s_law) s.heap.objs.size T.f_law cdv)) → DPSs (cxOf CX0 P w K mg base N_law "law" (defScope s_law) T.f_law cdv A outer s H E).nox (KG.top K) (defBody s_law) rd_law := by
    intro cdv A outer s H E hr
    unfold rd_law
    exact (dpss_cons (dps_set 1 sc_law.nd (dpe_call (ok_law_basket T) (hr.mono (by decide)) (by rfl) T.m_law_basket T.F_law_basket.kp T.b_law_basket (dpa_cons (dpe_var 0) dpa_nil)))
    (dpss_cons (dps_if (dpt_not (dpt_val (dpe_call (ok_law_hand T) (hr.mono (by decide)) (by rfl) T.m_law_hand T.F_law_hand.kp T.b_law_hand (dpa_cons (dpe_var 1) dpa_nil)))) (dpss_one (dps_ret dpe_bl)) dpss_nil)
    (dpss_cons (dps_for (dpi_range1 (by rfl) T.z_range dpe_int) (dpg_tg (dpg_name 2 sc_law.nd)) (dpss_cons (dps_set 3 sc_law.nd (dpe_and (dpe_cmp (dop_eq hr.units) (dpe_var 2) dpe_int) (dpe_one (dpe_cmp (dop_eq hr.units) (dpe_call (ok_law_fetch T) (hr.mono (by decide)) (by rfl) T.m_law_fetch T.F_law_fetch.kp T.b_law_fetch (dpa_cons (dpe_var 1) (dpa_cons dpe_int dpa_nil))) dpe_int))))
    (dpss_cons (dps_set 4 sc_law.nd (dpe_call (ok_law_code T) (hr.mono (by decide)) (by rfl) T.m_law_code T.F_law_code.kp T.b_law_code (dpa_cons (dpe_var 1) (dpa_cons (dpe_ifExp (dpt_truth (dpe_var 3)) dpe_int (dpe_op dop_add dpe_int (dpe_call (ok_law_fetch T) (hr.mono (by decide)) (by rfl) T.m_law_fetch T.F_law_fetch.kp T.b_law_fetch (dpa_cons (dpe_var 1) (dpa_cons dpe_int dpa_nil))))) (dpa_cons (dpe_ifExp (dpt_truth (dpe_var 3)) dpe_int dpe_int) (dpa_cons (dpe_call (ok_law_fetch T) (hr.mono (by decide)) (by rfl) T.m_law_fetch T.F_law_fetch.kp T.b_law_fetch (dpa_cons (dpe_var 1) (dpa_cons dpe_int dpa_nil))) dpa_nil))))))
    (dpss_cons (dps_if (dpt_not (dpt_val (dpe_call (ok_law_asked T) (hr.mono (by decide)) (by rfl) T.m_law_asked T.F_law_asked.kp T.b_law_asked (dpa_cons (dpe_var 4) dpa_nil)))) (dpss_one (dps_ret dpe_bl)) dpss_nil)
    (dpss_one (dps_for (dpi_range1 (by rfl) T.z_range (dpe_ifExp (dpt_truth (dpe_var 3)) dpe_int dpe_int)) (dpg_tg (dpg_name 5 sc_law.nd)) (dpss_cons (dps_set 6 sc_law.nd (dpe_call (ok_law_bent T) (hr.mono (by decide)) (by rfl) T.m_law_bent T.F_law_bent.kp T.b_law_bent (dpa_cons (dpe_var 1) (dpa_cons (dpe_var 4) dpa_nil))))
    (dpss_one (dps_if (DPW.pt (dpw_or (dpt_not (dpt_val (dpe_call (ok_law_asked T) (hr.mono (by decide)) (by rfl) T.m_law_asked T.F_law_asked.kp T.b_law_asked (dpa_cons (dpe_var 6) dpa_nil)))) (dpw_or1 (DPW.pt (dpw_and (dpt_cmp (dop_eq hr.units) (dpe_var 5) dpe_int) (dpw_and1 (dpt_not (dpt_val (dpe_call (ok_law_asked T) (hr.mono (by decide)) (by rfl) T.m_law_asked T.F_law_asked.kp T.b_law_asked (dpa_cons (dpe_call (ok_law_bent T) (hr.mono (by decide)) (by rfl) T.m_law_bent T.F_law_bent.kp T.b_law_bent (dpa_cons (dpe_var 1) (dpa_cons (dpe_var 6) dpa_nil))) dpa_nil)))))))))) (dpss_one (dps_ret dpe_bl)) dpss_nil)))))))))
    (dpss_one (dps_ret (dpe_call (ok_law_asked T) (hr.mono (by decide)) (by rfl) T.m_law_asked T.F_law_asked.kp T.b_law_asked (dpa_cons (dpe_call (ok_law_chain T) (hr.mono (by decide)) (by rfl) T.m_law_chain T.F_law_chain.kp T.b_law_chain (dpa_cons (dpe_var 1) (dpa_cons (dpe_op dop_add dpe_int (dpe_call (ok_law_fetch T) (hr.mono (by decide)) (by rfl) T.m_law_fetch T.F_law_fetch.kp T.b_law_fetch (dpa_cons (dpe_var 1) (dpa_cons dpe_int dpa_nil)))) dpa_nil))) dpa_nil)))))))
theorem ok_law (T : Txt K mg) : FnD P w K mg base 9 T.f_law T.fd_law ["script"] spTrue := FnD.mk T.F_law sc_law (fun ds S P h => by obtain ⟨ns, rfl, _⟩ := h; rfl) (dv_law T) rd_law_ok
end
theorem all_mk {l : PySem.W.OpenLaw} {w : World} {K : PySem.W.Frag} {h : Heap} {mg : Str → Option Value} {fa : Addr} (X : K.In h) (G : h.Ns mainGlobals mg) (hfa : mg "law" = some (.ref fa))
    {f0 : Addr} {od0 an0 : Option Addr} {sl0 : Array (Option Value)} {oc0 kV0 dc0 pm0 cd0 ct0 : Value}
    (a0 : PySem.W.nsIn K mainGlobals "nexts_of" = some (some (.ref f0))) (l0 : K.lookup f0 = some ⟨oc0, od0, .func (PySem.W.fnOf "nexts_of" "nexts_of" (defArgs s_nexts_of) (defBody s_nexts_of) (defScope s_nexts_of) .none kV0 dc0 pm0 an0 cd0 ct0), sl0⟩) (c0 : PySem.W.codeIn K cd0 "nexts_of" = true) (k0 : PySem.W.keepIn K (.ref f0) = true)
    {f1 : Addr} {od1 an1 : Option Addr} {sl1 : Array (Option Value)} {oc1 kV1 dc1 pm1 cd1 ct1 : Value}
    (a1 : PySem.W.nsIn K mainGlobals "goes_on" = some (some (.ref f1))) (l1 : K.lookup f1 = some ⟨oc1, od1, .func (PySem.W.fnOf "goes_on" "goes_on" (defArgs s_goes_on) (defBody s_goes_on) (defScope s_goes_on) .none kV1 dc1 pm1 an1 cd1 ct1), sl1⟩) (c1 : PySem.W.codeIn K cd1 "goes_on" = true) (k1 : PySem.W.keepIn K (.ref f1) = true)
    {f2 : Addr} {od2 an2 : Option Addr} {sl2 : Array (Option Value)} {oc2 kV2 dc2 pm2 cd2 ct2 : Value}
    (a2 : PySem.W.nsIn K mainGlobals "ended_marks" = some (some (.ref f2))) (l2 : K.lookup f2 = some ⟨oc2, od2, .func (PySem.W.fnOf "ended_marks" "ended_marks" (defArgs s_ended_marks) (defBody s_ended_marks) (defScope s_ended_marks) .none kV2 dc2 pm2 an2 cd2 ct2), sl2⟩) (c2 : PySem.W.codeIn K cd2 "ended_marks" = true) (k2 : PySem.W.keepIn K (.ref f2) = true)
    {f3 : Addr} {od3 an3 : Option Addr} {sl3 : Array (Option Value)} {oc3 kV3 dc3 pm3 cd3 ct3 : Value}
    (a3 : PySem.W.nsIn K mainGlobals "ended_rows" = some (some (.ref f3))) (l3 : K.lookup f3 = some ⟨oc3, od3, .func (PySem.W.fnOf "ended_rows" "ended_rows" (defArgs s_ended_rows) (defBody s_ended_rows) (defScope s_ended_rows) .none kV3 dc3 pm3 an3 cd3 ct3), sl3⟩) (c3 : PySem.W.codeIn K cd3 "ended_rows" = true) (k3 : PySem.W.keepIn K (.ref f3) = true)
    {f4 : Addr} {od4 an4 : Option Addr} {sl4 : Array (Option Value)} {oc4 kV4 dc4 pm4 cd4 ct4 : Value}
    (a4 : PySem.W.nsIn K mainGlobals "lost_words" = some (some (.ref f4))) (l4 : K.lookup f4 = some ⟨oc4, od4, .func (PySem.W.fnOf "lost_words" "lost_words" (defArgs s_lost_words) (defBody s_lost_words) (defScope s_lost_words) .none kV4 dc4 pm4 an4 cd4 ct4), sl4⟩) (c4 : PySem.W.codeIn K cd4 "lost_words" = true) (k4 : PySem.W.keepIn K (.ref f4) = true)
    {f5 : Addr} {od5 an5 : Option Addr} {sl5 : Array (Option Value)} {oc5 kV5 dc5 pm5 cd5 ct5 : Value}
    (a5 : PySem.W.nsIn K mainGlobals "ways_on" = some (some (.ref f5))) (l5 : K.lookup f5 = some ⟨oc5, od5, .func (PySem.W.fnOf "ways_on" "ways_on" (defArgs s_ways_on) (defBody s_ways_on) (defScope s_ways_on) .none kV5 dc5 pm5 an5 cd5 ct5), sl5⟩) (c5 : PySem.W.codeIn K cd5 "ways_on" = true) (k5 : PySem.W.keepIn K (.ref f5) = true)
    {f6 : Addr} {od6 an6 : Option Addr} {sl6 : Array (Option Value)} {oc6 kV6 dc6 pm6 cd6 ct6 : Value}
    (a6 : PySem.W.nsIn K mainGlobals "met_by" = some (some (.ref f6))) (l6 : K.lookup f6 = some ⟨oc6, od6, .func (PySem.W.fnOf "met_by" "met_by" (defArgs s_met_by) (defBody s_met_by) (defScope s_met_by) .none kV6 dc6 pm6 an6 cd6 ct6), sl6⟩) (c6 : PySem.W.codeIn K cd6 "met_by" = true) (k6 : PySem.W.keepIn K (.ref f6) = true)
    {f7 : Addr} {od7 an7 : Option Addr} {sl7 : Array (Option Value)} {oc7 kV7 dc7 pm7 cd7 ct7 : Value}
    (a7 : PySem.W.nsIn K mainGlobals "met_rows" = some (some (.ref f7))) (l7 : K.lookup f7 = some ⟨oc7, od7, .func (PySem.W.fnOf "met_rows" "met_rows" (defArgs s_met_rows) (defBody s_met_rows) (defScope s_met_rows) .none kV7 dc7 pm7 an7 cd7 ct7), sl7⟩) (c7 : PySem.W.codeIn K cd7 "met_rows" = true) (k7 : PySem.W.keepIn K (.ref f7) = true)
    {f8 : Addr} {od8 an8 : Option Addr} {sl8 : Array (Option Value)} {oc8 kV8 dc8 pm8 cd8 ct8 : Value}
    (a8 : PySem.W.nsIn K mainGlobals "needed_by" = some (some (.ref f8))) (l8 : K.lookup f8 = some ⟨oc8, od8, .func (PySem.W.fnOf "needed_by" "needed_by" (defArgs s_needed_by) (defBody s_needed_by) (defScope s_needed_by) .none kV8 dc8 pm8 an8 cd8 ct8), sl8⟩) (c8 : PySem.W.codeIn K cd8 "needed_by" = true) (k8 : PySem.W.keepIn K (.ref f8) = true)
    {f9 : Addr} {od9 an9 : Option Addr} {sl9 : Array (Option Value)} {oc9 kV9 dc9 pm9 cd9 ct9 : Value}
    (a9 : PySem.W.nsIn K mainGlobals "needed_words" = some (some (.ref f9))) (l9 : K.lookup f9 = some ⟨oc9, od9, .func (PySem.W.fnOf "needed_words" "needed_words" (defArgs s_needed_words) (defBody s_needed_words) (defScope s_needed_words) .none kV9 dc9 pm9 an9 cd9 ct9), sl9⟩) (c9 : PySem.W.codeIn K cd9 "needed_words" = true) (k9 : PySem.W.keepIn K (.ref f9) = true)
    {f10 : Addr} {od10 an10 : Option Addr} {sl10 : Array (Option Value)} {oc10 kV10 dc10 pm10 cd10 ct10 : Value}
    (a10 : PySem.W.nsIn K mainGlobals "_law_basket" = some (some (.ref f10))) (l10 : K.lookup f10 = some ⟨oc10, od10, .func (PySem.W.fnOf "_law_basket" "_law_basket" (defArgs s_law_basket) (defBody s_law_basket) (defScope s_law_basket) .none kV10 dc10 pm10 an10 cd10 ct10), sl10⟩) (c10 : PySem.W.codeIn K cd10 "_law_basket" = true) (k10 : PySem.W.keepIn K (.ref f10) = true)
    {f11 : Addr} {od11 an11 : Option Addr} {sl11 : Array (Option Value)} {oc11 kV11 dc11 pm11 cd11 ct11 : Value}
    (a11 : PySem.W.nsIn K mainGlobals "_law_fetch" = some (some (.ref f11))) (l11 : K.lookup f11 = some ⟨oc11, od11, .func (PySem.W.fnOf "_law_fetch" "_law_fetch" (defArgs s_law_fetch) (defBody s_law_fetch) (defScope s_law_fetch) .none kV11 dc11 pm11 an11 cd11 ct11), sl11⟩) (c11 : PySem.W.codeIn K cd11 "_law_fetch" = true) (k11 : PySem.W.keepIn K (.ref f11) = true)
    {f12 : Addr} {od12 an12 : Option Addr} {sl12 : Array (Option Value)} {oc12 kV12 dc12 pm12 cd12 ct12 : Value}
    (a12 : PySem.W.nsIn K mainGlobals "_law_agree" = some (some (.ref f12))) (l12 : K.lookup f12 = some ⟨oc12, od12, .func (PySem.W.fnOf "_law_agree" "_law_agree" (defArgs s_law_agree) (defBody s_law_agree) (defScope s_law_agree) .none kV12 dc12 pm12 an12 cd12 ct12), sl12⟩) (c12 : PySem.W.codeIn K cd12 "_law_agree" = true) (k12 : PySem.W.keepIn K (.ref f12) = true)
    {f13 : Addr} {od13 an13 : Option Addr} {sl13 : Array (Option Value)} {oc13 kV13 dc13 pm13 cd13 ct13 : Value}
    (a13 : PySem.W.nsIn K mainGlobals "_law_leads" = some (some (.ref f13))) (l13 : K.lookup f13 = some ⟨oc13, od13, .func (PySem.W.fnOf "_law_leads" "_law_leads" (defArgs s_law_leads) (defBody s_law_leads) (defScope s_law_leads) .none kV13 dc13 pm13 an13 cd13 ct13), sl13⟩) (c13 : PySem.W.codeIn K cd13 "_law_leads" = true) (k13 : PySem.W.keepIn K (.ref f13) = true)
    {f14 : Addr} {od14 an14 : Option Addr} {sl14 : Array (Option Value)} {oc14 kV14 dc14 pm14 cd14 ct14 : Value}
    (a14 : PySem.W.nsIn K mainGlobals "_law_code" = some (some (.ref f14))) (l14 : K.lookup f14 = some ⟨oc14, od14, .func (PySem.W.fnOf "_law_code" "_law_code" (defArgs s_law_code) (defBody s_law_code) (defScope s_law_code) .none kV14 dc14 pm14 an14 cd14 ct14), sl14⟩) (c14 : PySem.W.codeIn K cd14 "_law_code" = true) (k14 : PySem.W.keepIn K (.ref f14) = true)
    {f15 : Addr} {od15 an15 : Option Addr} {sl15 : Array (Option Value)} {oc15 kV15 dc15 pm15 cd15 ct15 : Value}
    (a15 : PySem.W.nsIn K mainGlobals "_law_ended" = some (some (.ref f15))) (l15 : K.lookup f15 = some ⟨oc15, od15, .func (PySem.W.fnOf "_law_ended" "_law_ended" (defArgs s_law_ended) (defBody s_law_ended) (defScope s_law_ended) .none kV15 dc15 pm15 an15 cd15 ct15), sl15⟩) (c15 : PySem.W.codeIn K cd15 "_law_ended" = true) (k15 : PySem.W.keepIn K (.ref f15) = true)
    {f16 : Addr} {od16 an16 : Option Addr} {sl16 : Array (Option Value)} {oc16 kV16 dc16 pm16 cd16 ct16 : Value}
    (a16 : PySem.W.nsIn K mainGlobals "_law_met" = some (some (.ref f16))) (l16 : K.lookup f16 = some ⟨oc16, od16, .func (PySem.W.fnOf "_law_met" "_law_met" (defArgs s_law_met) (defBody s_law_met) (defScope s_law_met) .none kV16 dc16 pm16 an16 cd16 ct16), sl16⟩) (c16 : PySem.W.codeIn K cd16 "_law_met" = true) (k16 : PySem.W.keepIn K (.ref f16) = true)
    {f17 : Addr} {od17 an17 : Option Addr} {sl17 : Array (Option Value)} {oc17 kV17 dc17 pm17 cd17 ct17 : Value}
    (a17 : PySem.W.nsIn K mainGlobals "_law_needed" = some (some (.ref f17))) (l17 : K.lookup f17 = some ⟨oc17, od17, .func (PySem.W.fnOf "_law_needed" "_law_needed" (defArgs s_law_needed) (defBody s_law_needed) (defScope s_law_needed) .none kV17 dc17 pm17 an17 cd17 ct17), sl17⟩) (c17 : PySem.W.codeIn K cd17 "_law_needed" = true) (k17 : PySem.W.keepIn K (.ref f17) = true)
    {f18 : Addr} {od18 an18 : Option Addr} {sl18 : Array (Option Value)} {oc18 kV18 dc18 pm18 cd18 ct18 : Value}
    (a18 : PySem.W.nsIn K mainGlobals "_law_asked" = some (some (.ref f18))) (l18 : K.lookup f18 = some ⟨oc18, od18, .func (PySem.W.fnOf "_law_asked" "_law_asked" (defArgs s_law_asked) (defBody s_law_asked) (defScope s_law_asked) .none kV18 dc18 pm18 an18 cd18 ct18), sl18⟩) (c18 : PySem.W.codeIn K cd18 "_law_asked" = true) (k18 : PySem.W.keepIn K (.ref f18) = true)
    {f19 : Addr} {od19 an19 : Option Addr} {sl19 : Array (Option Value)} {oc19 kV19 dc19 pm19 cd19 ct19 : Value}
    (a19 : PySem.W.nsIn K mainGlobals "_law_bent" = some (some (.ref f19))) (l19 : K.lookup f19 = some ⟨oc19, od19, .func (PySem.W.fnOf "_law_bent" "_law_bent" (defArgs s_law_bent) (defBody s_law_bent) (defScope s_law_bent) .none kV19 dc19 pm19 an19 cd19 ct19), sl19⟩) (c19 : PySem.W.codeIn K cd19 "_law_bent" = true) (k19 : PySem.W.keepIn K (.ref f19) = true)
    {f20 : Addr} {od20 an20 : Option Addr} {sl20 : Array (Option Value)} {oc20 kV20 dc20 pm20 cd20 ct20 : Value}
    (a20 : PySem.W.nsIn K mainGlobals "_law_chain" = some (some (.ref f20))) (l20 : K.lookup f20 = some ⟨oc20, od20, .func (PySem.W.fnOf "_law_chain" "_law_chain" (defArgs s_law_chain) (defBody s_law_chain) (defScope s_law_chain) .none kV20 dc20 pm20 an20 cd20 ct20), sl20⟩) (c20 : PySem.W.codeIn K cd20 "_law_chain" = true) (k20 : PySem.W.keepIn K (.ref f20) = true)
    {f21 : Addr} {od21 an21 : Option Addr} {sl21 : Array (Option Value)} {oc21 kV21 dc21 pm21 cd21 ct21 : Value}
    (a21 : PySem.W.nsIn K mainGlobals "_law_hand" = some (some (.ref f21))) (l21 : K.lookup f21 = some ⟨oc21, od21, .func (PySem.W.fnOf "_law_hand" "_law_hand" (defArgs s_law_hand) (defBody s_law_hand) (defScope s_law_hand) .none kV21 dc21 pm21 an21 cd21 ct21), sl21⟩) (c21 : PySem.W.codeIn K cd21 "_law_hand" = true) (k21 : PySem.W.keepIn K (.ref f21) = true)
    {f22 : Addr} {od22 an22 : Option Addr} {sl22 : Array (Option Value)} {oc22 kV22 dc22 pm22 cd22 ct22 : Value}
    (a22 : PySem.W.nsIn K mainGlobals "law" = some (some (.ref f22))) (l22 : K.lookup f22 = some ⟨oc22, od22, .func (PySem.W.fnOf "law" "law" (defArgs s_law) (defBody s_law) (defScope s_law) .none kV22 dc22 pm22 an22 cd22 ct22), sl22⟩) (c22 : PySem.W.codeIn K cd22 "law" = true) (k22 : PySem.W.keepIn K (.ref f22) = true)
    (z_abs : PySem.W.nsIn K mainGlobals "abs" = some none)    (z_any : PySem.W.nsIn K mainGlobals "any" = some none)    (z_bool : PySem.W.nsIn K mainGlobals "bool" = some none)    (z_enumerate : PySem.W.nsIn K mainGlobals "enumerate" = some none)    (z_int : PySem.W.nsIn K mainGlobals "int" = some none)    (z_isinstance : PySem.W.nsIn K mainGlobals "isinstance" = some none)    (z_len : PySem.W.nsIn K mainGlobals "len" = some none)    (z_min : PySem.W.nsIn K mainGlobals "min" = some none)    (z_range : PySem.W.nsIn K mainGlobals "range" = some none)    (z_sorted : PySem.W.nsIn K mainGlobals "sorted" = some none)    (z_tuple : PySem.W.nsIn K mainGlobals "tuple" = some none)    (z_zip : PySem.W.nsIn K mainGlobals "zip" = some none) :
    ∃ fd : FuncData, (∀ (s : Shared) (v : Value), BindsTo s fd ⟨[v], []⟩ [("script", v)]) ∧ ∀ base : Heap, K.In base → base.Ns mainGlobals mg → FnOk l.prog w K mg base CX0 9 fa fd ["script"] (spLaw K) := by
  have e := hfa.symm.trans (PySem.W.mg_of X G a22)
  cases e
  have F0 := fun_mk (st := s_nexts_of) l0 c0 k0
  have b0 := F0.binds (ps := ["row"]) fun _ _ _ _ _ _  us hl => match us, hl with | [_], _ => rfl
  have F1 := fun_mk (st := s_goes_on) l1 c1 k1
  have b1 := F1.binds (ps := ["code", "row", "ended", "kept"]) fun _ _ _ _ _ _  us hl => match us, hl with | [_, _, _, _], _ => rfl
  have F2 := fun_mk (st := s_ended_marks) l2 c2 k2
  have b2 := F2.binds (ps := ["code"]) fun _ _ _ _ _ _  us hl => match us, hl with | [_], _ => rfl
  have F3 := fun_mk (st := s_ended_rows) l3 c3 k3
  have b3 := F3.binds (ps := ["code"]) fun _ _ _ _ _ _  us hl => match us, hl with | [_], _ => rfl
  have F4 := fun_mk (st := s_lost_words) l4 c4 k4
  have b4 := F4.binds (ps := ["code"]) fun _ _ _ _ _ _  us hl => match us, hl with | [_], _ => rfl
  have F5 := fun_mk (st := s_ways_on) l5 c5 k5
  have b5 := F5.binds (ps := ["code", "marks", "word", "row"]) fun _ _ _ _ _ _  us hl => match us, hl with | [_, _, _, _], _ => rfl
  have F6 := fun_mk (st := s_met_by) l6 c6 k6
  have b6 := F6.binds (ps := ["code", "marks", "word"]) fun _ _ _ _ _ _  us hl => match us, hl with | [_, _, _], _ => rfl
  have F7 := fun_mk (st := s_met_rows) l7 c7 k7
  have b7 := F7.binds (ps := ["code", "word"]) fun _ _ _ _ _ _  us hl => match us, hl with | [_, _], _ => rfl
  have F8 := fun_mk (st := s_needed_by) l8 c8 k8
  have b8 := F8.binds (ps := ["code", "marks", "word"]) fun _ _ _ _ _ _  us hl => match us, hl with | [_, _, _], _ => rfl
  have F9 := fun_mk (st := s_needed_words) l9 c9 k9
  have b9 := F9.binds (ps := ["code", "word"]) fun _ _ _ _ _ _  us hl => match us, hl with | [_, _], _ => rfl
  have F10 := fun_mk (st := s_law_basket) l10 c10 k10
  have b10 := F10.binds (ps := ["script"]) fun _ _ _ _ _ _  us hl => match us, hl with | [_], _ => rfl
  have F11 := fun_mk (st := s_law_fetch) l11 c11 k11
  have b11 := F11.binds (ps := ["basket", "many"]) fun _ _ _ _ _ _  us hl => match us, hl with | [_, _], _ => rfl
  have F12 := fun_mk (st := s_law_agree) l12 c12 k12
  have b12 := F12.binds (ps := ["told", "due"]) fun _ _ _ _ _ _  us hl => match us, hl with | [_, _], _ => rfl
  have F13 := fun_mk (st := s_law_leads) l13 c13 k13
  have b13 := F13.binds (ps := ["row"]) fun _ _ _ _ _ _  us hl => match us, hl with | [_], _ => rfl
  have F14 := fun_mk (st := s_law_code) l14 c14 k14
  have b14 := F14.binds (ps := ["basket", "words", "most", "habit"]) fun _ _ _ _ _ _  us hl => match us, hl with | [_, _, _, _], _ => rfl
  have F15 := fun_mk (st := s_law_ended) l15 c15 k15
  have b15 := F15.binds (ps := ["code"]) fun _ _ _ _ _ _  us hl => match us, hl with | [_], _ => rfl
  have F16 := fun_mk (st := s_law_met) l16 c16 k16
  have b16 := F16.binds (ps := ["code", "ended", "word"]) fun _ _ _ _ _ _  us hl => match us, hl with | [_, _, _], _ => rfl
  have F17 := fun_mk (st := s_law_needed) l17 c17 k17
  have b17 := F17.binds (ps := ["code", "ended", "word"]) fun _ _ _ _ _ _  us hl => match us, hl with | [_, _, _], _ => rfl
  have F18 := fun_mk (st := s_law_asked) l18 c18 k18
  have b18 := F18.binds (ps := ["code"]) fun _ _ _ _ _ _  us hl => match us, hl with | [_], _ => rfl
  have F19 := fun_mk (st := s_law_bent) l19 c19 k19
  have b19 := F19.binds (ps := ["basket", "code"]) fun _ _ _ _ _ _  us hl => match us, hl with | [_, _], _ => rfl
  have F20 := fun_mk (st := s_law_chain) l20 c20 k20
  have b20 := F20.binds (ps := ["basket", "many"]) fun _ _ _ _ _ _  us hl => match us, hl with | [_, _], _ => rfl
  have F21 := fun_mk (st := s_law_hand) l21 c21 k21
  have b21 := F21.binds (ps := ["basket"]) fun _ _ _ _ _ _  us hl => match us, hl with | [_], _ => rfl
  have F22 := fun_mk (st := s_law) l22 c22 k22
  have b22 := F22.binds (ps := ["script"]) fun _ _ _ _ _ _  us hl => match us, hl with | [_], _ => rfl
  have kwb0 := kwB_of (ps := ["code", "word"]) (ks := ["code", "word"]) (nu := 0) (p := [0, 1]) F9 fun _ _ _ _ _ _  us ws hu hw => match us, ws, hu, hw with | [], [_, _], _, _ => rfl
  have kwb1 := kwB_of (ps := ["code", "word"]) (ks := ["code", "word"]) (nu := 0) (p := [0, 1]) F7 fun _ _ _ _ _ _  us ws hu hw => match us, ws, hu, hw with | [], [_, _], _, _ => rfl
  have kwb2 := kwB_of (ps := ["code"]) (ks := ["code"]) (nu := 0) (p := [0]) F4 fun _ _ _ _ _ _  us ws hu hw => match us, ws, hu, hw with | [], [_], _, _ => rfl
  have kwb3 := kwB_of (ps := ["code"]) (ks := ["code"]) (nu := 0) (p := [0]) F3 fun _ _ _ _ _ _  us ws hu hw => match us, ws, hu, hw with | [], [_], _, _ => rfl
  have T : Txt K mg := ⟨f0, _, F0, PySem.W.mg_of X G a0, b0, f1, _, F1, PySem.W.mg_of X G a1, b1, f2, _, F2, PySem.W.mg_of X G a2, b2, f3, _, F3, PySem.W.mg_of X G a3, b3, f4, _, F4, PySem.W.mg_of X G a4, b4, f5, _, F5, PySem.W.mg_of X G a5, b5, f6, _, F6, PySem.W.mg_of X G a6, b6, f7, _, F7, PySem.W.mg_of X G a7, b7, f8, _, F8, PySem.W.mg_of X G a8, b8, f9, _, F9, PySem.W.mg_of X G a9, b9, f10, _, F10, PySem.W.mg_of X G a10, b10, f11, _, F11, PySem.W.mg_of X G a11, b11, f12, _, F12, PySem.W.mg_of X G a12, b12, f13, _, F13, PySem.W.mg_of X G a13, b13, f14, _, F14, PySem.W.mg_of X G a14, b14, f15, _, F15, PySem.W.mg_of X G a15, b15, f16, _, F16, PySem.W.mg_of X G a16, b16, f17, _, F17, PySem.W.mg_of X G a17, b17, f18, _, F18, PySem.W.mg_of X G a18, b18, f19, _, F19, PySem.W.mg_of X G a19, b19, f20, _, F20, PySem.W.mg_of X G a20, b20, f21, _, F21, PySem.W.mg_of X G a21, b21, fa, _, F22, PySem.W.mg_of X G a22, b22, PySem.W.mg_none_of X G z_abs, PySem.W.mg_none_of X G z_any, PySem.W.mg_none_of X G z_bool, PySem.W.mg_none_of X G z_enumerate, PySem.W.mg_none_of X G z_int, PySem.W.mg_none_of X G z_isinstance, PySem.W.mg_none_of X G z_len, PySem.W.mg_none_of X G z_min, PySem.W.mg_none_of X G z_range, PySem.W.mg_none_of X G z_sorted, PySem.W.mg_none_of X G z_tuple, PySem.W.mg_none_of X G z_zip, kwb0, kwb1, kwb2, kwb3⟩
  exact ⟨_, fun s v => .of_eq rfl, fun base _ _ => (ok_law (base := base) (P := l.prog) (w := w) ⟨f0, _, F0, PySem.W.mg_of X G a0, b0, f1, _, F1, PySem.W.mg_of X G a1, b1, f2, _, F2, PySem.W.mg_of X G a2, b2, f3, _, F3, PySem.W.mg_of X G a3, b3, f4, _, F4, PySem.W.mg_of X G a4, b4, f5, _, F5, PySem.W.mg_of X G a5, b5, f6, _, F6, PySem.W.mg_of X G a6, b6, f7, _, F7, PySem.W.mg_of X G a7, b7, f8, _, F8, PySem.W.mg_of X G a8, b8, f9, _, F9, PySem.W.mg_of X G a9, b9, f10, _, F10, PySem.W.mg_of X G a10, b10, f11, _, F11, PySem.W.mg_of X G a11, b11, f12, _, F12, PySem.W.mg_of X G a12, b12, f13, _, F13, PySem.W.mg_of X G a13, b13, f14, _, F14, PySem.W.mg_of X G a14, b14, f15, _, F15, PySem.W.mg_of X G a15, b15, f16, _, F16, PySem.W.mg_of X G a16, b16, f17, _, F17, PySem.W.mg_of X G a17, b17, f18, _, F18, PySem.W.mg_of X G a18, b18, f19, _, F19, PySem.W.mg_of X G a19, b19, f20, _, F20, PySem.W.mg_of X G a20, b20, f21, _, F21, PySem.W.mg_of X G a21, b21, fa, _, F22, PySem.W.mg_of X G a22, b22, PySem.W.mg_none_of X G z_abs, PySem.W.mg_none_of X G z_any, PySem.W.mg_none_of X G z_bool, PySem.W.mg_none_of X G z_enumerate, PySem.W.mg_none_of X G z_int, PySem.W.mg_none_of X G z_isinstance, PySem.W.mg_none_of X G z_len, PySem.W.mg_none_of X G z_min, PySem.W.mg_none_of X G z_range, PySem.W.mg_none_of X G z_sorted, PySem.W.mg_none_of X G z_tuple, PySem.W.mg_none_of X G z_zip, kwb0, kwb1, kwb2, kwb3⟩).law⟩
theorem walk {l : PySem.W.OpenLaw} {q : Program} {loose : List Str} {XP : (Str → Option Value) → Heap → Prop} {YP : World → Heap → Prop} {d : DefRec} {K : Params → PySem.W.Frag} (hn : l.most = some 63) (hdf : d.params.defaults = [])
    (hY : ∀ (w : World) (h : Heap), YP w h → (K w.params).In h)
    (F : ∀ (w : World) (mg : Str → Option Value) (fa : Addr) (h : Heap), (K w.params).In h → h.Ns mainGlobals mg → mg d.name = some (.ref fa) →
      ∃ fd : FuncData, (∀ (s : Shared) (u : Value), BindsTo s fd ⟨[u], []⟩ [("script", u)]) ∧ ∀ base : Heap, (K w.params).In base → base.Ns mainGlobals mg → FnOk l.prog w (K w.params) mg base CX0 9 fa fd ["script"] (spLaw (K w.params))) :
    PySem.W.WalkO q loose XP YP l.row.toRowW d [] (fun f vs => PySem.call f vs) :=
  L2.walk_of (n := 63) (k := 9) (x := "script") (CX := fun _ => CX0) (sp := fun w => spLaw (K w.params)) hn (by decide) hdf ⟨rfl, by decide, by decide⟩ hY F (fun _ _ a ns hl _ hS => ⟨a, ns, rfl, hS, hl, fun _ => rfl⟩) fun _ _ _ _ _ z => z
end L3

open PySem PySem.W PyProof.Rows in
set_option maxRecDepth 100000 in
set_option maxHeartbeats 0 in
theorem PySem.Challenge.cw_pilesfit_k09_ends_holds : PySem.Challenge.rw_pilesfit_k09_ends.Holds := by
  w_on; o_law; k_head; (case hw => w_witness2)
  k_fill
  refine L3.walk (l := PySem.Challenge.rw_pilesfit_k09_ends) rfl rfl (fun w h Y => PySem.W.kIn_of Y) ?F
  case F =>
    intro w mg fa h KX G hmg
    refine' L3.all_mk KX G hmg ?a0 ?l0 ?c0 ?k0 ?a1 ?l1 ?c1 ?k1 ?a2 ?l2 ?c2 ?k2 ?a3 ?l3 ?c3 ?k3 ?a4 ?l4 ?c4 ?k4 ?a5 ?l5 ?c5 ?k5 ?a6 ?l6 ?c6 ?k6 ?a7 ?l7 ?c7 ?k7 ?a8 ?l8 ?c8 ?k8 ?a9 ?l9 ?c9 ?k9 ?a10 ?l10 ?c10 ?k10 ?a11 ?l11 ?c11 ?k11 ?a12 ?l12 ?c12 ?k12 ?a13 ?l13 ?c13 ?k13 ?a14 ?l14 ?c14 ?k14 ?a15 ?l15 ?c15 ?k15 ?a16 ?l16 ?c16 ?k16 ?a17 ?l17 ?c17 ?k17 ?a18 ?l18 ?c18 ?k18 ?a19 ?l19 ?c19 ?k19 ?a20 ?l20 ?c20 ?k20 ?a21 ?l21 ?c21 ?k21 ?a22 ?l22 ?c22 ?k22 ?z_abs ?z_any ?z_bool ?z_enumerate ?z_int ?z_isinstance ?z_len ?z_min ?z_range ?z_sorted ?z_tuple ?z_zip
    (case a0 => k_is)
    (case l0 => k_is)
    (case c0 => k_is)
    (case k0 => k_is)
    (case a1 => k_is)
    (case l1 => k_is)
    (case c1 => k_is)
    (case k1 => k_is)
    (case a2 => k_is)
    (case l2 => k_is)
    (case c2 => k_is)
    (case k2 => k_is)
    (case a3 => k_is)
    (case l3 => k_is)
    (case c3 => k_is)
    (case k3 => k_is)
    (case a4 => k_is)
    (case l4 => k_is)
    (case c4 => k_is)
    (case k4 => k_is)
    (case a5 => k_is)
    (case l5 => k_is)
    (case c5 => k_is)
    (case k5 => k_is)
    (case a6 => k_is)
    (case l6 => k_is)
    (case c6 => k_is)
    (case k6 => k_is)
    (case a7 => k_is)
    (case l7 => k_is)
    (case c7 => k_is)
    (case k7 => k_is)
    (case a8 => k_is)
    (case l8 => k_is)
    (case c8 => k_is)
    (case k8 => k_is)
    (case a9 => k_is)
    (case l9 => k_is)
    (case c9 => k_is)
    (case k9 => k_is)
    (case a10 => k_is)
    (case l10 => k_is)
    (case c10 => k_is)
    (case k10 => k_is)
    (case a11 => k_is)
    (case l11 => k_is)
    (case c11 => k_is)
    (case k11 => k_is)
    (case a12 => k_is)
    (case l12 => k_is)
    (case c12 => k_is)
    (case k12 => k_is)
    (case a13 => k_is)
    (case l13 => k_is)
    (case c13 => k_is)
    (case k13 => k_is)
    (case a14 => k_is)
    (case l14 => k_is)
    (case c14 => k_is)
    (case k14 => k_is)
    (case a15 => k_is)
    (case l15 => k_is)
    (case c15 => k_is)
    (case k15 => k_is)
    (case a16 => k_is)
    (case l16 => k_is)
    (case c16 => k_is)
    (case k16 => k_is)
    (case a17 => k_is)
    (case l17 => k_is)
    (case c17 => k_is)
    (case k17 => k_is)
    (case a18 => k_is)
    (case l18 => k_is)
    (case c18 => k_is)
    (case k18 => k_is)
    (case a19 => k_is)
    (case l19 => k_is)
    (case c19 => k_is)
    (case k19 => k_is)
    (case a20 => k_is)
    (case l20 => k_is)
    (case c20 => k_is)
    (case k20 => k_is)
    (case a21 => k_is)
    (case l21 => k_is)
    (case c21 => k_is)
    (case k21 => k_is)
    (case a22 => k_is)
    (case l22 => k_is)
    (case c22 => k_is)
    (case k22 => k_is)
    (case z_abs => k_is)
    (case z_any => k_is)
    (case z_bool => k_is)
    (case z_enumerate => k_is)
    (case z_int => k_is)
    (case z_isinstance => k_is)
    (case z_len => k_is)
    (case z_min => k_is)
    (case z_range => k_is)
    (case z_sorted => k_is)
    (case z_tuple => k_is)
    (case z_zip => k_is)
