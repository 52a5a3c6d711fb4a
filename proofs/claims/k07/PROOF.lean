import PyProof.Rows.All
import Wide.All
import OpenK.AllK
import Wide.FinOn
import HandS.ForMost
import HandS.TupAny
import HandS.IsInst
import HandS.Conv
import HandS.Wide
import HandS.TupMul
import HandS.WordsDict
import HandS.Walk
import HandS.Flow
import HandS.Iter
import HandS.Zip
import HandS.Strs
import KE.GoesMore
import HandS.Exc
import HandS.ExcInit
import HandS.ExcField
import HandS.ExcOwn
import HandS.WordsExc
import HandS.Style
import HandS.Dict
import HandS.Text
import HandS.StrMore
import HandS.More
import HandS.SortInts
import HandS.RaiseMore
import HandS.TupLen
import HandS.CallSlots
import HandS.Rev
import HandS.SetFor
import HandS.Call
import HandS.Deep
import HandS.Small
import PySem.Challenge.RW_pilesfit_k07_code_of
set_option Elab.async false
set_option maxRecDepth 100000
set_option linter.all false
set_option maxHeartbeats 2000000
/-! New tuples whose object is known whole: it has no dict of its own, so their methods can be called. -/
namespace L3
open PySem PySem.Spec PyProof.Rows L2
open AutoSeq1 (wpAny_loadPart')
/-- a tuple without a dict stands at a -/
def SqX (K : PySem.W.Frag) (H : Hp) (a : Addr) (xs : List V) : Prop :=
  (∃ o : Obj, H a = some (.frz o (.tup xs)) ∧ o.dict = none) ∨ ∃ (o : Obj) (its : Array Value) (n : Nat), K.lookup a = some o ∧ o.cls = .type "tuple" ∧ o.dict = none ∧ o.data = .seq its n ∧ its.size ≤ sizeLine ∧ Vals xs its.toList
theorem SqX.t {K : PySem.W.Frag} {H : Hp} {a : Addr} {xs : List V} (h : SqX K H a xs) : SqT K H a xs := by
  rcases h with ⟨o, h, _⟩ | ⟨o, its, n, h1, h2, _, h3⟩
  · exact .inl (.inr ⟨o, h⟩)
  · exact .inr ⟨o, its, n, h1, h2, h3⟩
theorem SqX.mono {K : PySem.W.Frag} {H H' : Hp} {a : Addr} {xs : List V} (e : Same H H') (h : SqX K H a xs) : SqX K H' a xs := h.imp (fun ⟨o, h, d⟩ => ⟨o, e _ _ h, d⟩) id
/-- what stands at a new place -/
abbrev NewT (Q : VK) (H : Hp) (xs : List V) : Prop := ∀ (p : Addr) (o : Obj), H p = none → o.dict = none → Q (.ref p) (upd H p (.frz o (.tup xs)))
section
variable {X : Cx} {pins : List (Addr × Obj)} {σ : L2.St} {H : Hp} {s : Shared} {xs : List V} {its : List Value} {Q : VK}
theorem pushT (I : Inv X pins σ H s) (t' : Nat) (r : Vals xs its) (z : xs.length ≤ sizeLine) (q : NewT Q H xs) :
    EP X pins σ Q (.ref s.heap.objs.size) { s with heap := s.heap.push { cls := .type "tuple", data := .seq its.toArray }, toks := t' } := by
  have hf : H s.heap.objs.size = none := I.hok.fresh (Nat.le_refl _)
  have h : (s.heap.push { cls := .type "tuple", data := .seq its.toArray }).get? s.heap.objs.size = some { cls := .type "tuple", data := .seq its.toArray } := Heap.get?_push_size _ rfl
  exact ⟨.ref s.heap.objs.size, _, I.laid (t' := t') (o := .frz { cls := .type "tuple", data := .seq its.toArray } (.tup xs)) (fun b u e => Heap.get?_push_of_some _ e) (Nat.le_refl _) ⟨h, z, its, r, ⟨_, h, rfl, _, rfl⟩⟩, rfl, q _ { cls := .type "tuple", data := .seq its.toArray } hf rfl⟩
end
/-! ### displays -/
abbrev tTupX (t : TA) : TE := fun σ H Q => t σ H fun xs H1 => xs.length ≤ sizeLine ∧ NewT Q H1 xs
section
variable {X : Cx} {es : List Expr} {t : TA} {pos : Pos}
theorem pe_tupX {k} (h : PA X es t) : PE X (.Tuple es k pos) (tTupX t) :=
  ⟨fun pins s σ H Q I hq => wpAny_Tuple_spliced (thn (h.run pos pins s σ H _ I hq) fun us s1 ⟨xs, H1, I1, r, z, q⟩ => ⟨by rw [← r.length]; exact z, pushT I1 s1.toks r z q⟩)⟩
/-! ### t + u -/
def rCatX (K : PySem.W.Frag) : R2 := fun x y H Q => ∃ a b xs ys, x = .ref a ∧ y = .ref b ∧ SqT K H a xs ∧ SqT K H b ys ∧ xs.length + ys.length ≤ sizeLine ∧
  (xs = [] → Q (.ref b) H) ∧ (xs ≠ [] → ys = [] → Q (.ref a) H) ∧ (xs ≠ [] → ys ≠ [] → NewT Q H (xs ++ ys))
theorem op_catX : OpR X (binaryOp .Add) (rCatX X.K) := by
  intro pins s σ H x y v u Q I rx ry ⟨a, b, xs, ys, ex, ey, ha, hb, hz, q0, q1, q2⟩
  by_cases hx : xs = []
  · exact op_catA pins s σ H x y v u Q I rx ry ⟨a, b, xs, ys, ex, ey, ha, hb, hz, q0, q1, fun g => absurd hx g⟩
  by_cases hy : ys = []
  · exact op_catA pins s σ H x y v u Q I rx ry ⟨a, b, xs, ys, ex, ey, ha, hb, hz, q0, q1, fun _ g => absurd hy g⟩
  subst ex ey
  cases rx; cases ry
  obtain ⟨l1, r1, p1, _⟩ := I.tuple ha
  obtain ⟨l2, r2, p2, _⟩ := I.tuple hb
  refine HT.cat_tup p1 p2 (fun g => hx (r1.nil_iff.mp g)) (fun g => absurd (r2.nil_iff.mp g) hy) (fun _ => ?_) ?_
  · exact pushT I s.toks (r1.append r2) (by rw [List.length_append]; exact hz) (q2 hx hy)
  · rw [← r1.length, ← r2.length]
    exact hz
/-! ### t[lo:hi] -/
def rSlX (K : PySem.W.Frag) : V → Option Int → Option Int → Hp → VK → Prop := fun x lo hi H Q => ∃ a xs, x = .ref a ∧ SqT K H a xs ∧
  (HT.sIx xs.length 0 lo = 0 ∧ HT.sIx xs.length xs.length hi = xs.length → Q (.ref a) H) ∧ (¬ (HT.sIx xs.length 0 lo = 0 ∧ HT.sIx xs.length xs.length hi = xs.length) → NewT Q H (cutV xs lo hi))
theorem sl_tupX : SlR X (rSlX X.K) := by
  intro pins s σ H x v vl vu lo hi sl Q I rx hs pl pu ⟨a, xs, ex, hx, q1, q2⟩
  by_cases hw : HT.sIx xs.length 0 lo = 0 ∧ HT.sIx xs.length xs.length hi = xs.length
  · exact sl_tupA pins s σ H x v vl vu lo hi sl Q I rx hs pl pu ⟨a, xs, ex, hx, q1, fun g => absurd hw g⟩
  subst ex
  cases rx
  obtain ⟨l, r, ht, hz⟩ := I.tuple hx
  have e : l.toArray.size = xs.length := by rw [List.size_toArray, r.length]
  refine ⟨"tuple", _, PyProof.Rows.slot_tuple_getitem.lookup, ht.typeIs, HT.getItem_tuple_cut ht hs pl pu (by rw [e]; exact hw) ?_ (by rw [e]; exact hz)⟩
  rw [e]
  exact pushT I s.toks ((r.drop _).take _) (Nat.le_trans (cutV_length xs lo hi) hz) (q2 hw)
/-! ### tuple(x) -/
theorem call_tupX : CallR X (.type "tuple") (fun xs H Q => ∃ p ys, xs = [.ref p] ∧ ((SqL X.K H p ys ∧ NewT Q H ys) ∨ (SqT X.K H p ys ∧ Q (.ref p) H))) := by
  intro pins s σ H xs us Q I r ⟨p, ys, ex, h⟩
  rcases h with ⟨hq, q⟩ | ⟨hq, q⟩
  · subst ex
    obtain ⟨u, rfl, ru⟩ := vals1 r
    cases ru
    obtain ⟨l, r', pl, hz⟩ := I.list hq
    exact call_tuple_list pl.isList (fun h' kp => pushT (I.kept (t' := s.toks) kp) s.toks r' hz q) (by rw [List.size_toArray, ← r'.length]; exact hz)
  · exact call_tuple_of pins s σ H xs us Q I r ⟨p, ys, ex, .inr ⟨hq, q⟩⟩
end
/-! ### t * k -/
section
variable (l : Addr) (items : Array Value) (n : Nat) (dd : Option Addr) (sl : Array (Option Value)) (x : Int) (u : Tok)
theorem mulT_none (c0 : (decide (x < -(2 ^ 63)) || decide (x ≥ 2 ^ 63)) = false) (c1 : (items.isEmpty || x == 1) = false) (c2 : x ≤ 0) :
    Meets (Builtin.«tuple.__mul__» ⟨[.ref l, .int x u], []⟩) (fun _ R s => s.heap.get? l = some ⟨.type "tuple", dd, .seq items n, sl⟩ ∧ R (.ok (.ret (Value.ref s.heap.objs.size))) { s with heap := s.heap.push { cls := Value.type "tuple", data := Data.seq #[] } }) :=
  .of_wp fun prog w A R s h => by
    obtain ⟨hp, g, d, tk, os⟩ := s
    obtain ⟨hl, h⟩ := h
    have f1 := AutoSeq1.idx_int
    have c3 : (decide (x ≤ 0) || items.isEmpty) = true := by rw [decide_eq_true c2]; rfl
    wp_walk using wpAny_loadPart' hl
    repeat (first
      | (refine wpAny_ite_false (decide_eq_false (by rw [c0]; exact Bool.false_ne_true)) ?_; wp_walk using wpAny_loadPart' hl)
      | (refine wpAny_ite_false (decide_eq_false (by rw [c1]; exact Bool.false_ne_true)) ?_; wp_walk using wpAny_loadPart' hl)
      | (refine wpAny_ite_true (decide_eq_true c3) ?_; wp_walk using wpAny_loadPart' hl))
    exact ⟨_, rfl, h⟩
theorem mulT_same (c0 : (decide (x < -(2 ^ 63)) || decide (x ≥ 2 ^ 63)) = false) (c1 : (items.isEmpty || x == 1) = true) :
    Meets (Builtin.«tuple.__mul__» ⟨[.ref l, .int x u], []⟩) (fun _ R s => s.heap.get? l = some ⟨.type "tuple", dd, .seq items n, sl⟩ ∧ R (.ok (.ret (Value.ref l))) s) :=
  .of_wp fun prog w A R s h => by
    obtain ⟨hp, g, d, tk, os⟩ := s
    obtain ⟨hl, h⟩ := h
    have f1 := AutoSeq1.idx_int
    wp_walk using wpAny_loadPart' hl
    repeat (first
      | (refine wpAny_ite_false (decide_eq_false (by rw [c0]; exact Bool.false_ne_true)) ?_; wp_walk using wpAny_loadPart' hl)
      | (refine wpAny_ite_true (decide_eq_true c1) ?_; wp_walk using wpAny_loadPart' hl))
    exact ⟨_, rfl, h⟩
end
/-- t * k, of any k -/
def rRepX (K : PySem.W.Frag) : R2 := fun x y H Q => ∃ l k xs, x = .ref l ∧ y = .int k ∧ SqT K H l xs ∧ -1000 ≤ k ∧ k ≤ 1000 ∧ xs.length ≤ 1000 ∧
  ((xs = [] ∨ k = 1) → Q (.ref l) H) ∧ (¬ (xs = [] ∨ k = 1) → NewT Q H (List.replicate k.toNat xs).flatten)
theorem op_repX {X : Cx} : OpR X (binaryOp .Mult) (rRepX X.K) := by
  intro pins s σ H x y v u Q I rx ry ⟨l, k, xs, ex, ey, hT, k0, k1, hz, q1, q2⟩
  subst ex ey
  cases rx
  obtain ⟨t, rfl⟩ := ry
  obtain ⟨its, r, ⟨⟨cls, dd, data, sl⟩, ho, hc, n, hd⟩, hs⟩ := I.tuple hT
  simp only at hc hd
  subst hc hd
  have hle : its.length = xs.length := r.length.symm
  have ie : its.toArray.isEmpty = decide (xs = []) := by
    cases its with
    | nil => cases r; rfl
    | cons a b =>
      cases r with
      | cons _ _ => simp
  have c0 : (decide (k < -(2 ^ 63)) || decide (k ≥ 2 ^ 63)) = false := by
    rw [decide_eq_false (by omega), decide_eq_false (by omega)]
    rfl
  have go : ∀ {R : Value → Shared → Prop}, wpAny (model X.prog X.w) X.A (call (.builtin "tuple.__mul__") [.ref l, .int k t]) R X.xe s → wpAny (model X.prog X.w) X.A (binaryOp .Mult (.ref l) (.int k t)) R X.xe s := fun h =>
    wpAny_binaryOp_repeat_ref (T := "tuple") (U := "int") (by decide) ⟨_, ho, rfl⟩ (fun s' => typeIs_int s' k t) noFill_tuple_mul F.fills_int_mul F.slot_int_rmul repeat_tuple F.slot_int_index.lookup
      (call_meets F.slot_int_rmul (typeIs_int s k t) F.entry_int_rmul (F.args_int_rmul_2 _ _) (int_rmul_tuple k t l its.toArray n dd sl) ⟨ho, rfl, ⟨_, ho, rfl⟩, h⟩)
  by_cases h1 : xs = [] ∨ k = 1
  · have c1 : (its.toArray.isEmpty || k == 1) = true := by
      rw [ie]
      rcases h1 with h1 | h1
      · rw [decide_eq_true h1]; rfl
      · rw [h1]; simp
    exact go (call_meets F.slot_tuple_mul ⟨_, ho, rfl⟩ F.entry_tuple_mul (F.args_tuple_mul_2 _ _) (mulT_same l its.toArray n dd sl k t c0 c1) ⟨ho, .ref l, H, I, rfl, q1 h1⟩)
  have c1 : (its.toArray.isEmpty || k == 1) = false := by
    rw [ie, decide_eq_false fun z => h1 (.inl z), Bool.false_or]
    exact beq_eq_false_iff_ne.mpr fun z => h1 (.inr z)
  by_cases h2 : k ≤ 0
  · refine go (call_meets F.slot_tuple_mul ⟨_, ho, rfl⟩ F.entry_tuple_mul (F.args_tuple_mul_2 _ _) (mulT_none l its.toArray n dd sl k t c0 c1 h2) ⟨ho, ?_⟩)
    have e : k.toNat = 0 := by omega
    have q2 := q2 h1
    rw [e] at q2
    exact pushT (its := []) I s.toks .nil (Nat.zero_le _) q2
  have c2 : (decide (k ≤ 0) || its.toArray.isEmpty) = false := by
    rw [ie, decide_eq_false h2, decide_eq_false fun z => h1 (.inl z)]
    rfl
  have hsz0 : its.toArray.size = xs.length := by rw [List.size_toArray, hle]
  have hm : ((its.toArray.size : Nat) : Int) * k ≤ 1000000 := by
    rw [hsz0]
    have a1 : ((xs.length : Nat) : Int) * k ≤ 1000 * k := Int.mul_le_mul_of_nonneg_right (by omega) (by omega)
    omega
  have mn : k.toNat * xs.length ≤ 1000 * 1000 := Nat.mul_le_mul (by omega) hz
  have flen : (List.replicate k.toNat its).flatten.length ≤ sizeLine := by
    rw [PyProof.Rows.lm_len_rep_flat, hle, sizeLine_eq]
    omega
  have c4 : Builtin.Tuple.tupleTooMany (((its.toArray.size : Nat) : Int) * k) = false := by
    unfold Builtin.Tuple.tupleTooMany
    rw [sizeLine_eq]
    exact decide_eq_false (by omega)
  refine go (call_meets F.slot_tuple_mul ⟨_, ho, rfl⟩ F.entry_tuple_mul (F.args_tuple_mul_2 _ _) (tuple_mulW l its.toArray n dd sl k t c0 c1 c2 (by omega) c4 (by rw [size_rep, List.size_toArray]; exact flen)) ⟨ho, ?_⟩)
  rw [size_rep]
  exact pushT I s.toks (r.rep k.toNat) (by rw [PyProof.Rows.lm_len_rep_flat, sizeLine_eq]; omega) (q2 h1)
/-! ### s * k -/
def repS (x : Str) (k : Int) : Str := ⟨((List.replicate k.toNat x.cps.toList).flatten).toArray⟩
theorem foldS (a : Array Nat) : ∀ (n : Nat) (b : Array Nat), ((List.replicate n a).foldl (· ++ ·) b).toList = b.toList ++ (List.replicate n a.toList).flatten
  | 0, b => by simp
  | n + 1, b => by
    rw [List.replicate_succ, List.foldl_cons, foldS a n, List.replicate_succ, List.flatten_cons, Array.toList_append, List.append_assoc]
theorem repS_eq (z : Str) (k : Int) : (⟨(List.replicate k.toNat z.cps).foldl (· ++ ·) #[]⟩ : Str) = repS z k := by
  unfold repS
  congr 1
  apply Array.ext'
  rw [foldS]
  simp
theorem repS_same {z : Str} {k : Int} (h : (k == 1 || z.length == 0) = true) : repS z k = z := by
  obtain ⟨c⟩ := z
  unfold repS
  congr 1
  apply Array.ext'
  rw [Bool.or_eq_true] at h
  rcases h with h | h
  · rw [show k = 1 from eq_of_beq h]
    simp
  · have h : c.size = 0 := eq_of_beq h
    have e : c = #[] := Array.eq_empty_of_size_eq_zero h
    subst e
    simp
theorem flat_len {α : Type} (l : List α) (n : Nat) : (List.replicate n l).flatten.length = l.length * n := by
  induction n with
  | zero => simp
  | succ n ih => rw [List.replicate_succ, List.flatten_cons, List.length_append, ih, Nat.mul_succ, Nat.add_comm]
theorem repS_length (z : Str) (k : Int) : (repS z k).length = z.length * k.toNat := by
  show (((List.replicate k.toNat z.cps.toList).flatten).toArray).size = _
  rw [List.size_toArray, flat_len]
  rfl
theorem op_mulS {X : Cx} : OpR X (binaryOp .Mult) (fun x y H Q => ∃ z k, x = .str z ∧ y = .int k ∧ -(2 ^ 40) ≤ k ∧ k ≤ 2 ^ 20 ∧ z.length ≤ 2 ^ 20 ∧ z.length * k.toNat ≤ 1000000 ∧ Q (.str (repS z k)) H) := by
  intro pins s σ H x y v u Q I rx ry ⟨z, k, ex, ey, k0, k1, hz, hl, q⟩
  subst ex ey
  obtain ⟨t, rfl⟩ := rx
  obtain ⟨t2, rfl⟩ := ry
  refine PySem.P.mul_str ?_ (fun h1 _ => ?_) (fun _ _ => ?_) ?_
  · rw [decide_eq_false (by omega), decide_eq_false (by omega)]
    rfl
  · have : (2 ^ 21 : Int) ≤ (2 ^ 63 - 1) / k := (Int.le_ediv_iff_mul_le (by omega)).mpr (by omega)
    omega
  · unfold PySem.Builtin.Str.tooLong
    rw [sizeLine_eq]
    exact decide_eq_false (by omega)
  · by_cases h1 : k < 1
    · rw [if_pos h1]
      have e : repS z k = Str.empty := by
        have e : k.toNat = 0 := by omega
        unfold repS
        rw [e]
        rfl
      rw [e] at q
      exact ⟨by decide, .str Str.empty, H, I.tok _, ⟨_, rfl⟩, q⟩
    · rw [if_neg h1]
      by_cases h2 : (k == 1 || z.length == 0) = true
      · rw [if_pos h2]
        exact ⟨.str (repS z k), H, I, ⟨t, by rw [repS_same h2]⟩, q⟩
      · rw [if_neg h2]
        rw [repS_eq]
        refine ⟨?_, .str (repS z k), H, I.tok _, ⟨_, rfl⟩, q⟩
        rw [repS_length, sizeLine_eq]
        omega
end L3

set_option Elab.async false
set_option maxRecDepth 100000
set_option linter.all false
set_option maxHeartbeats 2000000
/-! enumerate of a list or a tuple: each pair is a tuple whose object is known whole -/
namespace L3
open PySem PySem.Spec PyProof.Rows L2
open AutoSeq1 (wpAny_loadPart')
theorem enumNew_tup (l : Addr) (items : Array Value) (n : Nat) (dct : Option Addr) (sl : Array (Option Value)) :
    Meets (Builtin.«enumerate.__new__» ⟨[.type "enumerate", .ref l], []⟩) (fun _ R s => s.heap.get? l = some { cls := .type "tuple", dict := dct, data := .seq items n, slots := sl } ∧
      R (.ok (.ret (.ref (s.heap.push { cls := .type "tuple_iterator", data := .fields #[.ref l, .int 0 0] }).objs.size)))
        { s with heap := (s.heap.push { cls := .type "tuple_iterator", data := .fields #[.ref l, .int 0 0] }).push { cls := .type "enumerate", data := .fields #[.none, .bool false, .ref s.heap.objs.size, rawInt 0, .none, .none] } }) :=
  .of_wp fun prog w A R s h => by
    obtain ⟨hp, g, d, tk, os⟩ := s; obtain ⟨hl, h⟩ := h
    have hsub := sub_enumerate
    have hL : Heap.IsTuple (Shared.heap ⟨hp, g, d, tk, os⟩) l items := ⟨_, hl, rfl, n, rfl⟩
    wp_walk using wpAny_loadPart' hl
    refine wpAny_stack_any fun st => wpAny_pure ?_
    split
    · rename_i c _ _ _ _ _
      cases (c == Value.type "enumerate")
      · wp_walk using wpAny_loadPart' hl, wpAny_pyIter_tuple hL
        exact ⟨_, rfl, h⟩
      · wp_walk using wpAny_loadPart' hl, wpAny_pyIter_tuple hL
        exact ⟨_, rfl, h⟩
    · wp_walk using wpAny_loadPart' hl, wpAny_pyIter_tuple hL
      exact ⟨_, rfl, h⟩
theorem call_enumerate_tup {prog : Program} {w : World} {A : Around} {E : Value → Shared → Prop} {s : Shared} {l : Addr} {items : Array Value} {Q : Value → Shared → Prop} (hL : s.heap.IsTuple l items)
    (h : ∀ h', IsEnum h' (s.heap.objs.size + 1) s.heap.objs.size 0 .none → h'.IsTupleIter s.heap.objs.size l 0 → h'.objs.size = s.heap.objs.size + 2 →
      (∀ b o, s.heap.get? b = some o → h'.get? b = some o) → Q (.ref (s.heap.objs.size + 1)) { s with heap := h' }) :
    wpAny (model prog w) A (call (.type "enumerate") [.ref l]) Q E s := by
  obtain ⟨⟨c, dct, dt, sl⟩, hl, hc, n, hd⟩ := hL
  replace hc : c = .type "tuple" := hc
  replace hd : dt = .seq items n := hd
  subst hc hd
  refine callType_new F.called_enumerate (by decide) (F.typeCall_enumerate_1 _) (F.newCall_enumerate_1 _) (fun obj => F.args_object_init_2 obj _) F.entry_enumerate_new
    (enumNew_tup l items n dct sl) ⟨hl, ?_⟩
  have hz : (s.heap.push { cls := .type "tuple_iterator", data := .fields #[.ref l, .int 0 0] }).objs.size = s.heap.objs.size + 1 := Heap.size_push ..
  show _ ∧ _
  rw [hz]
  have he : IsEnum ((s.heap.push { cls := .type "tuple_iterator", data := .fields #[.ref l, .int 0 0] }).push
      { cls := .type "enumerate", data := .fields #[.none, .bool false, .ref s.heap.objs.size, rawInt 0, .none, .none] }) (s.heap.objs.size + 1) s.heap.objs.size 0 .none := by
    have := Heap.get?_push_size (s.heap.push { cls := .type "tuple_iterator", data := .fields #[.ref l, .int 0 0] })
      (o := { cls := .type "enumerate", data := .fields #[.none, .bool false, .ref s.heap.objs.size, rawInt 0, .none, .none] }) rfl
    rw [hz] at this; exact this
  refine ⟨⟨_, he, rfl⟩, h _ he ⟨_, Heap.get?_push_of_some _ (Heap.get?_push_size _ rfl), rfl, rfl⟩ (by rw [Heap.size_push, hz]) fun b o x => Heap.get?_push_of_some _ (Heap.get?_push_of_some _ x)⟩

/-- a list (true), a tuple (false) -/
def SqB (K : PySem.W.Frag) (H : Hp) (a : Addr) (xs : List V) : Bool → Prop
  | true => SqL K H a xs
  | false => SqT K H a xs
def SrcB (h : Heap) (a : Addr) (its : Array Value) : Bool → Prop
  | true => h.IsList a its
  | false => h.IsTuple a its
def ItrB (h : Heap) (it a : Addr) (i : Nat) : Bool → Prop
  | true => h.IsListIter it a i
  | false => h.IsTupleIter it a i
theorem ItrB.at {h h' : Heap} {it a : Addr} {i : Nat} (k : ∀ o, h.get? it = some o → h'.get? it = some o) : ∀ {b : Bool}, ItrB h it a i b → ItrB h' it a i b
  | true, x => Heap.IsListIter.at x k
  | false, x => Heap.IsTupleIter.at x k
theorem ItrB.obj {h : Heap} {it a : Addr} {i : Nat} : ∀ {b : Bool}, ItrB h it a i b → ∃ o, h.get? it = some o ∧ ∃ vs, o.data = .fields vs
  | true, ⟨o, e, _, d⟩ | false, ⟨o, e, _, d⟩ => ⟨o, e, _, d⟩
theorem srcB {X : Cx} {pins : List (Addr × Obj)} {σ : L2.St} {H : Hp} {s : Shared} {a : Addr} {xs : List V} (I : Inv X pins σ H s) : ∀ {b : Bool}, SqB X.K H a xs b → ∃ its : List Value, Vals xs its ∧ SrcB s.heap a its.toArray b
  | true, h => let ⟨its, r, p, _⟩ := I.list h; ⟨its, r, p.isList⟩
  | false, h => let ⟨its, r, p, _⟩ := I.tuple h; ⟨its, r, p⟩
theorem sqB_inj {X : Cx} {pins : List (Addr × Obj)} {σ : L2.St} {H : Hp} {s : Shared} {a : Addr} {xs ys : List V} (I : Inv X pins σ H s) : ∀ {b : Bool}, SqB X.K H a xs b → SqB X.K H a ys b → xs = ys
  | true, h, g => I.list_inj h g
  | false, h, g => I.tuple_inj h g
theorem drawsB {prog : Program} {w : World} {A : Around} (hh : A.handled = none) (it a : Addr) (hne : a ≠ it) (its : Array Value) : ∀ b : Bool, Draws prog w A it [it, a] its.size (fun i v => its[i]? = some v) (fun i h => ItrB h it a i b ∧ SrcB h a its b)
  | true => Draws.list hh it a hne its
  | false => Draws.tuple hh it a hne its
/-- each item in a new pair -/
def ItE (K : PySem.W.Frag) (a : Addr) (b : Bool) : It where
  go i H := ∃ xs x, SqB K H a xs b ∧ xs[i]? = some x
  yld i H v H' := ∃ T o x, v = .ref T ∧ H T = none ∧ o.dict = none ∧ H' = upd H T (.frz o (.tup [.int (i : Nat), x])) ∧ ∀ xs, SqB K H a xs b → xs[i]? = some x
  stop i H := ∃ xs : List V, SqB K H a xs b ∧ xs.length ≤ i
theorem turn_en {P : Program} {w : World} {K : PySem.W.Frag} {elts : List Expr} {kk : Nat} {tpos : Pos} (a e it : Addr) (b : Bool) (hai : a ≠ it) (hea : e ≠ a) (hne : e ≠ it) :
    Turn P w K (.Tuple elts kk tpos) (ItE K a b) [e, it] e (fun i h => (∃ old, IsEnum h e it ((i : Nat) : Int) old) ∧ ItrB h it a i b) where
  mem := List.mem_cons_self
  obj i h st c hc := by
    obtain ⟨⟨old, he⟩, hi⟩ := st
    obtain ⟨o, eo, vs, d⟩ := hi.obj
    rcases List.mem_cons.mp hc with rfl | hc
    · exact ⟨_, he, fun v q => nomatch q⟩
    · cases List.mem_singleton.mp hc
      exact ⟨o, eo, fun v q => by rw [d] at q; cases q⟩
  keep i h h' st k := ⟨st.1.imp fun old he => k e List.mem_cons_self _ he, st.2.at fun o q => k it (by simp) o q⟩
  self A i s Q E st h := let ⟨_, he⟩ := st.1; wpAny_pyIter_enum he h
  done X hP hw hK hc i pins s σ H E I hf st hg := by
    subst hP hw hK
    obtain ⟨⟨old, he⟩, hit⟩ := st
    obtain ⟨xs, hq, hx⟩ := hg
    obtain ⟨its, rv, p⟩ := srcB I hq
    obtain ⟨f0, f1, f2, f3, f4, f5⟩ := hf it (by simp)
    have hh : X.A.in1.handled = none := I.ok.hd hc
    have hi : its.toArray.size ≤ i := by rw [List.size_toArray, ← rv.length]; exact hx
    have fin : ∀ h', Heap.ExtBut it s.heap h' → (none : Option Value) = none ∧ Inv X pins σ H { s with heap := h' } := fun h' eb => ⟨rfl, I.turned (t' := s.toks) (fun b o hb q => eb b o hb q) f0 f1 f3 f4 f5⟩
    have hT : s.TypeIs (.ref e) "enumerate" := ⟨_, he, rfl⟩
    unfold pyNext
    refine wpAny_bind (wpAny_attempt (wpAny_callSpecial?_slot (name := Str.ofString "__next__") hT F.slot_enumerate_next (wpAny_call_entry F.slot_enumerate_next hT F.entry_enumerate_next ?_ (F.args_enumerate_next_1 _))))
    show wpAny _ _ (field (.ref e) 2 >>= _) _ _ _
    refine wpAny_bind (wpAny_field he rfl (x := .ref it) rfl (wpAny_bind ?_))
    cases b with
    | true =>
      refine wpAny_nextOf_list_end hh hit p (Array.getElem?_eq_none hi) fun h' x he' ⟨o, ho, hc⟩ => ?_
      refine wpAny_bind (wpAny_isInstance (T := "StopIteration") (b := true) ⟨o, ho, hc⟩ isSubtype_stop ?_)
      exact wpAny_pure (fin _ he')
    | false =>
      refine wpAny_nextOf_tuple_end hh hit p (Array.getElem?_eq_none hi) fun h' x he' ⟨o, ho, hc⟩ => ?_
      refine wpAny_bind (wpAny_isInstance (T := "StopIteration") (b := true) ⟨o, ho, hc⟩ isSubtype_stop ?_)
      exact wpAny_pure (fin _ he')
  item X hP hw hK hc i pins s σ H E I hf st hg := by
    subst hP hw hK
    obtain ⟨⟨old, he⟩, hit⟩ := st
    obtain ⟨xs, x, hq, hx⟩ := hg
    obtain ⟨its, rv, p⟩ := srcB I hq
    obtain ⟨u, hu, ru⟩ := rv.get hx
    have el : e < s.heap.objs.size := Heap.lt_size he
    have il : it < s.heap.objs.size := let ⟨_, q, _⟩ := hit.obj; Heap.lt_size q
    have lt : i < its.toArray.size := by rw [List.size_toArray]; exact (List.getElem?_eq_some_iff.mp hu).1
    have hh : X.A.in1.handled = none := I.ok.hd hc
    have D := drawsB (prog := X.prog) (w := X.w) (A := X.A.in1) hh it a hai its.toArray b
    refine wpAny_pyNext_enum_itemD D he ⟨hit, p⟩ lt hne (by simp [hne, hea]) fun u' h1 tk hu' ho st' hT hsz hk => ⟨_, rfl, wpAny_letOwnedTupleGo_enum (s := { s with heap := h1, toks := tk + 1 }) ho fun h2 he' sb => ?_⟩
    have hu' : its[i]? = some u' := by simpa using hu'
    cases Option.some.inj (hu.symm.trans hu')
    have hT2 := (sb.2 _ (Nat.ne_of_gt el)).trans hT
    have hf0 : H s.heap.objs.size = none := I.hok.fresh (Nat.le_refl _)
    refine ⟨.ref s.heap.objs.size, upd H s.heap.objs.size (.frz { cls := .type "tuple", data := .seq #[.int i tk, u] } (.tup [.int (i : Nat), x])), ?_, rfl, ⟨_, { cls := .type "tuple", data := .seq #[.int i tk, u] }, x, rfl, hf0, rfl, rfl, fun ys hy => by rw [sqB_inj I hy hq]; exact hx⟩, ⟨⟨u, ?_⟩, ?_⟩, fun c hc => ?_⟩
    · have new : ObjOk X.prog X.w (upd H s.heap.objs.size (.frz { cls := .type "tuple", data := .seq #[.int i tk, u] } (.tup [.int (i : Nat), x]))) h2 s.heap.objs.size (.frz { cls := .type "tuple", data := .seq #[.int i tk, u] } (.tup [.int (i : Nat), x])) :=
        ⟨hT2, by show 2 ≤ sizeLine; decide, [.int i tk, u], .cons ⟨_, rfl⟩ (.cons ru .nil), ⟨_, hT2, rfl, _, rfl⟩⟩
      exact I.turnedNew (ch := [e, it]) (fun b ob hb q => (sb.2 b (fun z => hb (by simp [z]))).trans (hk b ob (fun z => hb (by simp [z])) (fun z => hb (by simp [z])) q)) hf (Nat.le_refl _) new
    · rw [show ((i + 1 : Nat) : Int) = (i : Int) + 1 by omega]
      exact he'
    · exact st'.1.at fun o q => (sb.2 it (Ne.symm hne)).trans q
    · have hb' : c < s.heap.objs.size := by
        rcases List.mem_cons.mp hc with rfl | hc
        · exact el
        · cases List.mem_singleton.mp hc
          exact il
      rw [upd_ne (Nat.ne_of_lt hb')]
      exact (hf c hc).1
def iEn (K : PySem.W.Frag) (ta : TA) : TI := fun σ H R => ta σ H fun vs H1 => ∃ a xs b, vs = [.ref a] ∧ SqB K H1 a xs b ∧ R (ItE K a b) H1
theorem pi_en {X : Cx} {e : Expr} {ta : TA} {p pos tpos : Pos} {elts : List Expr} {kk : Nat} (hg : Gl X "enumerate") (hm : X.mg "enumerate" = none) (ha : PA X [e] ta) (hs : starEach [e] X.env = [(false, eval e X.env)] := by rfl) :
    PI X (.Tuple elts kk tpos) (.Call (.Name "enumerate" p) [e] [] pos) (iEn X.K ta) := by
  refine ⟨fun pins s σ H R I h => Call_ (ld_blt I hg hm boot_enumerate (PyProof.Rows.callWith_type1 (thn (ha.run pos pins s σ H _ I h) fun us s1 ⟨vs, H1, I1, r1, a, xs, b, ex, hq, q⟩ => ?_) hs rfl))⟩
  subst ex
  obtain ⟨u, rfl, ru⟩ := vals1 r1
  cases ru
  obtain ⟨its, rv, p'⟩ := srcB I1 hq
  have al : a < s1.heap.objs.size := by
    cases b with
    | true => exact let ⟨o, q, _⟩ := p'; Heap.lt_size q
    | false => exact let ⟨o, q, _⟩ := p'; Heap.lt_size q
  have fin : ∀ h', IsEnum h' (s1.heap.objs.size + 1) s1.heap.objs.size 0 .none → ItrB h' s1.heap.objs.size a 0 b → (∀ b o, s1.heap.get? b = some o → h'.get? b = some o) →
      PIE X pins σ (.Tuple elts kk tpos) R (.ref (s1.heap.objs.size + 1)) { s1 with heap := h' } := fun h' he hit hk =>
    ⟨s1.heap.objs.size + 1, [s1.heap.objs.size + 1, s1.heap.objs.size], _, _, H1, rfl, I1.kept (t' := s1.toks) hk, turn_en a (s1.heap.objs.size + 1) s1.heap.objs.size b (Nat.ne_of_lt al) (Ne.symm (Nat.ne_of_lt (Nat.lt_succ_of_lt al))) (Nat.succ_ne_self _), ⟨⟨.none, he⟩, hit⟩, fun c hc => by
      have hle : s1.heap.objs.size ≤ c := by
        rcases List.mem_cons.mp hc with rfl | hc
        · exact Nat.le_succ _
        · cases List.mem_singleton.mp hc
          exact Nat.le_refl _
      exact I1.fpOk hle (I1.hok.fresh hle), q⟩
  cases b with
  | true => exact call_enumerate_list p' fun h' he hit hsz hk => wpAny_pyIter_enum he (fin h' he hit hk)
  | false => exact call_enumerate_tup p' fun h' he hit hsz hk => wpAny_pyIter_enum he (fin h' he hit hk)
end L3

set_option Elab.async false
set_option maxRecDepth 100000
set_option linter.all false
set_option maxHeartbeats 2000000
/-! methods of built-ins' objects, of tuples too -/
namespace L3
open PySem PySem.Spec PyProof.Rows L2
def TyB (K : PySem.W.Frag) (T : String) (x : V) (H : Hp) : Prop := tyV K T x H ∨ (T = "tuple" ∧ ∃ p xs, x = .ref p ∧ SqX K H p xs)
theorem tyB_is {X : Cx} {pins : List (Addr × Obj)} {σ : L2.St} {H : Hp} {s : Shared} {T : String} {x : V} {v : Value} (I : Inv X pins σ H s) (r : RelV x v) (ty : TyB X.K T x H) : s.TypeIs v T ∧ ∀ a, v = .ref a → ∃ ob, s.heap.get? a = some ob ∧ ob.dict = none := by
  rcases ty with ty | ⟨e, p, xs, e2, hx⟩
  · exact tyV_is I r ty
  subst e e2
  cases r
  rcases hx with ⟨o, h, d⟩ | ⟨o, its, n, h1, h2, d, h3⟩
  · obtain ⟨g, _, _, _, o', g', c, _⟩ := I.hok p _ h
    cases Option.some.inj (g.symm.trans g')
    exact ⟨⟨o, g, c⟩, fun a e => by cases e; exact ⟨o, g, d⟩⟩
  · refine tyV_is (T := "tuple") I (v := .ref p) (x := .ref p) rfl (.inr (.inl ⟨rfl, o, h1, h2, d⟩))
abbrev tBX (K : PySem.W.Frag) (T : String) (r : V → List V → Hp → VK → Prop) (to : TE) (t : TA) : TE := fun σ H Q => to σ H fun x H1 => TyB K T x H1 ∧ t σ H1 fun xs H2 => r x xs H2 Q
section
variable {X : Cx} {o e : Expr} {es : List Expr} {to : TE} {t : TA} {name : Str} {apos cpos : Pos} {T id : String} {r : V → List V → Hp → VK → Prop}
theorem pe_bX0 (pa : PlainAttrs T) (slot : Slot T name id) (hty : typeOf (.builtin id) = pure (.type "method_descriptor")) (hm : MtR X id r) (ho : PE X o to)
    (hb : attributeBase o name X.env (eval o X.env) = eval o X.env := by rfl) (hl : (apos.endLine == cpos.line) = true := by rfl) : PE X (.Call (.Attribute o name apos) [] [] cpos) (tBX X.K T r to tNil) :=
  ⟨fun pins s σ H Q I h => wpAny_Call_method0_late hb hl (thn (ho.run pins s σ H _ I h) fun v s1 ⟨x, H1, I1, r1, ty, q1⟩ =>
    let ⟨h1, h2⟩ := tyB_is I1 r1 ty
    ⟨T, id, pa, slot, hty, h1, h2, Calls.callWith_builtin rfl (PySem.evalArgs_none (hm pins s1 σ H1 x [] v [] Q I1 r1 .nil q1))⟩)⟩
theorem pe_bX (pa : PlainAttrs T) (slot : Slot T name id) (hty : typeOf (.builtin id) = pure (.type "method_descriptor")) (hm : MtR X id r) (ho : PE X o to) (ha : PA X (e :: es) t)
    (hb : attributeBase o name X.env (eval o X.env) = eval o X.env := by rfl)
    (hfew : ((backTo cpos (starEach (e :: es) X.env)).all (fun x => !x.1) && (backToKw cpos (keywordEach [] X.env)).all (fun x => x.1.isSome) && decide ((e :: es).length + ([] : List Keyword).length + (if ([] : List Keyword).isEmpty then 0 else 1) < 30)) = true := by rfl)
    (hl : (apos.endLine == cpos.line) = true := by rfl) (hs : starEach (e :: es) X.env = (false, eval e X.env) :: starEach es X.env := by rfl) (hp : (backTo cpos (starEach es X.env)).any (·.1) = false := by rfl) :
    PE X (.Call (.Attribute o name apos) (e :: es) [] cpos) (tBX X.K T r to t) := by
  refine ⟨fun pins s σ H Q I h => wpAny_Call_method_late hb hfew hl rfl (thn (ho.run pins s σ H _ I h) fun v s1 ⟨x, H1, I1, r1, ty, q1⟩ => ?_)⟩
  obtain ⟨h1, h2⟩ := tyB_is I1 r1 ty
  have hA := ha.run cpos pins s1 σ H1 _ I1 q1
  rw [hs] at hA ⊢
  have hpl : (false || (backTo cpos (starEach es X.env)).any (·.1)) = false := by rw [hp]; rfl
  exact ⟨T, id, pa, slot, hty, h1, h2, Calls.callWith_builtin hpl (Calls.evalArgs_plain (thn hA fun us s2 ⟨vs, H2, I2, r2, q2⟩ => hm pins s2 σ H2 x vs v us Q I2 r1 r2 q2))⟩
end
end L3

set_option Elab.async false
set_option maxRecDepth 100000
set_option linter.all false
/-! A layer of plain data over the hand layer: values are trees, only what is mutable stands in a store. -/
namespace L3
open PySem L2

/-- plain data; ref: a handle of a mutable object -/
inductive D where
  | non | bl (b : Bool) | int (i : Int) | str (x : Str)
  | tup (ds : List D) | lst (ds : List D) | ro (ds : List D) | ref (a : Addr) | ty (n : String) | key (ds : List D) | dct (ks : List Key) (ds : List D)

/-- a mutable object -/
inductive SO where
  | lst (ds : List D)
  | dK (kvs : List (Key × D))
  | dT (kvs : List (List Key × D))
  | ins (C : Addr) (fs : List (Str × D))
abbrev Sto := Addr → Option SO
def sup (S : Sto) (a : Addr) (o : SO) : Sto := fun b => if b = a then some o else S b
theorem sup_same {S : Sto} {a : Addr} {o : SO} : sup S a o a = some o := by unfold sup; rw [if_pos rfl]
theorem sup_ne {S : Sto} {a b : Addr} {o : SO} (h : b ≠ a) : sup S a o b = S b := by unfold sup; rw [if_neg h]
theorem sup_sup {S : Sto} {a : Addr} {o u : SO} : sup (sup S a o) a u = sup S a u := by
  funext b; unfold sup; split <;> rfl
/-- the part of the heap that never changes: neither in the store nor hidden -/
def fz (F : Addr → Bool) (S : Sto) (H : Hp) : Hp := fun a => match F a, S a with | false, none => H a | _, _ => none
theorem fz_some {F : Addr → Bool} {S : Sto} {H : Hp} {a : Addr} {o : SO} (h : S a = some o) : fz F S H a = none := by
  unfold fz; rw [h]; cases F a <;> rfl
theorem fz_hid {F : Addr → Bool} {S : Sto} {H : Hp} {a : Addr} (h : F a = true) : fz F S H a = none := by
  unfold fz; rw [h]
theorem fz_none {F : Addr → Bool} {S : Sto} {H : Hp} {a : Addr} (f : F a = false) (h : S a = none) : fz F S H a = H a := by unfold fz; rw [h, f]
theorem fz_of {F : Addr → Bool} {S : Sto} {H : Hp} {a : Addr} {o : HO} (h : fz F S H a = some o) : F a = false ∧ S a = none ∧ H a = some o := by
  unfold fz at h
  cases f : F a with
  | true => rw [f] at h; cases h
  | false =>
    cases e : S a with
    | none => rw [f, e] at h; exact ⟨rfl, rfl, h⟩
    | some u => rw [f, e] at h; cases h
theorem fz_same (F : Addr → Bool) (S : Sto) (H : Hp) : Same (fz F S H) H := fun _ _ h => (fz_of h).2.2

mutual
inductive Rel (K : PySem.W.Frag) (G : Hp) : V → D → Prop
  | non : Rel K G .non .non
  | bl (b : Bool) : Rel K G (.bl b) (.bl b)
  | int (i : Int) : Rel K G (.int i) (.int i)
  | str (x : Str) : Rel K G (.str x) (.str x)
  | ref (a : Addr) : Rel K G (.ref a) (.ref a)
  | ty (n : String) : Rel K G (.ty n) (.ty n)
  | tup {a : Addr} {xs : List V} {ds : List D} : SqX K G a xs → RelL K G xs ds → Rel K G (.ref a) (.tup ds)
  | lst {a : Addr} {xs : List V} {ds : List D} : G a = some (.lst xs) → RelL K G xs ds → Rel K G (.ref a) (.lst ds)
  | ro {a : Addr} {xs : List V} {ds : List D} : SqL K G a xs → RelL K G xs ds → Rel K G (.ref a) (.ro ds)
  | key {a : Addr} {xs : List V} {ds : List D} : G a = some (.tup xs) → RelL K G xs ds → Rel K G (.ref a) (.key ds)
  | dct {a : Addr} {od : Obj} {vs : List (Key × V)} {ds : List D} : G a = some (.frz od (.dK vs)) → RelL K G (vs.map (·.2)) ds → Rel K G (.ref a) (.dct (vs.map (·.1)) ds)
inductive RelL (K : PySem.W.Frag) (G : Hp) : List V → List D → Prop
  | nil : RelL K G [] []
  | cons {v : V} {vs : List V} {d : D} {ds : List D} : Rel K G v d → RelL K G vs ds → RelL K G (v :: vs) (d :: ds)
end
theorem sqT_mono {K : PySem.W.Frag} {H H' : Hp} {a : Addr} {xs : List V} (e : Same H H') (h : SqX K H a xs) : SqT K H' a xs := (h.mono e).t
section
variable {K : PySem.W.Frag} {G G' : Hp}
mutual
theorem Rel.mono (e : Same G G') : ∀ {v : V} {d : D}, Rel K G v d → Rel K G' v d
  | _, _, .non => .non
  | _, _, .bl b => .bl b
  | _, _, .int b => .int b
  | _, _, .str b => .str b
  | _, _, .ref b => .ref b
  | _, _, .ty b => .ty b
  | _, _, .tup h r => .tup (SqX.mono e h) (RelL.mono e r)
  | _, _, .lst h r => .lst (e _ _ h) (RelL.mono e r)
  | _, _, .ro h r => .ro (e.seq h) (RelL.mono e r)
  | _, _, .key h r => .key (e _ _ h) (RelL.mono e r)
  | _, _, .dct h r => .dct (e _ _ h) (RelL.mono e r)
theorem RelL.mono (e : Same G G') : ∀ {vs : List V} {ds : List D}, RelL K G vs ds → RelL K G' vs ds
  | _, _, .nil => .nil
  | _, _, .cons h r => .cons (Rel.mono e h) (RelL.mono e r)
end
theorem RelL.length : ∀ {vs : List V} {ds : List D}, RelL K G vs ds → vs.length = ds.length
  | _, _, .nil => rfl
  | _, _, .cons _ r => by simp [RelL.length r]
theorem RelL.append : ∀ {xs ys : List V} {ds es : List D}, RelL K G xs ds → RelL K G ys es → RelL K G (xs ++ ys) (ds ++ es)
  | _, _, _, _, .nil, s => s
  | _, _, _, _, .cons r t, s => .cons r (RelL.append t s)
theorem RelL.get : ∀ {xs : List V} {ds : List D} {i : Nat} {d : D}, RelL K G xs ds → ds[i]? = some d → ∃ v, xs[i]? = some v ∧ Rel K G v d
  | _, _, _, _, .nil, e => by simp at e
  | _, _, 0, _, .cons r _, e => by simp at e; subst e; exact ⟨_, rfl, r⟩
  | _, _, i + 1, _, .cons _ t, e => by
    obtain ⟨v, h1, h2⟩ := RelL.get (i := i) t (by simpa using e)
    exact ⟨v, by simpa using h1, h2⟩
theorem RelL.get' : ∀ {xs : List V} {ds : List D} {i : Nat} {v : V}, RelL K G xs ds → xs[i]? = some v → ∃ d, ds[i]? = some d ∧ Rel K G v d
  | _, _, _, _, .nil, e => by simp at e
  | _, _, 0, _, .cons r _, e => by simp at e; subst e; exact ⟨_, rfl, r⟩
  | _, _, i + 1, _, .cons _ t, e => by
    obtain ⟨v, h1, h2⟩ := RelL.get' (i := i) t (by simpa using e)
    exact ⟨v, by simpa using h1, h2⟩
theorem RelL.set {v : V} {d : D} (h : Rel K G v d) : ∀ {xs : List V} {ds : List D} (i : Nat), RelL K G xs ds → RelL K G (xs.set i v) (ds.set i d)
  | _, _, _, .nil => .nil
  | _, _, 0, .cons _ t => .cons h t
  | _, _, i + 1, .cons q t => .cons q (RelL.set h i t)
theorem RelL.take : ∀ {xs : List V} {ds : List D} (n : Nat), RelL K G xs ds → RelL K G (xs.take n) (ds.take n)
  | _, _, 0, _ => .nil
  | _, _, _ + 1, .nil => .nil
  | _, _, n + 1, .cons r t => .cons r (RelL.take n t)
theorem RelL.drop : ∀ {xs : List V} {ds : List D} (n : Nat), RelL K G xs ds → RelL K G (xs.drop n) (ds.drop n)
  | _, _, 0, r => r
  | _, _, _ + 1, .nil => .nil
  | _, _, n + 1, .cons _ t => RelL.drop n t
theorem RelL.reverse : ∀ {xs : List V} {ds : List D}, RelL K G xs ds → RelL K G xs.reverse ds.reverse
  | _, _, .nil => .nil
  | _, _, .cons r t => by
    rw [List.reverse_cons, List.reverse_cons]
    exact (RelL.reverse t).append (.cons r .nil)
theorem RelL.ints : ∀ {xs : List V} {ns : List Int}, RelL K G xs (ns.map D.int) → xs = ns.map V.int
  | _, [], h => by cases h; rfl
  | _, n :: ns, h => by
    cases h with
    | cons r t => cases r; rw [RelL.ints t]; rfl
theorem RelL.bls : ∀ {xs : List V} {ns : List Bool}, RelL K G xs (ns.map D.bl) → xs = ns.map V.bl
  | _, [], h => by cases h; rfl
  | _, n :: ns, h => by
    cases h with
    | cons r t => cases r; rw [RelL.bls t]; rfl
theorem RelL.strs : ∀ {xs : List V} {ns : List Str}, RelL K G xs (ns.map D.str) → xs = ns.map V.str
  | _, [], h => by cases h; rfl
  | _, n :: ns, h => by
    cases h with
    | cons r t => cases r; rw [RelL.strs t]; rfl
theorem RelL.ofInts : ∀ (ns : List Int), RelL K G (ns.map V.int) (ns.map D.int)
  | [] => .nil
  | n :: ns => .cons (.int n) (RelL.ofInts ns)
end

/-- fields, entries -/
inductive RelF (K : PySem.W.Frag) (G : Hp) {κ : Type} : List (κ × V) → List (κ × D) → Prop
  | nil : RelF K G [] []
  | cons {k : κ} {v : V} {vs : List (κ × V)} {d : D} {ds : List (κ × D)} : Rel K G v d → RelF K G vs ds → RelF K G ((k, v) :: vs) ((k, d) :: ds)
section
variable {K : PySem.W.Frag} {G G' : Hp} {κ : Type}
theorem RelF.mono (e : Same G G') : ∀ {vs : List (κ × V)} {ds : List (κ × D)}, RelF K G vs ds → RelF K G' vs ds
  | _, _, .nil => .nil
  | _, _, .cons h r => .cons (h.mono e) (RelF.mono e r)
end
def SOk (K : PySem.W.Frag) (G : Hp) (o : Option HO) : SO → Prop
  | .lst ds => ∃ vs, o = some (.lst vs) ∧ RelL K G vs ds
  | .dK kvs => ∃ vs, o = some (.dK vs) ∧ RelF K G vs kvs
  | .dT kvs => ∃ vs, o = some (.dT vs) ∧ RelF K G vs kvs
  | .ins C fs => ∃ dx vs, o = some (.ins C dx vs) ∧ RelF K G vs fs
theorem SOk.mono {K : PySem.W.Frag} {G G' : Hp} {o : Option HO} (e : Same G G') {u : SO} (h : SOk K G o u) : SOk K G' o u := by
  cases u with
  | lst ds => obtain ⟨vs, e1, r⟩ := h; exact ⟨vs, e1, r.mono e⟩
  | dK ds => obtain ⟨vs, e1, r⟩ := h; exact ⟨vs, e1, r.mono e⟩
  | dT ds => obtain ⟨vs, e1, r⟩ := h; exact ⟨vs, e1, r.mono e⟩
  | ins C ds => obtain ⟨dx, vs, e1, r⟩ := h; exact ⟨dx, vs, e1, r.mono e⟩
theorem SOk.some {K : PySem.W.Frag} {G : Hp} {o : Option HO} {u : SO} (h : SOk K G o u) : ∃ x, o = some x := by
  cases u with
  | lst ds => obtain ⟨vs, e1, r⟩ := h; exact ⟨_, e1⟩
  | dK ds => obtain ⟨vs, e1, r⟩ := h; exact ⟨_, e1⟩
  | dT ds => obtain ⟨vs, e1, r⟩ := h; exact ⟨_, e1⟩
  | ins C ds => obtain ⟨dx, vs, e1, r⟩ := h; exact ⟨_, e1⟩
/-- the store and the hidden objects stand in the heap -/
structure SimB (K : PySem.W.Frag) (F : Addr → Bool) (S : Sto) (H : Hp) : Prop where
  at_ : ∀ a o, S a = some o → F a = false ∧ SOk K (fz F S H) (H a) o
  hid : ∀ a, F a = true → ∃ o, H a = some o
/-- from one state to a later one -/
structure GoB (K : PySem.W.Frag) (F : Addr → Bool) (S : Sto) (H : Hp) (S' : Sto) (H' : Hp) : Prop where
  same : Same (fz F S H) (fz F S' H')
  hid : ∀ a, F a = true → H' a = H a
  sim : SimB K F S' H'
section
variable {K : PySem.W.Frag} {F : Addr → Bool} {S S1 S2 : Sto} {H H1 H2 : Hp} {p a : Addr} {o : HO} {u u' : SO}
theorem GoB.refl (s : SimB K F S H) : GoB K F S H S H := ⟨Same.refl _, fun _ _ => rfl, s⟩
theorem GoB.trans (g : GoB K F S H S1 H1) (g' : GoB K F S1 H1 S2 H2) : GoB K F S H S2 H2 := ⟨g.same.trans g'.same, fun a h => (g'.hid a h).trans (g.hid a h), g'.sim⟩
theorem SimB.none (s : SimB K F S H) (h : H p = none) : F p = false ∧ S p = Option.none := by
  constructor
  · cases e : F p with
    | false => rfl
    | true =>
      obtain ⟨x, q⟩ := s.hid p e
      rw [h] at q; cases q
  · cases e : S p with
    | none => rfl
    | some u =>
      obtain ⟨x, q⟩ := (s.at_ p u e).2.some
      rw [h] at q; cases q
theorem same_new (h : H p = none) : Same (fz F S H) (fz F S (upd H p o)) := fun b x e => by
  obtain ⟨h0, h1, h2⟩ := fz_of e
  rw [fz_none h0 h1, upd_ne (ne_of_none h2 h)]
  exact h2
/-- a new object that never changes -/
theorem SimB.new (s : SimB K F S H) (h : H p = Option.none) : GoB K F S H S (upd H p o) := by
  refine ⟨same_new h, fun a f => ?_, fun a u e => ?_, fun a f => ?_⟩
  · rw [upd_ne (fun z => by subst z; rw [(s.none h).1] at f; cases f)]
  · have np : a ≠ p := fun z => by subst z; rw [(s.none h).2] at e; cases e
    rw [upd_ne np]
    exact ⟨(s.at_ a u e).1, (s.at_ a u e).2.mono (same_new h)⟩
  · obtain ⟨x, q⟩ := s.hid a f
    exact ⟨x, by rw [upd_ne (ne_of_none q h)]; exact q⟩
theorem fz_newB (s : SimB K F S H) (h : H p = Option.none) : fz F S (upd H p o) p = some o := by
  rw [fz_none (s.none h).1 (s.none h).2, upd_same]
theorem same_newM (h : H p = Option.none) : Same (fz F S H) (fz F (sup S p u) (upd H p o)) := fun b x e => by
  obtain ⟨h0, h1, h2⟩ := fz_of e
  have np := ne_of_none h2 h
  rw [fz_none h0 (by rw [sup_ne np]; exact h1), upd_ne np]
  exact h2
/-- a new object that may change -/
theorem SimB.newM (s : SimB K F S H) (h : H p = Option.none) (k : SOk K (fz F S H) (some o) u) : GoB K F S H (sup S p u) (upd H p o) := by
  refine ⟨same_newM h, fun a f => ?_, fun a x e => ?_, fun a f => ?_⟩
  · rw [upd_ne (fun z => by subst z; rw [(s.none h).1] at f; cases f)]
  · by_cases np : a = p
    · subst np
      rw [sup_same] at e; cases e
      rw [upd_same]
      exact ⟨(s.none h).1, k.mono (same_newM h)⟩
    · rw [sup_ne np] at e
      rw [upd_ne np]
      exact ⟨(s.at_ a x e).1, (s.at_ a x e).2.mono (same_newM h)⟩
  · obtain ⟨x, q⟩ := s.hid a f
    exact ⟨x, by rw [upd_ne (ne_of_none q h)]; exact q⟩
theorem fz_put (h : S a = some u) : fz F (sup S a u') (upd H a o) = fz F S H := by
  funext b
  by_cases e : b = a
  · subst e
    rw [fz_some h, fz_some sup_same]
  · unfold fz
    rw [sup_ne e, upd_ne e]
/-- a mutable object changes -/
theorem SimB.put (s : SimB K F S H) (h : S a = some u) (k : SOk K (fz F S H) (some o) u') : GoB K F S H (sup S a u') (upd H a o) := by
  refine ⟨by rw [fz_put h]; exact Same.refl _, fun b f => ?_, fun b x e => ?_, fun b f => ?_⟩
  · rw [upd_ne (fun z => by subst z; rw [(s.at_ _ _ h).1] at f; cases f)]
  · rw [fz_put h]
    by_cases np : b = a
    · subst np
      rw [sup_same] at e; cases e
      rw [upd_same]
      exact ⟨(s.at_ _ _ h).1, k⟩
    · rw [sup_ne np] at e
      rw [upd_ne np]
      exact s.at_ b x e
  · obtain ⟨x, q⟩ := s.hid b f
    exact ⟨x, by rw [upd_ne (fun z => by subst z; rw [(s.at_ _ _ h).1] at f; cases f)]; exact q⟩
/-- a part of the store is let go -/
theorem GoB.drop (g : GoB K F S H S1 H1) (h : ∀ a o, S2 a = some o → S1 a = some o) : GoB K F S H S2 H1 := by
  have e : Same (fz F S1 H1) (fz F S2 H1) := fun b x e => by
    obtain ⟨h0, h1, h2⟩ := fz_of e
    rw [fz_none h0 ?_]
    · exact h2
    · cases q : S2 b with
      | none => rfl
      | some u => rw [h b u q] at h1; cases h1
  exact ⟨g.same.trans e, g.hid, fun a o q => ⟨(g.sim.at_ a o (h a o q)).1, (g.sim.at_ a o (h a o q)).2.mono e⟩, g.sim.hid⟩
end

/-- hidden besides -/
def hide (F : Addr → Bool) (a : Addr) : Addr → Bool := fun b => if b = a then true else F b
section
variable {K : PySem.W.Frag} {F : Addr → Bool} {S S' : Sto} {H H' : Hp} {p : Addr} {o o' : HO}
theorem fz_hide_same : Same (fz (hide F p) S H) (fz F S H) := fun b x e => by
  obtain ⟨h0, h1, h2⟩ := fz_of e
  have np : b ≠ p := fun z => by subst z; simp [hide] at h0
  rw [fz_none (by simpa [hide, np] using h0) h1]
  exact h2
theorem fz_hide_new (h : H p = none) : Same (fz F S H) (fz (hide F p) S (upd H p o)) := fun b x e => by
  obtain ⟨h0, h1, h2⟩ := fz_of e
  have np := ne_of_none h2 h
  rw [fz_none (by simp [hide, np, h0]) h1, upd_ne np]
  exact h2
theorem fz_hide_upd : fz (hide F p) S (upd H p o) = fz (hide F p) S H := by
  funext b
  by_cases e : b = p
  · subst e
    rw [fz_hid (by simp [hide]), fz_hid (by simp [hide])]
  · unfold fz
    rw [upd_ne e]
theorem SimB.hideNew (s : SimB K F S H) (h : H p = Option.none) : SimB K (hide F p) S (upd H p o) where
  at_ := fun a u e => by
    have np : a ≠ p := fun z => by subst z; rw [(s.none h).2] at e; cases e
    rw [upd_ne np]
    exact ⟨by simp [hide, np, (s.at_ a u e).1], (s.at_ a u e).2.mono (fz_hide_new h)⟩
  hid := fun a f => by
    by_cases np : a = p
    · subst np
      exact ⟨_, upd_same⟩
    · obtain ⟨x, q⟩ := s.hid a (by simpa [hide, np] using f)
      exact ⟨x, by rw [upd_ne np]; exact q⟩
/-- the hidden object is written -/
theorem SimB.hidePut (s : SimB K (hide F p) S H) : SimB K (hide F p) S (upd H p o) where
  at_ := fun a u e => by
    have q := s.at_ a u e
    have np : a ≠ p := fun z => by subst z; simp [hide] at q
    rw [upd_ne np, fz_hide_upd]
    exact q
  hid := fun a f => by
    by_cases np : a = p
    · subst np
      exact ⟨_, upd_same⟩
    · obtain ⟨x, q⟩ := s.hid a f
      exact ⟨x, by rw [upd_ne np]; exact q⟩
/-- it is shown again -/
theorem SimB.show_ (s : SimB K (hide F p) S H) (f : F p = false) : SimB K F S H where
  at_ := fun a u e => by
    have q := s.at_ a u e
    have np : a ≠ p := fun z => by subst z; simp [hide] at q
    exact ⟨by simpa [hide, np] using q.1, q.2.mono fz_hide_same⟩
  hid := fun a g => s.hid a (by by_cases np : a = p <;> simp [hide, np, g])
end
/-- what is known all along a def: kept by every step -/
structure KG (K : PySem.W.Frag) where
  ok : (Addr → Bool) → Sto → Hp → Prop
  step : ∀ {F S H S' H'}, SimB K F S H → ok F S H → GoB K F S H S' H' → ok F S' H'
  new : ∀ {F S H p o}, SimB K F S H → ok F S H → H p = none → ok (hide F p) S (upd H p o)
  put : ∀ {F S H p o S1 H1}, ok F S1 H1 → F p = false → SimB K (hide F p) S H → ok (hide F p) S H → ok (hide F p) S (upd H p o)
structure Sim {K : PySem.W.Frag} (Γ : KG K) (F : Addr → Bool) (S : Sto) (H : Hp) : Prop extends SimB K F S H where
  knows : Γ.ok F S H
structure Go {K : PySem.W.Frag} (Γ : KG K) (F : Addr → Bool) (S : Sto) (H : Hp) (S' : Sto) (H' : Hp) : Prop where
  same : Same (fz F S H) (fz F S' H')
  hid : ∀ a, F a = true → H' a = H a
  sim : Sim Γ F S' H'
section
variable {K : PySem.W.Frag} {Γ : KG K} {F : Addr → Bool} {S S1 S2 : Sto} {H H1 H2 : Hp} {p a : Addr} {o : HO} {u u' : SO}
theorem Go.b (g : Go Γ F S H S1 H1) : GoB K F S H S1 H1 := ⟨g.same, g.hid, g.sim.toSimB⟩
theorem Go.of (s : Sim Γ F S H) (g : GoB K F S H S1 H1) : Go Γ F S H S1 H1 := ⟨g.same, g.hid, ⟨g.sim, Γ.step s.toSimB s.knows g⟩⟩
theorem Go.refl (s : Sim Γ F S H) : Go Γ F S H S H := ⟨Same.refl _, fun _ _ => rfl, s⟩
theorem Go.trans (g : Go Γ F S H S1 H1) (g' : Go Γ F S1 H1 S2 H2) : Go Γ F S H S2 H2 := ⟨g.same.trans g'.same, fun a h => (g'.hid a h).trans (g.hid a h), g'.sim⟩
theorem Sim.none (s : Sim Γ F S H) (h : H p = none) : F p = false ∧ S p = Option.none := s.toSimB.none h
theorem Sim.new (s : Sim Γ F S H) (h : H p = Option.none) : Go Γ F S H S (upd H p o) := .of s (s.toSimB.new h)
theorem fz_new (s : Sim Γ F S H) (h : H p = Option.none) : fz F S (upd H p o) p = some o := fz_newB s.toSimB h
theorem Sim.newM (s : Sim Γ F S H) (h : H p = Option.none) (k : SOk K (fz F S H) (some o) u) : Go Γ F S H (sup S p u) (upd H p o) := .of s (s.toSimB.newM h k)
theorem Sim.put (s : Sim Γ F S H) (h : S a = some u) (k : SOk K (fz F S H) (some o) u') : Go Γ F S H (sup S a u') (upd H a o) := .of s (s.toSimB.put h k)
theorem Go.drop (s : Sim Γ F S H) (g : Go Γ F S H S1 H1) (h : ∀ a o, S2 a = some o → S1 a = some o) : Go Γ F S H S2 H1 := .of s (g.b.drop h)
theorem Sim.hideNew (s : Sim Γ F S H) (h : H p = Option.none) : Sim Γ (hide F p) S (upd H p o) := ⟨s.toSimB.hideNew h, Γ.new s.toSimB s.knows h⟩
theorem Sim.hidePut (s1 : Sim Γ F S1 H1) (f : F p = false) (s : Sim Γ (hide F p) S H) : Sim Γ (hide F p) S (upd H p o) := ⟨s.toSimB.hidePut, Γ.put s1.knows f s.toSimB s.knows⟩
end
abbrev DSt := List (Option D)
/-- slots -/
inductive RelS (K : PySem.W.Frag) (G : Hp) : St → DSt → Prop
  | nil : RelS K G [] []
  | cons {v : V} {σ : St} {d : D} {δ : DSt} : Rel K G v d → RelS K G σ δ → RelS K G (some v :: σ) (some d :: δ)
  | skip {v : Option V} {σ : St} {δ : DSt} : RelS K G σ δ → RelS K G (v :: σ) (none :: δ)
section
variable {K : PySem.W.Frag} {G G' : Hp}
theorem RelS.mono (e : Same G G') : ∀ {σ : St} {δ : DSt}, RelS K G σ δ → RelS K G' σ δ
  | _, _, .nil => .nil
  | _, _, .cons h r => .cons (h.mono e) (RelS.mono e r)
  | _, _, .skip r => .skip (RelS.mono e r)
theorem RelS.get : ∀ {σ : St} {δ : DSt} {i : Nat} {d : D}, RelS K G σ δ → δ[i]? = some (some d) → ∃ v, σ[i]? = some (some v) ∧ Rel K G v d
  | _, _, _, _, .nil, e => by simp at e
  | _, _, 0, _, .cons r _, e => by simp at e; subst e; exact ⟨_, rfl, r⟩
  | _, _, 0, _, .skip _, e => by simp at e
  | _, _, i + 1, _, .cons _ t, e => by
    obtain ⟨v, h1, h2⟩ := RelS.get (i := i) t (by simpa using e)
    exact ⟨v, by simpa using h1, h2⟩
  | _, _, i + 1, _, .skip t, e => by
    obtain ⟨v, h1, h2⟩ := RelS.get (i := i) t (by simpa using e)
    exact ⟨v, by simpa using h1, h2⟩
theorem RelS.set {v : V} {d : D} (h : Rel K G v d) : ∀ {σ : St} {δ : DSt} (i : Nat), RelS K G σ δ → RelS K G (σ.set i (some v)) (δ.set i (some d))
  | _, _, _, .nil => .nil
  | _, _, 0, .cons _ t => .cons h t
  | _, _, 0, .skip t => .cons h t
  | _, _, i + 1, .cons q t => .cons q (RelS.set h i t)
  | _, _, i + 1, .skip t => .skip (RelS.set h i t)
theorem RelS.unset : ∀ {σ : St} {δ : DSt} {v : Option V} (i : Nat), RelS K G σ δ → RelS K G (σ.set i v) (δ.set i none)
  | _, _, _, _, .nil => .nil
  | _, _, _, 0, .cons _ t => .skip t
  | _, _, _, 0, .skip t => .skip t
  | _, _, _, i + 1, .cons q t => .cons q (RelS.unset i t)
  | _, _, _, i + 1, .skip t => .skip (RelS.unset i t)
theorem RelS.length : ∀ {σ : St} {δ : DSt}, RelS K G σ δ → σ.length = δ.length
  | _, _, .nil => rfl
  | _, _, .cons _ r => by simp [RelS.length r]
  | _, _, .skip r => by simp [RelS.length r]
theorem RelS.repl : ∀ (n : Nat), RelS K G (List.replicate n none) (List.replicate n none)
  | 0 => .nil
  | n + 1 => .skip (RelS.repl n)
theorem RelS.ofL : ∀ {vs : List V} {ds : List D} {σ : St} {δ : DSt}, RelL K G vs ds → RelS K G σ δ → RelS K G (vs.map some ++ σ) (ds.map some ++ δ)
  | _, _, _, _, .nil, s => s
  | _, _, _, _, .cons r t, s => .cons r (RelS.ofL t s)
end

abbrev DK := D → Sto → Prop
abbrev DTE := DSt → Sto → DK → Prop
abbrev DTT := DSt → Sto → (Bool → Sto → Prop) → Prop
abbrev DTA := DSt → Sto → (List D → Sto → Prop) → Prop
structure DEnds where
  nx : DSt → Sto → Prop
  rt : DK
  bk : DSt → Sto → Prop := fun _ _ => False
  ct : DSt → Sto → Prop := fun _ _ => False
abbrev DTS := DEnds → DSt → Sto → Prop

/-- what follows, by data -/
def Ct {K : PySem.W.Frag} (Γ : KG K) (F : Addr → Bool) (S : Sto) (H : Hp) (P : DK) (Q : VK) : Prop := ∀ d S', P d S' → ∀ v H', Go Γ F S H S' H' → Rel K (fz F S' H') v d → Q v H'
def CtT {K : PySem.W.Frag} (Γ : KG K) (F : Addr → Bool) (S : Sto) (H : Hp) (P : Bool → Sto → Prop) (Q : Bool → Hp → Prop) : Prop := ∀ b S', P b S' → ∀ H', Go Γ F S H S' H' → Q b H'
def CtA {K : PySem.W.Frag} (Γ : KG K) (F : Addr → Bool) (S : Sto) (H : Hp) (P : List D → Sto → Prop) (Q : List V → Hp → Prop) : Prop := ∀ ds S', P ds S' → ∀ vs H', Go Γ F S H S' H' → RelL K (fz F S' H') vs ds → Q vs H'
def CtN {K : PySem.W.Frag} (Γ : KG K) (F : Addr → Bool) (S : Sto) (H : Hp) (P : DSt → Sto → Prop) (Q : St → Hp → Prop) : Prop := ∀ δ' S', P δ' S' → ∀ σ' H', Go Γ F S H S' H' → RelS K (fz F S' H') σ' δ' → Q σ' H'
structure CtE {K : PySem.W.Frag} (Γ : KG K) (F : Addr → Bool) (S : Sto) (H : Hp) (P : DEnds) (Q : Ends) : Prop where
  nx : CtN Γ F S H P.nx Q.nx
  rt : Ct Γ F S H P.rt Q.rt
  bk : CtN Γ F S H P.bk Q.bk
  ct : CtN Γ F S H P.ct Q.ct
section
variable {K : PySem.W.Frag} {Γ : KG K} {F : Addr → Bool} {S S1 : Sto} {H H1 : Hp}
theorem Ct.mono {P : DK} {Q : VK} (c : Ct Γ F S H P Q) (e : Go Γ F S H S1 H1) : Ct Γ F S1 H1 P Q := fun d S' h v H' e' => c d S' h v H' (e.trans e')
theorem CtT.mono {P : Bool → Sto → Prop} {Q : Bool → Hp → Prop} (c : CtT Γ F S H P Q) (e : Go Γ F S H S1 H1) : CtT Γ F S1 H1 P Q := fun d S' h H' e' => c d S' h H' (e.trans e')
theorem CtA.mono {P : List D → Sto → Prop} {Q : List V → Hp → Prop} (c : CtA Γ F S H P Q) (e : Go Γ F S H S1 H1) : CtA Γ F S1 H1 P Q := fun d S' h v H' e' => c d S' h v H' (e.trans e')
theorem CtN.mono {P : DSt → Sto → Prop} {Q : St → Hp → Prop} (c : CtN Γ F S H P Q) (e : Go Γ F S H S1 H1) : CtN Γ F S1 H1 P Q := fun d S' h v H' e' => c d S' h v H' (e.trans e')
theorem CtE.mono {P : DEnds} {Q : Ends} (c : CtE Γ F S H P Q) (e : Go Γ F S H S1 H1) : CtE Γ F S1 H1 P Q := ⟨c.nx.mono e, c.rt.mono e, c.bk.mono e, c.ct.mono e⟩
theorem Ct.use {P : DK} {Q : VK} (c : Ct Γ F S H P Q) (s : Sim Γ F S H) {v : V} {d : D} (r : Rel K (fz F S H) v d) (h : P d S) : Q v H := c d S h v H (Go.refl s) r
theorem Ct.new {P : DK} {Q : VK} (c : Ct Γ F S H P Q) (s : Sim Γ F S H) {p : Addr} {o : HO} (hp : H p = none) {v : V} {d : D} (r : Rel K (fz F S (upd H p o)) v d) (h : P d S) : Q v (upd H p o) := c d S h v _ (s.new hp) r
theorem Ct.newM {P : DK} {Q : VK} (c : Ct Γ F S H P Q) (s : Sim Γ F S H) {p : Addr} {o : HO} {u : SO} (hp : H p = none) (k : SOk K (fz F S H) (some o) u) {v : V} {d : D} (r : Rel K (fz F (sup S p u) (upd H p o)) v d) (h : P d (sup S p u)) : Q v (upd H p o) :=
  c d _ h v _ (s.newM hp k) r
theorem Ct.put {P : DK} {Q : VK} (c : Ct Γ F S H P Q) (s : Sim Γ F S H) {a : Addr} {o : HO} {u u' : SO} (ha : S a = some u) (k : SOk K (fz F S H) (some o) u') {v : V} {d : D} (r : Rel K (fz F S H) v d) (h : P d (sup S a u')) : Q v (upd H a o) :=
  c d _ h v _ (s.put ha k) (by rw [fz_put ha]; exact r)
end

/-- a reading by data as a reading -/
def lf {K : PySem.W.Frag} (Γ : KG K) (t : DTE) : TE := fun σ H Q => ∃ F δ S P, Sim Γ F S H ∧ RelS K (fz F S H) σ δ ∧ t δ S P ∧ Ct Γ F S H P Q
def lfT {K : PySem.W.Frag} (Γ : KG K) (t : DTT) : TT := fun σ H Q => ∃ F δ S P, Sim Γ F S H ∧ RelS K (fz F S H) σ δ ∧ t δ S P ∧ CtT Γ F S H P Q
def lfA {K : PySem.W.Frag} (Γ : KG K) (t : DTA) : TA := fun σ H Q => ∃ F δ S P, Sim Γ F S H ∧ RelS K (fz F S H) σ δ ∧ t δ S P ∧ CtA Γ F S H P Q
def lfS {K : PySem.W.Frag} (Γ : KG K) (t : DTS) : TS := fun D σ H => ∃ F δ S P, Sim Γ F S H ∧ RelS K (fz F S H) σ δ ∧ t P δ S ∧ CtE Γ F S H P D
def DPE (X : Cx) (Γ : KG X.K) (e : Expr) (t : DTE) : Prop := PE X e (lf Γ t)
def DPT (X : Cx) (Γ : KG X.K) (e : Expr) (t : DTT) : Prop := PT X e (lfT Γ t)
def DPW (X : Cx) (Γ : KG X.K) (e : Expr) (t : DTT) : Prop := PW X e (lfT Γ t)
def DPA (X : Cx) (Γ : KG X.K) (es : List Expr) (t : DTA) : Prop := PA X es (lfA Γ t)
def DPS (X : Cx) (Γ : KG X.K) (st : Stmt) (t : DTS) : Prop := PS X st (lfS Γ t)
def DPSs (X : Cx) (Γ : KG X.K) (st : List Stmt) (t : DTS) : Prop := PSs X st (lfS Γ t)
section
variable {X : Cx}
theorem PEw {e : Expr} {t u : TE} (h : PE X e t) (w : ∀ σ H Q, u σ H Q → t σ H Q) : PE X e u := ⟨fun pins s σ H Q I q => h.run pins s σ H Q I (w _ _ _ q)⟩
theorem PTw {e : Expr} {t u : TT} (h : PT X e t) (w : ∀ σ H Q, u σ H Q → t σ H Q) : PT X e u := ⟨fun pins s σ H Q I q => h.run pins s σ H Q I (w _ _ _ q)⟩
theorem PWw {e : Expr} {t u : TT} (h : PW X e t) (w : ∀ σ H Q, u σ H Q → t σ H Q) : PW X e u := ⟨fun wh pins s σ H Q I q => h.run wh pins s σ H Q I (w _ _ _ q)⟩
theorem PAw {e : List Expr} {t u : TA} (h : PA X e t) (w : ∀ σ H Q, u σ H Q → t σ H Q) : PA X e u := ⟨fun pos pins s σ H Q I q => h.run pos pins s σ H Q I (w _ _ _ q)⟩
theorem PSw {e : Stmt} {t u : TS} (h : PS X e t) (w : ∀ D σ H, u D σ H → t D σ H) : PS X e u := ⟨fun pins s σ H Q I q => h.run pins s σ H Q I (w _ _ _ q)⟩
theorem PSsw {e : List Stmt} {t u : TS} (h : PSs X e t) (w : ∀ D σ H, u D σ H → t D σ H) : PSs X e u := ⟨fun pins s σ H Q I q => h.run pins s σ H Q I (w _ _ _ q)⟩
end
end L3

set_option Elab.async false
set_option maxRecDepth 100000
set_option linter.all false
namespace L3
open PySem L2
/-! ### rules: names, constants, operators -/
abbrev slot : DSt → Nat → Option D
  | [], _ => none
  | x :: _, 0 => x
  | _ :: r, i + 1 => slot r i
abbrev dset : DSt → Nat → Option D → DSt
  | [], _, _ => []
  | _ :: r, 0, d => d :: r
  | x :: r, i + 1, d => x :: dset r i d
theorem dset_eq : ∀ (δ : DSt) (i : Nat) (d : Option D), dset δ i d = δ.set i d
  | [], _, _ => rfl
  | _ :: _, 0, _ => rfl
  | x :: r, i + 1, d => by simp only [dset, List.set_cons_succ, dset_eq r i d]
theorem RelS.dset {K : PySem.W.Frag} {G : Hp} {v : V} {d : D} {σ : St} {δ : DSt} (h : Rel K G v d) (i : Nat) (r : RelS K G σ δ) : RelS K G (σ.set i (some v)) (L3.dset δ i (some d)) := by
  rw [dset_eq]; exact r.set h i
theorem slot_get : ∀ {δ : DSt} {i : Nat} {d : D}, slot δ i = some d → δ[i]? = some (some d)
  | [], _, _, h => by cases h
  | x :: r, 0, d, h => by simp only [slot] at h; subst h; rfl
  | x :: r, i + 1, d, h => by simpa using slot_get (δ := r) (i := i) h
abbrev dVar (i : Nat) : DTE := fun δ S Q => match slot δ i with | some d => Q d S | none => False
abbrev dC (d : D) : DTE := fun _ S Q => Q d S
abbrev dOp (r : D → D → Sto → DK → Prop) (ta tb : DTE) : DTE := fun δ S Q => ta δ S fun x S1 => tb δ S1 fun y S2 => r x y S2 Q
abbrev dUn (r : D → Sto → DK → Prop) (ta : DTE) : DTE := fun δ S Q => ta δ S fun x S1 => r x S1 Q
abbrev dNil : DTA := fun _ S Q => Q [] S
abbrev dCons (ta : DTE) (tr : DTA) : DTA := fun δ S Q => ta δ S fun x S1 => tr δ S1 fun xs S2 => Q (x :: xs) S2
abbrev dTup (t : DTA) : DTE := fun δ S Q => t δ S fun ds S1 => ds.length ≤ 1000 ∧ Q (.tup ds) S1
abbrev dLst (t : DTA) : DTE := fun δ S Q => t δ S fun ds S1 => ds.length ≤ 1000 ∧ Q (.lst ds) S1
abbrev dLstM (t : DTA) : DTE := fun δ S Q => t δ S fun ds S1 => ds.length ≤ 1000 ∧ ∀ p, S1 p = none → Q (.ref p) (sup S1 p (.lst ds))
abbrev dTest (t : DTE) : DTT := fun δ S Q => t δ S fun x S1 => match x with | .bl b => Q b S1 | _ => False
abbrev dChain (r r' : D → D → Sto → DK → Prop) (ta tb tc : DTE) : DTE := fun δ S Q => ta δ S fun x S1 => tb δ S1 fun y S2 => r x y S2 fun z S3 => match z with
  | .bl k => if k = true then tc δ S3 fun w S4 => r' y w S4 Q else Q (.bl false) S3
  | _ => False
abbrev dAnd (t u : DTT) : DTT := fun δ S Q => t δ S fun c S1 => if c = true then u δ S1 Q else Q false S1
abbrev dOr (t u : DTT) : DTT := fun δ S Q => t δ S fun c S1 => if c = true then Q true S1 else u δ S1 Q
abbrev dNot (t : DTT) : DTT := fun δ S Q => t δ S fun c S1 => Q (!c) S1
abbrev dAndV (ta tb : DTE) : DTE := fun δ S Q => ta δ S fun x S1 => match x with | .bl c => if c = true then tb δ S1 Q else Q (.bl false) S1 | _ => False
abbrev dOrV (ta tb : DTE) : DTE := fun δ S Q => ta δ S fun x S1 => match x with | .bl c => if c = true then Q (.bl true) S1 else tb δ S1 Q | _ => False
abbrev dNotV (ta : DTE) : DTE := fun δ S Q => ta δ S fun x S1 => match x with | .bl c => Q (.bl (!c)) S1 | _ => False
abbrev dIfE (t : DTT) (ta tb : DTE) : DTE := fun δ S Q => t δ S fun c S1 => if c = true then ta δ S1 Q else tb δ S1 Q

/-- a value's operation, lifted -/
def LR2 (K : PySem.W.Frag) (r : R2) (r' : D → D → Sto → DK → Prop) : Prop := ∀ {Γ : KG K} x y dx dy F S H P Q, Sim Γ F S H → Rel K (fz F S H) x dx → Rel K (fz F S H) y dy → r' dx dy S P → Ct Γ F S H P Q → r x y H Q
def LR1 (K : PySem.W.Frag) (r : V → Hp → VK → Prop) (r' : D → Sto → DK → Prop) : Prop := ∀ {Γ : KG K} x dx F S H P Q, Sim Γ F S H → Rel K (fz F S H) x dx → r' dx S P → Ct Γ F S H P Q → r x H Q
def LRL (K : PySem.W.Frag) (r : List V → Hp → VK → Prop) (r' : List D → Sto → DK → Prop) : Prop := ∀ {Γ : KG K} xs ds F S H P Q, Sim Γ F S H → RelL K (fz F S H) xs ds → r' ds S P → Ct Γ F S H P Q → r xs H Q
def LRM (K : PySem.W.Frag) (r : V → List V → Hp → VK → Prop) (r' : D → List D → Sto → DK → Prop) : Prop := ∀ {Γ : KG K} x xs dx ds F S H P Q, Sim Γ F S H → Rel K (fz F S H) x dx → RelL K (fz F S H) xs ds → r' dx ds S P → Ct Γ F S H P Q → r x xs H Q
theorem LR2.or {K : PySem.W.Frag} {r s : R2} {r' s' : D → D → Sto → DK → Prop} (h : LR2 K r r') (g : LR2 K s s') : LR2 K (fun x y H Q => r x y H Q ∨ s x y H Q) (fun x y S Q => r' x y S Q ∨ s' x y S Q) :=
  fun x y dx dy F S H P Q sm rx ry q c => q.elim (fun q => .inl (h x y dx dy F S H P Q sm rx ry q c)) fun q => .inr (g x y dx dy F S H P Q sm rx ry q c)
/-- an operation with its reading by data -/
structure DOp (X : Cx) (f : Value → Value → Sem Value) (r' : D → D → Sto → DK → Prop) : Prop where
  ex : ∃ r, OpR X f r ∧ LR2 X.K r r'
structure DIx (X : Cx) (r' : D → D → Sto → DK → Prop) : Prop where
  ex : ∃ r, IxR X r ∧ LR2 X.K r r'
structure DUn (X : Cx) (f : Value → Sem Value) (r' : D → Sto → DK → Prop) : Prop where
  ex : ∃ r, UnR X f r ∧ LR1 X.K r r'
structure DCall (X : Cx) (f : Value) (r' : List D → Sto → DK → Prop) : Prop where
  ex : ∃ r, CallR X f r ∧ LRL X.K r r'
theorem DOp.or {X : Cx} {f : Value → Value → Sem Value} {r s : D → D → Sto → DK → Prop} (h : DOp X f r) (g : DOp X f s) : DOp X f (fun x y S Q => r x y S Q ∨ s x y S Q) := by
  obtain ⟨a, h1, h2⟩ := h.ex
  obtain ⟨b, g1, g2⟩ := g.ex
  exact ⟨_, h1.or g1, h2.or g2⟩
theorem DOp.imp {X : Cx} {f : Value → Value → Sem Value} {r s : D → D → Sto → DK → Prop} (h : DOp X f r) (w : ∀ x y S Q, s x y S Q → r x y S Q) : DOp X f s := by
  obtain ⟨a, h1, h2⟩ := h.ex
  exact ⟨_, h1, fun x y dx dy F S H P Q sm rx ry q c => h2 x y dx dy F S H P Q sm rx ry (w _ _ _ _ q) c⟩
theorem DIx.or {X : Cx} {r s : D → D → Sto → DK → Prop} (h : DIx X r) (g : DIx X s) : DIx X (fun x y S Q => r x y S Q ∨ s x y S Q) := by
  obtain ⟨a, h1, h2⟩ := h.ex
  obtain ⟨b, g1, g2⟩ := g.ex
  exact ⟨_, h1.or g1, h2.or g2⟩
theorem DIx.imp {X : Cx} {r s : D → D → Sto → DK → Prop} (h : DIx X r) (w : ∀ x y S Q, s x y S Q → r x y S Q) : DIx X s := by
  obtain ⟨a, h1, h2⟩ := h.ex
  exact ⟨_, h1, fun x y dx dy F S H P Q sm rx ry q c => h2 x y dx dy F S H P Q sm rx ry (w _ _ _ _ q) c⟩
theorem DCall.or {X : Cx} {f : Value} {r s : List D → Sto → DK → Prop} (h : DCall X f r) (g : DCall X f s) : DCall X f (fun x S Q => r x S Q ∨ s x S Q) := by
  obtain ⟨a, h1, h2⟩ := h.ex
  obtain ⟨b, g1, g2⟩ := g.ex
  exact ⟨_, h1.or g1, fun xs ds F S H P Q sm rx q c => q.elim (fun q => .inl (h2 xs ds F S H P Q sm rx q c)) fun q => .inr (g2 xs ds F S H P Q sm rx q c)⟩
theorem DCall.imp {X : Cx} {f : Value} {r s : List D → Sto → DK → Prop} (h : DCall X f r) (w : ∀ x S Q, s x S Q → r x S Q) : DCall X f s := by
  obtain ⟨a, h1, h2⟩ := h.ex
  exact ⟨_, h1, fun xs ds F S H P Q sm rx q c => h2 xs ds F S H P Q sm rx (w _ _ _ q) c⟩

section
variable {X : Cx} {Γ : KG X.K} {a b c : Expr} {ta tb tc : DTE} {tA tB' : DTT} {t : DTA} {pos : Pos} {es rest : List Expr} {r r' : D → D → Sto → DK → Prop}
theorem dpe_var (i : Nat) {x : Str} (hN : X.N[i]? = some x := by rfl) (hv : Vis X.env.scope x := by first | exact Or.inl rfl | exact Or.inr (Or.inl rfl) | exact Or.inr (Or.inr rfl)) (hd : (x == ("__debug__" : Str)) = false := by decide)
    (hcd : (x == ("__classdict__" : Str)) = false := by decide) : DPE X Γ (.Name x pos) (dVar i) := PEw (pe_var hN hv hd hcd) fun σ H Q ⟨F, δ, S, P, sm, rs, h, c⟩ => by
  simp only [dVar] at h
  cases e : slot δ i with
  | none => rw [e] at h; exact h.elim
  | some d =>
    rw [e] at h
    obtain ⟨v, h1, h2⟩ := rs.get (slot_get e)
    exact ⟨v, h1, c.use sm h2 h⟩
theorem lf_C {K : PySem.W.Frag} {Γ : KG K} {v : V} {d : D} (hr : ∀ G, Rel K G v d) (σ : St) (H : Hp) (Q : VK) (h : lf Γ (dC d) σ H Q) : tC v σ H Q := by
  obtain ⟨F, δ, S, P, sm, rs, h, c⟩ := h
  exact c.use sm (hr _) h
theorem dpe_int {i : Int} {j} : DPE X Γ (.Constant (.int i) j pos) (dC (.int i)) := PEw pe_int (lf_C fun _ => .int i)
theorem dpe_bl {i : Bool} {j} : DPE X Γ (.Constant (.bool i) j pos) (dC (.bl i)) := PEw pe_bl (lf_C fun _ => .bl i)
theorem dpe_non {j} : DPE X Γ (.Constant .none j pos) (dC .non) := PEw pe_non (lf_C fun _ => .non)
theorem dpe_str {i : Str} {j} : DPE X Γ (.Constant (.str i) j pos) (dC (.str i)) := PEw pe_str (lf_C fun _ => .str i)
/-- a module's constant -/
theorem dpe_glob {x : Str} {v : V} {d : D} {u : Value} (hg : Gl X x) (hm : X.mg x = some u) (q : RelV v u) (hr : ∀ G, Rel X.K G v d) (hd : (x == ("__debug__" : Str)) = false := by decide) : DPE X Γ (.Name x pos) (dC d) :=
  PEw (pe_glob hg hm q hd) (lf_C hr)
theorem dpe_ty {x : Str} {n : String} (hg : Gl X x) (hm : X.mg x = none) (hv : bootBuiltins x = some (.type n)) (hn : x ≠ "__name__" := by decide) (hd : (x == ("__debug__" : Str)) = false := by decide) : DPE X Γ (.Name x pos) (dC (.ty n)) :=
  PEw (pe_bltn (v := .ty n) hg hm hv rfl hn hd) (lf_C fun _ => .ty n)
theorem lf_op {K : PySem.W.Frag} {Γ : KG K} {q : R2} (hl : LR2 K q r) (σ : St) (H : Hp) (Q : VK) (h : lf Γ (dOp r ta tb) σ H Q) : tOp q (lf Γ ta) (lf Γ tb) σ H Q := by
  obtain ⟨F, δ, S, P, sm, rs, h, c⟩ := h
  refine ⟨F, δ, S, _, sm, rs, h, fun dx S1 h1 x H1 g1 rx => ?_⟩
  refine ⟨F, δ, S1, _, g1.sim, rs.mono g1.same, h1, fun dy S2 h2 y H2 g2 ry => ?_⟩
  exact hl x y dx dy F S2 H2 P Q g2.sim (rx.mono g2.same) ry h2 (c.mono (g1.trans g2))
theorem dpe_op {op : Operator} (ho : DOp X (binaryOp op) r) (ha : DPE X Γ a ta) (hb : DPE X Γ b tb) : DPE X Γ (.BinOp a op b pos) (dOp r ta tb) := by
  obtain ⟨q, h1, h2⟩ := ho.ex
  exact PEw (pe_op h1 ha hb) (lf_op h2)
theorem dpe_un {op : UnaryOp} {r : D → Sto → DK → Prop} (ho : DUn X (unaryOp op) r) (ha : DPE X Γ a ta) : DPE X Γ (.UnaryOp op a pos) (dUn r ta) := by
  obtain ⟨q, h1, h2⟩ := ho.ex
  refine PEw (pe_un h1 ha) fun σ H Q ⟨F, δ, S, P, sm, rs, h, c⟩ => ?_
  exact ⟨F, δ, S, _, sm, rs, h, fun dx S1 h1 x H1 g1 rx => h2 x dx F S1 H1 P Q g1.sim rx h1 (c.mono g1)⟩
theorem dpe_cmp {op : CmpOp} (ho : DOp X (compareOp op) r) (ha : DPE X Γ a ta) (hb : DPE X Γ b tb) (hm : behindInMarks op b = false := by first | exact nomark _ | rfl | with_unfolding_all rfl) : DPE X Γ (.Compare a [op] [b] pos) (dOp r ta tb) := by
  obtain ⟨q, h1, h2⟩ := ho.ex
  exact PEw (pe_cmpR h1 ha hb hm) (lf_op h2)
theorem lf_test {K : PySem.W.Frag} {Γ : KG K} {te : DTE} (σ : St) (H : Hp) (Q : Bool → Hp → Prop) (h : lfT Γ (dTest te) σ H Q) : lf Γ te σ H (fun x H' => ∃ k, x = .bl k ∧ Q k H') := by
  obtain ⟨F, δ, S, P, sm, rs, h, c⟩ := h
  refine ⟨F, δ, S, _, sm, rs, h, fun d S1 h1 v H1 g1 r1 => ?_⟩
  cases r1 <;> first | exact h1.elim | skip
  exact ⟨_, rfl, c _ _ h1 _ g1⟩
theorem dpt_cmp {op : CmpOp} (ho : DOp X (compareOp op) r) (ha : DPE X Γ a ta) (hb : DPE X Γ b tb) (hm : behindInMarks op b = false := by first | exact nomark _ | rfl | with_unfolding_all rfl) : DPT X Γ (.Compare a [op] [b] pos) (dTest (dOp r ta tb)) := by
  obtain ⟨q, h1, h2⟩ := ho.ex
  refine PTw (pt_cmpR h1 ha hb hm) fun σ H Q h => ?_
  exact lf_op h2 σ H _ (lf_test σ H Q h)
theorem lf_chain {K : PySem.W.Frag} {Γ : KG K} {q q' : R2} (hl : LR2 K q r) (hl' : LR2 K q' r') (σ : St) (H : Hp) (Q : VK) (h : lf Γ (dChain r r' ta tb tc) σ H Q) : tChain q q' (lf Γ ta) (lf Γ tb) (lf Γ tc) σ H Q := by
  obtain ⟨F, δ, S, P, sm, rs, h, c⟩ := h
  refine ⟨F, δ, S, _, sm, rs, h, fun dx S1 h1 x H1 g1 rx => ?_⟩
  refine ⟨F, δ, S1, _, g1.sim, rs.mono g1.same, h1, fun dy S2 h2 y H2 g2 ry => ?_⟩
  refine hl x y dx dy F S2 H2 _ _ g2.sim (rx.mono g2.same) ry h2 fun dz S3 h3 z H3 g3 rz => ?_
  cases rz <;> first | exact h3.elim | skip
  rename_i k
  refine ⟨k, rfl, ?_⟩
  have h3 : if k = true then tc δ S3 fun w S4 => r' dy w S4 P else P (.bl false) S3 := h3
  cases k with
  | false => exact (c.mono ((g1.trans g2).trans g3)).use g3.sim (.bl false) h3
  | true =>
    refine ⟨F, δ, S3, _, g3.sim, rs.mono ((g1.same.trans g2.same).trans g3.same), h3, fun dw S4 h4 w H4 g4 rw' => ?_⟩
    exact hl' y w dy dw F S4 H4 P Q g4.sim (ry.mono (g3.same.trans g4.same)) rw' h4 (c.mono (((g1.trans g2).trans g3).trans g4))
theorem dpe_chain {op op' : CmpOp} (ho : DOp X (compareOp op) r) (ho' : DOp X (compareOp op') r') (ha : DPE X Γ a ta) (hb : DPE X Γ b tb) (hc : DPE X Γ c tc)
    (hm : lastMarks [op, op'] [b, c] = false := by with_unfolding_all rfl) : DPE X Γ (.Compare a [op, op'] [b, c] pos) (dChain r r' ta tb tc) := by
  obtain ⟨q, h1, h2⟩ := ho.ex
  obtain ⟨q', h1', h2'⟩ := ho'.ex
  exact PEw (pe_chain h1 h1' ha hb hc hm) (lf_chain h2 h2')
theorem dpt_chain {op op' : CmpOp} (ho : DOp X (compareOp op) r) (ho' : DOp X (compareOp op') r') (ha : DPE X Γ a ta) (hb : DPE X Γ b tb) (hc : DPE X Γ c tc)
    (hm : lastMarks [op, op'] [b, c] = false := by with_unfolding_all rfl) : DPT X Γ (.Compare a [op, op'] [b, c] pos) (dTest (dChain r r' ta tb tc)) := by
  obtain ⟨q, h1, h2⟩ := ho.ex
  obtain ⟨q', h1', h2'⟩ := ho'.ex
  refine PTw (pt_chain h1 h1' ha hb hc hm) fun σ H Q h => ?_
  exact lf_chain h2 h2' σ H _ (lf_test σ H Q h)
theorem dpt_val (h : DPE X Γ a ta) (he : ∀ whole, isTrue a X.env whole = (do let v ← whole; standAt a.pos; holding [v] (truthy v)) := by intro _; rfl) : DPT X Γ a (dTest ta) :=
  PTw (pt_val h he) fun σ H Q h => lf_test σ H Q h
theorem dpw_and1 (ha : DPT X Γ a tA) : DPW X Γ (.BoolOp .And [a] pos) tA := pw_and1 ha
theorem dpw_or1 (ha : DPT X Γ a tA) : DPW X Γ (.BoolOp .Or [a] pos) tA := pw_or1 ha
theorem DPW.pt {e : Expr} (h : DPW X Γ e tA) : DPT X Γ e tA := PW.pt h
theorem dpw_and (ha : DPT X Γ a tA) (hb : DPW X Γ (.BoolOp .And (b :: rest) pos) tB') : DPW X Γ (.BoolOp .And (a :: b :: rest) pos) (dAnd tA tB') :=
  PWw (pw_and ha hb) fun σ H Q ⟨F, δ, S, P, sm, rs, h, c⟩ => ⟨F, δ, S, _, sm, rs, h, fun k S1 h1 H1 g1 => by
    cases k with
    | false => exact c _ _ h1 _ g1
    | true => exact ⟨F, δ, S1, P, g1.sim, rs.mono g1.same, h1, c.mono g1⟩⟩
theorem dpw_or (ha : DPT X Γ a tA) (hb : DPW X Γ (.BoolOp .Or (b :: rest) pos) tB') : DPW X Γ (.BoolOp .Or (a :: b :: rest) pos) (dOr tA tB') :=
  PWw (pw_or ha hb) fun σ H Q ⟨F, δ, S, P, sm, rs, h, c⟩ => ⟨F, δ, S, _, sm, rs, h, fun k S1 h1 H1 g1 => by
    cases k with
    | true => exact c _ _ h1 _ g1
    | false => exact ⟨F, δ, S1, P, g1.sim, rs.mono g1.same, h1, c.mono g1⟩⟩
theorem dpt_not (ha : DPT X Γ a tA) : DPT X Γ (.UnaryOp .Not a pos) (dNot tA) :=
  PTw (pt_not ha) fun σ H Q ⟨F, δ, S, P, sm, rs, h, c⟩ => ⟨F, δ, S, _, sm, rs, h, fun k S1 h1 H1 g1 => c _ _ h1 _ g1⟩
theorem dpe_one {op} (h : DPE X Γ a ta) : DPE X Γ (.BoolOp op [a] pos) ta := pe_one h
theorem dpe_and (ha : DPE X Γ a ta) (hb : DPE X Γ (.BoolOp .And (b :: rest) pos) tb) : DPE X Γ (.BoolOp .And (a :: b :: rest) pos) (dAndV ta tb) :=
  PEw (pe_and ha hb) fun σ H Q ⟨F, δ, S, P, sm, rs, h, c⟩ => ⟨F, δ, S, _, sm, rs, h, fun d S1 h1 x H1 g1 rx => by
    cases rx <;> first | exact h1.elim | skip
    rename_i k
    refine ⟨k, rfl, ?_⟩
    cases k with
    | false => exact (c.mono g1).use g1.sim (.bl false) h1
    | true => exact ⟨F, δ, S1, P, g1.sim, rs.mono g1.same, h1, c.mono g1⟩⟩
theorem dpe_or (ha : DPE X Γ a ta) (hb : DPE X Γ (.BoolOp .Or (b :: rest) pos) tb) : DPE X Γ (.BoolOp .Or (a :: b :: rest) pos) (dOrV ta tb) :=
  PEw (pe_or ha hb) fun σ H Q ⟨F, δ, S, P, sm, rs, h, c⟩ => ⟨F, δ, S, _, sm, rs, h, fun d S1 h1 x H1 g1 rx => by
    cases rx <;> first | exact h1.elim | skip
    rename_i k
    refine ⟨k, rfl, ?_⟩
    cases k with
    | true => exact (c.mono g1).use g1.sim (.bl true) h1
    | false => exact ⟨F, δ, S1, P, g1.sim, rs.mono g1.same, h1, c.mono g1⟩⟩
theorem dpe_not (ha : DPE X Γ a ta) : DPE X Γ (.UnaryOp .Not a pos) (dNotV ta) :=
  PEw (pe_not ha) fun σ H Q ⟨F, δ, S, P, sm, rs, h, c⟩ => ⟨F, δ, S, _, sm, rs, h, fun d S1 h1 x H1 g1 rx => by
    cases rx <;> first | exact h1.elim | skip
    exact ⟨_, rfl, (c.mono g1).use g1.sim (.bl _) h1⟩⟩
theorem dpe_ifExp (hc : DPT X Γ c tA) (ha : DPE X Γ a ta) (hb : DPE X Γ b tb) : DPE X Γ (.IfExp c a b pos) (dIfE tA ta tb) :=
  PEw (pe_ifExp hc ha hb) fun σ H Q ⟨F, δ, S, P, sm, rs, h, c⟩ => ⟨F, δ, S, _, sm, rs, h, fun k S1 h1 H1 g1 => by
    cases k with
    | true => exact ⟨F, δ, S1, P, g1.sim, rs.mono g1.same, h1, c.mono g1⟩
    | false => exact ⟨F, δ, S1, P, g1.sim, rs.mono g1.same, h1, c.mono g1⟩⟩
theorem dpa_nil : DPA X Γ [] dNil := PAw pa_nil fun σ H Q ⟨F, δ, S, P, sm, rs, h, c⟩ => c _ _ h _ _ (Go.refl sm) .nil
theorem dpa_cons {e : Expr} {te : DTE} (ha : DPE X Γ e te) (hr : DPA X Γ es t) (hs : starEach (e :: es) X.env = (false, eval e X.env) :: starEach es X.env := by rfl) : DPA X Γ (e :: es) (dCons te t) :=
  PAw (pa_cons ha hr hs) fun σ H Q ⟨F, δ, S, P, sm, rs, h, c⟩ => ⟨F, δ, S, _, sm, rs, h, fun d S1 h1 x H1 g1 rx =>
    ⟨F, δ, S1, _, g1.sim, rs.mono g1.same, h1, fun ds S2 h2 xs H2 g2 rxs => c _ _ h2 _ _ (g1.trans g2) (.cons (rx.mono g2.same) rxs)⟩⟩
theorem fz_newT {K : PySem.W.Frag} {Γ : KG K} {F : Addr → Bool} {S : Sto} {H : Hp} {p : Addr} {xs : List V} {ds : List D} {o : Obj} (sm : Sim Γ F S H) (hp : H p = none) (hd : o.dict = none) (r : RelL K (fz F S H) xs ds) : Rel K (fz F S (upd H p (.frz o (.tup xs)))) (.ref p) (.tup ds) :=
  .tup (.inl ⟨o, fz_new sm hp, hd⟩) (r.mono (same_new hp))
theorem fz_newL {K : PySem.W.Frag} {Γ : KG K} {F : Addr → Bool} {S : Sto} {H : Hp} {p : Addr} {xs : List V} {ds : List D} (sm : Sim Γ F S H) (hp : H p = none) (r : RelL K (fz F S H) xs ds) : Rel K (fz F S (upd H p (.lst xs))) (.ref p) (.lst ds) :=
  .lst (fz_new sm hp) (r.mono (same_new hp))
theorem dpe_tup {x1} (h : DPA X Γ es t) : DPE X Γ (.Tuple es x1 pos) (dTup t) :=
  PEw (pe_tupX h) fun σ H Q ⟨F, δ, S, P, sm, rs, h, c⟩ => ⟨F, δ, S, _, sm, rs, h, fun ds S1 ⟨hn, h1⟩ xs H1 g1 rx => ⟨by rw [rx.length, sizeLine_eq]; omega, fun p o hp hd =>
    (c.mono g1).new g1.sim hp (fz_newT g1.sim hp hd rx) h1⟩⟩
theorem dpe_lst (h : DPA X Γ es t) : DPE X Γ (.List es pos) (dLst t) :=
  PEw (pe_lst h) fun σ H Q ⟨F, δ, S, P, sm, rs, h, c⟩ => ⟨F, δ, S, _, sm, rs, h, fun ds S1 ⟨hn, h1⟩ xs H1 g1 rx => ⟨by rw [rx.length, sizeLine_eq]; omega, fun p hp =>
    (c.mono g1).new g1.sim hp (fz_newL g1.sim hp rx) h1⟩⟩
theorem dpe_lstM (h : DPA X Γ es t) : DPE X Γ (.List es pos) (dLstM t) :=
  PEw (pe_lst h) fun σ H Q ⟨F, δ, S, P, sm, rs, h, c⟩ => ⟨F, δ, S, _, sm, rs, h, fun ds S1 ⟨hn, h1⟩ xs H1 g1 rx => ⟨by rw [rx.length, sizeLine_eq]; omega, fun p hp =>
    (c.mono g1).newM (u := .lst ds) g1.sim hp ⟨xs, rfl, rx⟩ (.ref p) (h1 p (g1.sim.none hp).2)⟩⟩
theorem lf_call {K : PySem.W.Frag} {Γ : KG K} {q : List V → Hp → VK → Prop} {r : List D → Sto → DK → Prop} (hl : LRL K q r) (σ : St) (H : Hp) (Q : VK) (h : lf Γ (fun δ S Q => t δ S fun ds S1 => r ds S1 Q) σ H Q) : tCB q (lfA Γ t) σ H Q := by
  obtain ⟨F, δ, S, P, sm, rs, h, c⟩ := h
  exact ⟨F, δ, S, _, sm, rs, h, fun ds S1 h1 xs H1 g1 rx => hl xs ds F S1 H1 P Q g1.sim rx h1 (c.mono g1)⟩
end
abbrev dCB (r : List D → Sto → DK → Prop) (t : DTA) : DTE := fun δ S Q => t δ S fun ds S1 => r ds S1 Q
section
variable {X : Cx} {Γ : KG X.K} {a b c e : Expr} {ta tb tc te : DTE} {tA tB' : DTT} {t : DTA} {pos p : Pos} {es rest : List Expr} {r r' : D → D → Sto → DK → Prop} {x : Str} {id T : String}
/-- a built-in function by its name -/
theorem dpe_callB {r : List D → Sto → DK → Prop} (hc : DCall X (.builtin id) r) (hg : Gl X x) (hm : X.mg x = none) (hv : bootBuiltins x = some (.builtin id)) (ha : DPA X Γ (e :: es) t) (hn : x ≠ "__name__" := by decide) (hdb : (x == ("__debug__" : Str)) = false := by decide)
    (he : starEach (e :: es) X.env = (false, eval e X.env) :: starEach es X.env := by rfl) (hpl : (backTo pos (starEach es X.env)).any (·.1) = false := by rfl) : DPE X Γ (.Call (.Name x p) (e :: es) [] pos) (dCB r t) := by
  obtain ⟨q, h1, h2⟩ := hc.ex
  exact PEw (pe_callB h1 hg hm hv ha hn hdb he hpl) (lf_call h2)
theorem dpe_callTy {r : List D → Sto → DK → Prop} (hc : DCall X (.type T) r) (hg : Gl X x) (hm : X.mg x = none) (hv : bootBuiltins x = some (.type T)) (ha : DPA X Γ (e :: es) t) (hn : x ≠ "__name__" := by decide) (hdb : (x == ("__debug__" : Str)) = false := by decide)
    (he : starEach (e :: es) X.env = (false, eval e X.env) :: starEach es X.env := by rfl) (hpl : (backTo pos (starEach es X.env)).any (·.1) = false := by rfl) : DPE X Γ (.Call (.Name x p) (e :: es) [] pos) (dCB r t) := by
  obtain ⟨q, h1, h2⟩ := hc.ex
  exact PEw (pe_callTy h1 hg hm hv ha hn hdb he hpl) (lf_call h2)
/-- a subscript -/
theorem dpe_ix (ho : DIx X r) (ha : DPE X Γ a ta) (hb : DPE X Γ b tb) (hs : PlainIx b := by exact fun _ _ => rfl) : DPE X Γ (.Subscript a b pos) (dOp r ta tb) := by
  obtain ⟨q, h1, h2⟩ := ho.ex
  exact PEw (pe_ix h1 ha hb hs) (lf_op h2)
end
/-! ### slices -/
abbrev DTO := DSt → Sto → (Option Int → Sto → Prop) → Prop
def CtO {K : PySem.W.Frag} (Γ : KG K) (F : Addr → Bool) (S : Sto) (H : Hp) (P : Option Int → Sto → Prop) (Q : Option Int → Hp → Prop) : Prop := ∀ b S', P b S' → ∀ H', Go Γ F S H S' H' → Q b H'
def lfO {K : PySem.W.Frag} (Γ : KG K) (t : DTO) : TO := fun σ H Q => ∃ F δ S P, Sim Γ F S H ∧ RelS K (fz F S H) σ δ ∧ t δ S P ∧ CtO Γ F S H P Q
def DPO (X : Cx) (Γ : KG X.K) (e : Option Expr) (t : DTO) : Prop := PO X e (lfO Γ t)
abbrev dNoPart : DTO := fun _ S Q => Q none S
abbrev dPart (t : DTE) : DTO := fun δ S Q => t δ S fun x S1 => match x with | .int i => Q (some i) S1 | _ => False
abbrev dSl (r : D → Option Int → Option Int → Sto → DK → Prop) (te : DTE) (tl th : DTO) : DTE := fun δ S Q => te δ S fun x S1 => tl δ S1 fun l S2 => th δ S2 fun u S3 => r x l u S3 Q
structure DSlR (X : Cx) (r' : D → Option Int → Option Int → Sto → DK → Prop) : Prop where
  ex : ∃ r, SlR X r ∧ ∀ {Γ : KG X.K} x dx lo hi F S H P Q, Sim Γ F S H → Rel X.K (fz F S H) x dx → r' dx lo hi S P → Ct Γ F S H P Q → r x lo hi H Q
theorem DSlR.or {X : Cx} {r s : D → Option Int → Option Int → Sto → DK → Prop} (h : DSlR X r) (g : DSlR X s) : DSlR X (fun x l u S Q => r x l u S Q ∨ s x l u S Q) := by
  obtain ⟨a, h1, h2⟩ := h.ex
  obtain ⟨b, g1, g2⟩ := g.ex
  exact ⟨_, h1.or g1, fun x dx lo hi F S H P Q sm rx q c => q.elim (fun q => .inl (h2 x dx lo hi F S H P Q sm rx q c)) fun q => .inr (g2 x dx lo hi F S H P Q sm rx q c)⟩
theorem DSlR.imp {X : Cx} {r s : D → Option Int → Option Int → Sto → DK → Prop} (h : DSlR X r) (w : ∀ x l u S Q, s x l u S Q → r x l u S Q) : DSlR X s := by
  obtain ⟨a, h1, h2⟩ := h.ex
  exact ⟨_, h1, fun x dx lo hi F S H P Q sm rx q c => h2 x dx lo hi F S H P Q sm rx (w _ _ _ _ _ q) c⟩
section
variable {X : Cx} {Γ : KG X.K} {a b c e : Expr} {ta tb tc te : DTE} {tl th : DTO} {pos p2 : Pos} {lo hi : Option Expr}
theorem dpo_none : DPO X Γ none dNoPart := ⟨fun pins s σ H Q I ⟨F, δ, S, P, sm, rs, h, c⟩ => po_none.run pins s σ H Q I (c _ _ h _ (Go.refl sm))⟩
theorem dpo_some (h : DPE X Γ e te) : DPO X Γ (some e) (dPart te) := ⟨fun pins s σ H Q I ⟨F, δ, S, P, sm, rs, hh, c⟩ => (po_some h).run pins s σ H Q I (by
  refine ⟨F, δ, S, _, sm, rs, hh, fun d S1 h1 x H1 g1 rx => ?_⟩
  cases rx <;> first | exact h1.elim | skip
  exact ⟨_, rfl, c _ _ h1 _ g1⟩)⟩
theorem dpe_slice {r : D → Option Int → Option Int → Sto → DK → Prop} (hr : DSlR X r) (he : DPE X Γ e te) (hl : DPO X Γ lo tl) (hu : DPO X Γ hi th) : DPE X Γ (.Subscript e (.Slice lo hi none p2) pos) (dSl r te tl th) := by
  obtain ⟨q, h1, h2⟩ := hr.ex
  refine PEw (pe_slice h1 he hl hu) fun σ H Q ⟨F, δ, S, P, sm, rs, h, c⟩ => ?_
  refine ⟨F, δ, S, _, sm, rs, h, fun dx S1 k1 x H1 g1 rx => ?_⟩
  refine ⟨F, δ, S1, _, g1.sim, rs.mono g1.same, k1, fun l S2 k2 H2 g2 => ?_⟩
  refine ⟨F, δ, S2, _, g2.sim, rs.mono (g1.same.trans g2.same), k2, fun u S3 k3 H3 g3 => ?_⟩
  exact h2 x dx l u F S3 H3 P Q g3.sim (rx.mono (g2.same.trans g3.same)) k3 (c.mono ((g1.trans g2).trans g3))
end
end L3

set_option Elab.async false
set_option maxRecDepth 100000
set_option linter.all false
set_option maxHeartbeats 2000000
namespace L3
open PySem L2
/-! ### operations on data -/
mutual
def toP : D → PyData
  | .non => .none
  | .bl b => .bool b
  | .int i => .int i
  | .str x => .str x
  | .tup ds => .tuple (toPs ds)
  | .lst ds => .list (toPs ds)
  | .ro ds => .list (toPs ds)
  | .key ds => .tuple (toPs ds)
  | .dct _ _ => .none
  | .ref _ => .none
  | .ty _ => .none
def toPs : List D → List PyData
  | [] => []
  | d :: ds => toP d :: toPs ds
end
mutual
/-- data that == may be asked of -/
def okE : D → Bool
  | .non => true
  | .bl _ => true
  | .int _ => true
  | .str x => PyData.canLay0 (.str x)
  | .tup ds => okEs ds
  | .lst ds => okEs ds
  | .ro ds => okEs ds
  | .key ds => okEs ds
  | .dct _ _ => false
  | .ref _ => false
  | .ty _ => false
def okEs : List D → Bool
  | [] => true
  | d :: ds => okE d && okEs ds
end
mutual
def dep : D → Nat
  | .tup ds => deps ds + 1
  | .lst ds => deps ds + 1
  | .ro ds => deps ds + 1
  | .key ds => deps ds + 1
  | _ => 0
def deps : List D → Nat
  | [] => 0
  | d :: ds => max (dep d) (deps ds)
end
def eqv (x y : D) : Bool := PyData.eqv (toP x) (toP y)
mutual
theorem okE_lay : ∀ d : D, okE d = true → (toP d).canLay0 = true
  | .non, _ => by simp only [toP, PyData.canLay0]
  | .bl _, _ => by simp only [toP, PyData.canLay0]
  | .int _, _ => by simp only [toP, PyData.canLay0]
  | .str x, h => by simpa only [okE, toP] using h
  | .tup ds, h => by simp only [okE] at h; simp only [toP, PyData.canLay0]; exact okEs_lay ds h
  | .lst ds, h => by simp only [okE] at h; simp only [toP, PyData.canLay0]; exact okEs_lay ds h
  | .ro ds, h => by simp only [okE] at h; simp only [toP, PyData.canLay0]; exact okEs_lay ds h
  | .key ds, h => by simp only [okE] at h; simp only [toP, PyData.canLay0]; exact okEs_lay ds h
  | .dct _ _, h => by simp [okE] at h
  | .ref _, h => by simp [okE] at h
  | .ty _, h => by simp [okE] at h
theorem okEs_lay : ∀ ds : List D, okEs ds = true → PyData.canLayAll0 (toPs ds) = true
  | [], _ => by simp only [toPs, PyData.canLayAll0]
  | d :: ds, h => by
    simp only [okEs, Bool.and_eq_true] at h
    simp only [toPs, PyData.canLayAll0, okE_lay d h.1, okEs_lay ds h.2, Bool.and_self]
end
mutual
theorem dep_toP : ∀ d : D, (toP d).depth = dep d
  | .non => by simp only [toP, PyData.depth, dep]
  | .bl _ => by simp only [toP, PyData.depth, dep]
  | .int _ => by simp only [toP, PyData.depth, dep]
  | .str x => by simp only [toP, PyData.depth, dep]
  | .tup ds => by simp only [toP, PyData.depth, dep, dep_toPs ds]
  | .lst ds => by simp only [toP, PyData.depth, dep, dep_toPs ds]
  | .ro ds => by simp only [toP, PyData.depth, dep, dep_toPs ds]
  | .key ds => by simp only [toP, PyData.depth, dep, dep_toPs ds]
  | .dct _ _ => by simp only [toP, PyData.depth, dep]
  | .ref _ => by simp only [toP, PyData.depth, dep]
  | .ty _ => by simp only [toP, PyData.depth, dep]
theorem dep_toPs : ∀ ds : List D, PyData.depthAll (toPs ds) = deps ds
  | [] => by simp only [toPs, PyData.depthAll, deps]
  | d :: ds => by simp only [toPs, PyData.depthAll, deps, dep_toP d, dep_toPs ds]
end
theorem shaped_of {d : D} (h : okE d = true) (z : dep d ≤ 64) : SeqAt.shaped (toP d) = true := by
  unfold SeqAt.shaped
  rw [okE_lay d h, dep_toP]
  simpa using z
section
variable {K : PySem.W.Frag} {Γ : KG K} {G : Hp}
mutual
theorem Rel.dp : ∀ {v : V} {d : D}, Rel K G v d → okE d = true → Dp K G v (toP d)
  | _, _, .non, _ => by simp only [toP]; exact .non
  | _, _, .bl b, _ => by simp only [toP]; exact .bl b
  | _, _, .int i, _ => by simp only [toP]; exact .int i
  | _, _, .str x, _ => by simp only [toP]; exact .str x
  | _, _, .dct _ _, h => by simp [okE] at h
  | _, _, .ref _, h => by simp [okE] at h
  | _, _, .ty _, h => by simp [okE] at h
  | _, _, .tup h r, k => by simp only [toP]; exact .tup h.t (RelL.dp r (by simpa only [okE] using k))
  | _, _, .lst h r, k => by simp only [toP]; exact .lst (.of h) (RelL.dp r (by simpa only [okE] using k))
  | _, _, .ro h r, k => by simp only [toP]; exact .lst h (RelL.dp r (by simpa only [okE] using k))
  | _, _, .key h r, k => by simp only [toP]; exact .tup (.of h) (RelL.dp r (by simpa only [okE] using k))
theorem RelL.dp : ∀ {vs : List V} {ds : List D}, RelL K G vs ds → okEs ds = true → DpAll K G vs (toPs ds)
  | _, _, .nil, _ => by simp only [toPs]; exact .nil
  | _, _, .cons r t, k => by
    simp only [okEs, Bool.and_eq_true] at k
    simp only [toPs]
    exact .cons (Rel.dp r k.1) (RelL.dp t k.2)
end
end
/-- == by data -/
def vEq : D → D → Sto → DK → Prop
  | .int i, .int j, S, Q => Q (.bl (decide (i = j))) S
  | .str i, .str j, S, Q => Q (.bl (decide (i = j))) S
  | .bl i, .bl j, S, Q => Q (.bl (decide (i = j))) S
  | x, y, S, Q => okE x = true ∧ okE y = true ∧ dep x ≤ 64 ∧ dep y ≤ 64 ∧ Q (.bl (eqv x y)) S
def vNe : D → D → Sto → DK → Prop
  | .int i, .int j, S, Q => Q (.bl (!decide (i = j))) S
  | .str i, .str j, S, Q => Q (.bl (!decide (i = j))) S
  | .bl i, .bl j, S, Q => Q (.bl (!decide (i = j))) S
  | x, y, S, Q => okE x = true ∧ okE y = true ∧ dep x ≤ 64 ∧ dep y ≤ 64 ∧ Q (.bl (!eqv x y)) S
def rEqA (K : PySem.W.Frag) : R2 := fun x y H Q => rEq x y H Q ∨ rEqD K x y H Q
def rNeA (K : PySem.W.Frag) : R2 := fun x y H Q => rNe x y H Q ∨ rNeD K x y H Q
section
variable {X : Cx} {Γ : KG X.K}
theorem dop_eq (hu : X.A.units + 64 < cLine) : DOp X (compareOp .Eq) vEq := by
  refine ⟨_, op_eq.or (op_eqD hu), fun x y dx dy F S H P Q sm rx ry h c => ?_⟩
  have fin : okE dx = true ∧ okE dy = true ∧ dep dx ≤ 64 ∧ dep dy ≤ 64 ∧ P (.bl (eqv dx dy)) S → rEq x y H Q ∨ rEqD X.K x y H Q := fun ⟨h1, h2, h3, h4, h5⟩ =>
    .inr ⟨_, _, (rx.mono (fz_same F S H)).dp h1, (ry.mono (fz_same F S H)).dp h2, shaped_of h1 h3, shaped_of h2 h4, c.use sm (.bl _) h5⟩
  cases dx <;> cases dy <;> first
    | exact fin h
    | (cases rx; cases ry
       refine .inl ⟨rfl, ?_⟩
       refine c.use sm ?_ h
       simp only [reduceCtorEq, V.int.injEq, V.str.injEq, V.bl.injEq]
       exact .bl _)
theorem dop_ne (hu : X.A.units + 64 < cLine) : DOp X (compareOp .NotEq) vNe := by
  refine ⟨_, op_ne.or (op_neD hu), fun x y dx dy F S H P Q sm rx ry h c => ?_⟩
  have fin : okE dx = true ∧ okE dy = true ∧ dep dx ≤ 64 ∧ dep dy ≤ 64 ∧ P (.bl (!eqv dx dy)) S → rNe x y H Q ∨ rNeD X.K x y H Q := fun ⟨h1, h2, h3, h4, h5⟩ =>
    .inr ⟨_, _, (rx.mono (fz_same F S H)).dp h1, (ry.mono (fz_same F S H)).dp h2, shaped_of h1 h3, shaped_of h2 h4, c.use sm (.bl _) h5⟩
  cases dx <;> cases dy <;> first
    | exact fin h
    | (cases rx; cases ry
       refine .inl ⟨rfl, ?_⟩
       refine c.use sm ?_ h
       simp only [reduceCtorEq, V.int.injEq, V.str.injEq, V.bl.injEq]
       exact .bl _)
end
/-! ints -/
abbrev vII (C : Int → Int → Prop) (g : Int → Int → D) : D → D → Sto → DK → Prop
  | .int i, .int j, S, Q => C i j ∧ Q (g i j) S
  | _, _, _, _ => False
abbrev vII0 (g : Int → Int → D) : D → D → Sto → DK → Prop
  | .int i, .int j, S, Q => Q (g i j) S
  | _, _, _, _ => False
section
variable {X : Cx} {Γ : KG X.K} {f : Value → Value → Sem Value}
theorem dop_II {C : Int → Int → Prop} {g : Int → Int → V} {g' : Int → Int → D} (h : OpR X f (rI C g)) (hr : ∀ G i j, Rel X.K G (g i j) (g' i j)) : DOp X f (vII C g') :=
  ⟨_, h, fun x y dx dy F S H P Q sm rx ry q c => by
    cases dx <;> first | exact q.elim | skip
    cases dy <;> first | exact q.elim | skip
    cases rx; cases ry
    exact ⟨_, _, rfl, rfl, q.1, c.use sm (hr _ _ _) q.2⟩⟩
theorem dop_II0 {g : Int → Int → V} {g' : Int → Int → D} (h : OpR X f (rI0 g)) (hr : ∀ G i j, Rel X.K G (g i j) (g' i j)) : DOp X f (vII0 g') :=
  ⟨_, h, fun x y dx dy F S H P Q sm rx ry q c => by
    cases dx <;> first | exact q.elim | skip
    cases dy <;> first | exact q.elim | skip
    cases rx; cases ry
    exact ⟨_, _, rfl, rfl, c.use sm (hr _ _ _) q⟩⟩
end
def vLt : D → D → Sto → DK → Prop := vII0 fun i j => .bl (decide (i < j))
def vLe : D → D → Sto → DK → Prop := vII0 fun i j => .bl (decide (i ≤ j))
def vGt : D → D → Sto → DK → Prop := vII0 fun i j => .bl (decide (j < i))
def vGe : D → D → Sto → DK → Prop := vII0 fun i j => .bl (decide (j ≤ i))
def vSub : D → D → Sto → DK → Prop := vII0 fun i j => .int (i - j)
def vMod : D → D → Sto → DK → Prop := vII (fun _ j => 0 < j) fun i j => .int (i % j)
def vDiv : D → D → Sto → DK → Prop := vII CDiv fun i j => .int (i / j)
def vPow : D → D → Sto → DK → Prop := vII CPow fun i j => .int (i ^ j.toNat)
def vShl : D → D → Sto → DK → Prop := vII CPow fun i j => .int (i * 2 ^ j.toNat)
section
variable {X : Cx} {Γ : KG X.K}
theorem dop_lt : DOp X (compareOp .Lt) vLt := dop_II0 op_lt fun _ _ _ => .bl _
theorem dop_le : DOp X (compareOp .LtE) vLe := dop_II0 op_le fun _ _ _ => .bl _
theorem dop_gt : DOp X (compareOp .Gt) vGt := dop_II0 op_gt fun _ _ _ => .bl _
theorem dop_ge : DOp X (compareOp .GtE) vGe := dop_II0 op_ge fun _ _ _ => .bl _
theorem dop_sub : DOp X (binaryOp .Sub) vSub := dop_II0 op_sub fun _ _ _ => .int _
theorem dop_mod : DOp X (binaryOp .Mod) vMod := dop_II op_mod fun _ _ _ => .int _
theorem dop_div : DOp X (binaryOp .FloorDiv) vDiv := dop_II op_fdiv fun _ _ _ => .int _
theorem dop_pow : DOp X (binaryOp .Pow) vPow := dop_II op_pow fun _ _ _ => .int _
theorem dop_shl : DOp X (binaryOp .LShift) vShl := dop_II op_shl fun _ _ _ => .int _
end
/-- a product: of ints (one small, or together below a million bits), of a tuple and a number -/
def vMul : D → D → Sto → DK → Prop
  | .int i, .int j, S, Q => (CMul i j ∨ CMulW i j) ∧ Q (.int (i * j)) S
  | .tup ds, .int k, S, Q => -1000 ≤ k ∧ k ≤ 1000 ∧ ds.length ≤ 1000 ∧ Q (.tup (List.replicate k.toNat ds).flatten) S
  | .str z, .int k, S, Q => -(2 ^ 40) ≤ k ∧ k ≤ 2 ^ 20 ∧ z.length ≤ 2 ^ 20 ∧ z.length * k.toNat ≤ 1000000 ∧ Q (.str (repS z k)) S
  | .lst ds, .int k, S, Q => -(2 ^ 63) ≤ k ∧ k < 2 ^ 63 ∧ ds.length * k.toNat ≤ sizeLine ∧ Q (.lst (List.replicate k.toNat ds).flatten) S
  | _, _, _, _ => False
theorem RelL.rep {K : PySem.W.Frag} {G : Hp} {xs : List V} {ds : List D} (r : RelL K G xs ds) : ∀ n : Nat, RelL K G (List.replicate n xs).flatten (List.replicate n ds).flatten
  | 0 => .nil
  | n + 1 => by
    rw [List.replicate_succ, List.replicate_succ, List.flatten_cons, List.flatten_cons]
    exact r.append (RelL.rep r n)
section
variable {X : Cx} {Γ : KG X.K}
theorem dop_mul : DOp X (binaryOp .Mult) vMul := by
  refine ⟨_, (op_mul.or op_mulW).or ((op_repX.or op_rep).or op_mulS), fun x y dx dy F S H P Q sm rx ry q c => ?_⟩
  cases dx <;> first | exact (q : False).elim | skip
  all_goals cases dy <;> first | exact (q : False).elim | skip
  · cases rx; cases ry
    obtain ⟨h1, h2⟩ := q
    rcases h1 with h1 | h1
    · exact .inl (.inl ⟨_, _, rfl, rfl, h1, c.use sm (.int _) h2⟩)
    · exact .inl (.inr ⟨_, _, rfl, rfl, h1, c.use sm (.int _) h2⟩)
  · cases rx; cases ry
    obtain ⟨h1, h2, h3, h4, h5⟩ := q
    exact .inr (.inr ⟨_, _, rfl, rfl, h1, h2, h3, h4, c.use sm (.str _) h5⟩)
  · cases ry
    cases rx with
    | tup hs rl =>
    obtain ⟨h2, h3, h4, h5⟩ := q
    refine .inr (.inl (.inl ⟨_, _, _, rfl, rfl, sqT_mono (fz_same F S H) hs, h2, h3, by rw [rl.length]; exact h4, fun z => ?_, fun z p o hp hd => c.new sm hp (fz_newT sm hp hd (rl.rep _)) h5⟩))
    rename_i ds k a xs
    refine c.use sm (d := .tup (List.replicate k.toNat ds).flatten) ?_ h5
    have e : (List.replicate k.toNat ds).flatten = ds := by
      rcases z with z | z
      · subst z
        cases rl
        simp
      · subst z
        simp
    rw [e]
    exact .tup hs rl
  · cases ry
    cases rx with
    | lst hs rl =>
    obtain ⟨h2, h3, h4, h5⟩ := q
    exact .inr (.inl (.inr ⟨_, _, _, rfl, rfl, fz_same F S H _ _ hs, h2, h3, by rw [rl.length]; exact h4, fun p hp => c.new sm hp (fz_newL sm hp (rl.rep _)) h5⟩))
end
/-- a sum -/
def vAdd : D → D → Sto → DK → Prop
  | .int i, .int j, S, Q => Q (.int (i + j)) S
  | .str a, .str b, S, Q => a.length + b.length ≤ sizeLine ∧ Q (.str (a ++ b)) S
  | .tup a, .tup b, S, Q => a.length + b.length ≤ sizeLine ∧ Q (.tup (a ++ b)) S
  | .lst a, .lst b, S, Q => a.length + b.length ≤ sizeLine ∧ Q (.lst (a ++ b)) S
  | .ref a, .lst b, S, Q => match S a with
    | some (.lst ds) => ds.length + b.length ≤ sizeLine ∧ Q (.lst (ds ++ b)) S
    | _ => False
  | _, _, _, _ => False
theorem Sim.lst {K : PySem.W.Frag} {Γ : KG K} {F : Addr → Bool} {S : Sto} {H : Hp} {a : Addr} {ds : List D} (sm : Sim Γ F S H) (h : S a = some (.lst ds)) : ∃ vs, H a = some (.lst vs) ∧ RelL K (fz F S H) vs ds := (sm.at_ a _ h).2
section
variable {X : Cx} {Γ : KG X.K}
theorem dop_add : DOp X (binaryOp .Add) vAdd := by
  refine ⟨_, (op_add.or op_add_str).or (op_catX.or op_cat), fun x y dx dy F S H P Q sm rx ry q c => ?_⟩
  cases dx <;> first | exact (q : False).elim | skip
  all_goals cases dy <;> first | exact (q : False).elim | skip
  · cases rx; cases ry
    exact .inl (.inl ⟨_, _, rfl, rfl, c.use sm (.int _) q⟩)
  · cases rx; cases ry
    exact .inl (.inr ⟨_, _, rfl, rfl, q.1, c.use sm (.str _) q.2⟩)
  · cases rx with
    | tup hs rl =>
    cases ry with
    | tup hs2 rl2 =>
    obtain ⟨h1, h2⟩ := q
    refine .inr (.inl ⟨_, _, _, _, rfl, rfl, sqT_mono (fz_same F S H) hs, sqT_mono (fz_same F S H) hs2, by rw [rl.length, rl2.length]; exact h1, fun z => ?_, fun _ z => ?_, fun _ _ p o hp hd => ?_⟩)
    · subst z
      cases rl
      exact c.use sm (.tup hs2 rl2) h2
    · subst z
      cases rl2
      exact c.use sm (.tup hs (by rw [List.append_nil]; exact rl)) h2
    · exact c.new sm hp (fz_newT sm hp hd (rl.append rl2)) h2
  · cases rx with
    | lst hs rl =>
    cases ry with
    | lst hs2 rl2 =>
    obtain ⟨h1, h2⟩ := q
    exact .inr (.inr ⟨_, _, _, _, rfl, rfl, fz_same F S H _ _ hs, fz_same F S H _ _ hs2, by rw [rl.length, rl2.length]; exact h1, fun p hp => c.new sm hp (fz_newL sm hp (rl.append rl2)) h2⟩)
  · cases rx
    cases ry with
    | lst hs2 rl2 =>
    rename_i a ds _ _
    simp only [vAdd] at q
    split at q
    · rename_i ds' e
      obtain ⟨vs, e1, r1⟩ := sm.lst e
      obtain ⟨h1, h2⟩ := q
      exact .inr (.inr ⟨_, _, _, _, rfl, rfl, e1, fz_same F S H _ _ hs2, by rw [r1.length, rl2.length]; exact h1, fun p hp => c.new sm hp (fz_newL sm hp (r1.append rl2)) h2⟩)
    · exact q.elim
end
/-! is None -/
def isN : D → Bool
  | .non => true
  | _ => false
theorem Rel.isN {K : PySem.W.Frag} {G : Hp} {v : V} {d : D} (r : Rel K G v d) : decide (v = .non) = isN d := by
  cases r <;> simp [L3.isN]
def vIs : D → D → Sto → DK → Prop
  | x, .non, S, Q => Q (.bl (isN x)) S
  | _, _, _, _ => False
def vIsNot : D → D → Sto → DK → Prop
  | x, .non, S, Q => Q (.bl (!isN x)) S
  | _, _, _, _ => False
section
variable {X : Cx} {Γ : KG X.K}
theorem dop_is : DOp X (compareOp .Is) vIs := by
  refine ⟨_, op_isN, fun x y dx dy F S H P Q sm rx ry q c => ?_⟩
  cases ry <;> first | exact (q : False).elim | skip
  exact ⟨rfl, c.use sm (d := .bl (isN dx)) (by rw [rx.isN]; exact .bl _) q⟩
theorem dop_isnot : DOp X (compareOp .IsNot) vIsNot := by
  refine ⟨_, op_notN, fun x y dx dy F S H P Q sm rx ry q c => ?_⟩
  cases ry <;> first | exact (q : False).elim | skip
  exact ⟨rfl, c.use sm (d := .bl (!isN dx)) (by rw [rx.isN]; exact .bl _) q⟩
def vNeg : D → Sto → DK → Prop
  | .int i, S, Q => Q (.int (-i)) S
  | _, _, _ => False
theorem dun_neg : DUn X (unaryOp .USub) vNeg := by
  refine ⟨_, un_neg, fun x dx F S H P Q sm rx q c => ?_⟩
  cases rx <;> first | exact (q : False).elim | skip
  exact ⟨_, rfl, c.use sm (.int _) q⟩
end
/-! subscripts -/
def vIx : D → D → Sto → DK → Prop
  | .tup ds, .int i, S, Q => match atI ds i with | some d => Q d S | none => False
  | .lst ds, .int i, S, Q => match atI ds i with | some d => Q d S | none => False
  | .ro ds, .int i, S, Q => match atI ds i with | some d => Q d S | none => False
  | .key ds, .int i, S, Q => match atI ds i with | some d => Q d S | none => False
  | .str z, .int i, S, Q => z.length ≤ sizeLine ∧ match atI z.cps.toList i with | some c => Q (.str ⟨#[c]⟩) S | none => False
  | .ref a, .int i, S, Q => match S a with
    | some (.lst ds) => match atI ds i with | some d => Q d S | none => False
    | _ => False
  | _, _, _, _ => False
theorem RelL.atI {K : PySem.W.Frag} {G : Hp} {xs : List V} {ds : List D} {i : Int} {d : D} (r : RelL K G xs ds) (h : L2.atI ds i = some d) : ∃ v, L2.atI xs i = some v ∧ Rel K G v d := by
  unfold L2.atI at h ⊢
  rw [r.length]
  cases e : ixN ds.length i with
  | none => rw [e] at h; cases h
  | some j =>
    rw [e] at h
    exact r.get h
section
variable {X : Cx} {Γ : KG X.K}
theorem dix : DIx X vIx := by
  refine ⟨_, ix_seq, fun x y dx dy F S H P Q sm rx ry q c => ?_⟩
  cases dx <;> first | exact (q : False).elim | skip
  all_goals cases dy <;> first | exact (q : False).elim | skip
  all_goals cases ry
  · cases rx
    obtain ⟨h1, h2⟩ := q
    split at h2
    · rename_i e
      exact .inr (.inr ⟨_, _, _, rfl, rfl, h1, e, c.use sm (.str _) h2⟩)
    · exact h2.elim
  · cases rx with
    | tup hs rl =>
    simp only [vIx] at q
    split at q
    · rename_i e
      obtain ⟨v, e1, r1⟩ := rl.atI e
      exact .inr (.inl ⟨_, _, _, _, rfl, rfl, sqT_mono (fz_same F S H) hs, e1, c.use sm r1 q⟩)
    · exact q.elim
  · cases rx with
    | lst hs rl =>
    simp only [vIx] at q
    split at q
    · rename_i e
      obtain ⟨v, e1, r1⟩ := rl.atI e
      exact .inl ⟨_, _, _, _, rfl, rfl, .of (fz_same F S H _ _ hs), e1, c.use sm r1 q⟩
    · exact q.elim
  · cases rx with
    | ro hs rl =>
    simp only [vIx] at q
    split at q
    · rename_i e
      obtain ⟨v, e1, r1⟩ := rl.atI e
      exact .inl ⟨_, _, _, _, rfl, rfl, (fz_same F S H).seq hs, e1, c.use sm r1 q⟩
    · exact q.elim
  · cases rx
    simp only [vIx] at q
    split at q
    · rename_i e
      obtain ⟨vs, e1, r1⟩ := sm.lst e
      split at q
      · rename_i e2
        obtain ⟨v, e3, r3⟩ := r1.atI e2
        exact .inl ⟨_, _, _, _, rfl, rfl, .of e1, e3, c.use sm r3 q⟩
      · exact q.elim
    · exact q.elim
  · cases rx with
    | key hs rl =>
    simp only [vIx] at q
    split at q
    · rename_i e
      obtain ⟨v, e1, r1⟩ := rl.atI e
      exact .inr (.inl ⟨_, _, _, _, rfl, rfl, .of (fz_same F S H _ _ hs), e1, c.use sm r1 q⟩)
    · exact q.elim
end
/-! slices -/
def cut {α : Type} (xs : List α) (lo hi : Option Int) : List α := (xs.drop (HT.sIx xs.length 0 lo)).take (HT.sIx xs.length xs.length hi - HT.sIx xs.length 0 lo)
theorem RelL.cut {K : PySem.W.Frag} {G : Hp} {xs : List V} {ds : List D} (r : RelL K G xs ds) (lo hi : Option Int) : RelL K G (cutV xs lo hi) (L3.cut ds lo hi) := by
  unfold cutV L3.cut
  rw [r.length]
  exact (r.drop _).take _
theorem cut_whole {α : Type} {xs : List α} {lo hi : Option Int} (h : HT.sIx xs.length 0 lo = 0 ∧ HT.sIx xs.length xs.length hi = xs.length) : cut xs lo hi = xs := by
  unfold cut
  rw [h.1, h.2]
  simp
def vSl : D → Option Int → Option Int → Sto → DK → Prop
  | .tup ds, lo, hi, S, Q => Q (.tup (cut ds lo hi)) S
  | .lst ds, lo, hi, S, Q => Q (.lst (cut ds lo hi)) S
  | .ro ds, lo, hi, S, Q => Q (.lst (cut ds lo hi)) S
  | .str z, lo, hi, S, Q => z.length ≤ sizeLine ∧ Q (.str (cutS z lo hi)) S
  | .ref a, lo, hi, S, Q => match S a with
    | some (.lst ds) => Q (.lst (cut ds lo hi)) S
    | _ => False
  | _, _, _, _, _ => False
section
variable {X : Cx} {Γ : KG X.K}
theorem dsl : DSlR X vSl := by
  refine ⟨_, (sl_tupX.or sl_list).or sl_str, fun x dx lo hi F S H P Q sm rx q c => ?_⟩
  cases rx <;> first | exact (q : False).elim | skip
  · exact .inr ⟨_, rfl, q.1, c.use sm (.str _) q.2⟩
  · simp only [vSl] at q
    split at q
    · rename_i e
      obtain ⟨vs, e1, r1⟩ := sm.lst e
      exact .inl (.inr ⟨_, _, rfl, .of e1, fun p hp => c.new sm hp (fz_newL sm hp (r1.cut lo hi)) q⟩)
    · exact q.elim
  · rename_i hs rl
    refine .inl (.inl ⟨_, _, rfl, sqT_mono (fz_same F S H) hs, fun z => ?_, fun _ p o hp hd => c.new sm hp (fz_newT sm hp hd (rl.cut lo hi)) q⟩)
    have e := cut_whole z
    have z' := z
    rw [rl.length] at z'
    have q : P (.tup (cut _ lo hi)) S := q
    rw [cut_whole z'] at q
    exact c.use sm (.tup hs rl) q
  · rename_i hs rl
    exact .inl (.inr ⟨_, _, rfl, .of (fz_same F S H _ _ hs), fun p hp => c.new sm hp (fz_newL sm hp (rl.cut lo hi)) q⟩)
  · rename_i hs rl
    exact .inl (.inr ⟨_, _, rfl, (fz_same F S H).seq hs, fun p hp => c.new sm hp (fz_newL sm hp (rl.cut lo hi)) q⟩)
end
/-! built-in functions -/
def vLen : List D → Sto → DK → Prop
  | [.str z], S, Q => z.length ≤ sizeLine ∧ Q (.int z.length) S
  | [.tup ds], S, Q => Q (.int ds.length) S
  | [.lst ds], S, Q => Q (.int ds.length) S
  | [.ro ds], S, Q => Q (.int ds.length) S
  | [.ref a], S, Q => match S a with
    | some (.lst ds) => Q (.int ds.length) S
    | some (.dK kvs) => Q (.int kvs.length) S
    | _ => False
  | _, _, _ => False
theorem RelF.length {K : PySem.W.Frag} {G : Hp} {κ : Type} : ∀ {vs : List (κ × V)} {ds : List (κ × D)}, RelF K G vs ds → vs.length = ds.length
  | _, _, .nil => rfl
  | _, _, .cons _ r => by simp [RelF.length r]
section
variable {X : Cx} {Γ : KG X.K}
theorem dcall_len : DCall X (.builtin "len") vLen := by
  refine ⟨_, call_len.or call_lenD, fun xs ds F S H P Q sm rx q c => ?_⟩
  cases rx with
  | nil => exact (q : False).elim
  | cons r1 r2 =>
  cases r2 with
  | cons _ _ => cases r1 <;> exact (q : False).elim
  | nil =>
  cases r1 <;> first | exact (q : False).elim | skip
  · exact .inl ⟨_, _, rfl, ⟨q.1, rfl⟩, c.use sm (.int _) q.2⟩
  · simp only [vLen] at q
    split at q
    · rename_i e
      obtain ⟨vs, e1, r1⟩ := sm.lst e
      exact .inl ⟨_, _, rfl, .inl ⟨_, .of e1, rfl⟩, c.use sm (by rw [r1.length]; exact .int _) q⟩
    · rename_i e
      obtain ⟨vs, e1, r1⟩ := (sm.at_ _ _ e).2
      exact .inr ⟨_, _, rfl, e1, c.use sm (by rw [r1.length]; exact .int _) q⟩
    · exact q.elim
  · rename_i hs rl
    exact .inl ⟨_, _, rfl, .inr ⟨_, sqT_mono (fz_same F S H) hs, rfl⟩, c.use sm (by rw [rl.length]; exact .int _) q⟩
  · rename_i hs rl
    exact .inl ⟨_, _, rfl, .inl ⟨_, .of (fz_same F S H _ _ hs), rfl⟩, c.use sm (by rw [rl.length]; exact .int _) q⟩
  · rename_i hs rl
    exact .inl ⟨_, _, rfl, .inl ⟨_, (fz_same F S H).seq hs, rfl⟩, c.use sm (by rw [rl.length]; exact .int _) q⟩
def vAbs : List D → Sto → DK → Prop
  | [.int i], S, Q => Q (.int (if i < 0 then -i else i)) S
  | _, _, _ => False
def vMin2 : List D → Sto → DK → Prop
  | [.int i, .int j], S, Q => Q (.int (if j < i then j else i)) S
  | _, _, _ => False
def vMax2 : List D → Sto → DK → Prop
  | [.int i, .int j], S, Q => Q (.int (if j > i then j else i)) S
  | _, _, _ => False
def vInt : List D → Sto → DK → Prop
  | [.int i], S, Q => Q (.int i) S
  | [.bl k], S, Q => Q (.int (if k then 1 else 0)) S
  | _, _, _ => False
def vBool : List D → Sto → DK → Prop
  | [.int i], S, Q => Q (.bl (i != 0)) S
  | [.bl k], S, Q => Q (.bl k) S
  | _, _, _ => False
theorem dcall_abs : DCall X (.builtin "abs") vAbs := by
  refine ⟨_, call_abs, fun xs ds F S H P Q sm rx q c => ?_⟩
  cases rx with
  | nil => exact (q : False).elim
  | cons r1 r2 =>
  cases r2 with
  | cons _ _ => cases r1 <;> exact (q : False).elim
  | nil =>
  cases r1 <;> first | exact (q : False).elim | skip
  exact ⟨_, rfl, c.use sm (.int _) q⟩
theorem dcall_int : DCall X (.type "int") vInt := by
  refine ⟨_, call_int1, fun xs ds F S H P Q sm rx q c => ?_⟩
  cases rx with
  | nil => exact (q : False).elim
  | cons r1 r2 =>
  cases r2 with
  | cons _ _ => cases r1 <;> exact (q : False).elim
  | nil =>
  cases r1 <;> first | exact (q : False).elim | skip
  · exact .inr ⟨_, rfl, c.use sm (.int _) q⟩
  · exact .inl ⟨_, rfl, c.use sm (.int _) q⟩
theorem dcall_bool : DCall X (.type "bool") vBool := by
  refine ⟨_, call_bool1, fun xs ds F S H P Q sm rx q c => ?_⟩
  cases rx with
  | nil => exact (q : False).elim
  | cons r1 r2 =>
  cases r2 with
  | cons _ _ => cases r1 <;> exact (q : False).elim
  | nil =>
  cases r1 <;> first | exact (q : False).elim | skip
  · exact .inr ⟨_, rfl, c.use sm (.bl _) q⟩
  · exact .inl ⟨_, rfl, c.use sm (.bl _) q⟩
theorem dcall_min2 (hc : X.calm = true) : DCall X (.builtin "min") vMin2 := by
  refine ⟨_, call_min2 hc, fun xs ds F S H P Q sm rx q c => ?_⟩
  rcases ds with _ | ⟨d1, _ | ⟨d2, _ | ⟨d3, ds⟩⟩⟩ <;> first | exact (q : False).elim | (cases d1 <;> exact (q : False).elim) | skip
  · cases d1 <;> first | exact (q : False).elim | skip
    cases d2 <;> first | exact (q : False).elim | skip
    cases rx with
    | cons r1 r2 =>
    cases r2 with
    | cons r2 r3 =>
    cases r1; cases r2; cases r3
    exact ⟨_, _, rfl, c.use sm (.int _) q⟩
  · cases d1 <;> first | exact (q : False).elim | skip
    cases d2 <;> exact (q : False).elim
theorem dcall_max2 (hc : X.calm = true) : DCall X (.builtin "max") vMax2 := by
  refine ⟨_, call_max2 hc, fun xs ds F S H P Q sm rx q c => ?_⟩
  rcases ds with _ | ⟨d1, _ | ⟨d2, _ | ⟨d3, ds⟩⟩⟩ <;> first | exact (q : False).elim | (cases d1 <;> exact (q : False).elim) | skip
  · cases d1 <;> first | exact (q : False).elim | skip
    cases d2 <;> first | exact (q : False).elim | skip
    cases rx with
    | cons r1 r2 =>
    cases r2 with
    | cons r2 r3 =>
    cases r1; cases r2; cases r3
    exact ⟨_, _, rfl, c.use sm (.int _) q⟩
  · cases d1 <;> first | exact (q : False).elim | skip
    cases d2 <;> exact (q : False).elim
/-- tuple(x) -/
def vTuple : List D → Sto → DK → Prop
  | [.tup ds], S, Q => Q (.tup ds) S
  | [.lst ds], S, Q => Q (.tup ds) S
  | [.ro ds], S, Q => Q (.tup ds) S
  | [.ref a], S, Q => match S a with
    | some (.lst ds) => Q (.tup ds) S
    | _ => False
  | _, _, _ => False
theorem dcall_tuple : DCall X (.type "tuple") vTuple := by
  refine ⟨_, call_tupX, fun xs ds F S H P Q sm rx q c => ?_⟩
  cases rx with
  | nil => exact (q : False).elim
  | cons r1 r2 =>
  cases r2 with
  | cons _ _ => cases r1 <;> exact (q : False).elim
  | nil =>
  cases r1 <;> first | exact (q : False).elim | skip
  · simp only [vTuple] at q
    split at q
    · rename_i e
      obtain ⟨vs, e1, r1⟩ := sm.lst e
      exact ⟨_, _, rfl, .inl ⟨.of e1, fun p o hp hd => c.new sm hp (fz_newT sm hp hd r1) q⟩⟩
    · exact q.elim
  · rename_i hs rl
    exact ⟨_, _, rfl, .inr ⟨sqT_mono (fz_same F S H) hs, c.use sm (.tup hs rl) q⟩⟩
  · rename_i hs rl
    exact ⟨_, _, rfl, .inl ⟨.of (fz_same F S H _ _ hs), fun p o hp hd => c.new sm hp (fz_newT sm hp hd rl) q⟩⟩
  · rename_i hs rl
    exact ⟨_, _, rfl, .inl ⟨(fz_same F S H).seq hs, fun p o hp hd => c.new sm hp (fz_newT sm hp hd rl) q⟩⟩
/-- list(x), a list that nobody changes -/
def vList : List D → Sto → DK → Prop
  | [.tup ds], S, Q => Q (.lst ds) S
  | [.lst ds], S, Q => Q (.lst ds) S
  | [.ro ds], S, Q => Q (.lst ds) S
  | [.ref a], S, Q => match S a with
    | some (.lst ds) => Q (.lst ds) S
    | _ => False
  | _, _, _ => False
theorem dcall_list : DCall X (.type "list") vList := by
  refine ⟨_, call_list_of, fun xs ds F S H P Q sm rx q c => ?_⟩
  cases rx with
  | nil => exact (q : False).elim
  | cons r1 r2 =>
  cases r2 with
  | cons _ _ => cases r1 <;> exact (q : False).elim
  | nil =>
  cases r1 <;> first | exact (q : False).elim | skip
  · simp only [vList] at q
    split at q
    · rename_i e
      obtain ⟨vs, e1, r1⟩ := sm.lst e
      exact ⟨_, _, rfl, .inl (.of e1), fun p hp => c.new sm hp (fz_newL sm hp r1) q⟩
    · exact q.elim
  · rename_i hs rl
    exact ⟨_, _, rfl, .inr (sqT_mono (fz_same F S H) hs), fun p hp => c.new sm hp (fz_newL sm hp rl) q⟩
  · rename_i hs rl
    exact ⟨_, _, rfl, .inl (.of (fz_same F S H _ _ hs)), fun p hp => c.new sm hp (fz_newL sm hp rl) q⟩
  · rename_i hs rl
    exact ⟨_, _, rfl, .inl ((fz_same F S H).seq hs), fun p hp => c.new sm hp (fz_newL sm hp rl) q⟩
def asBls : List D → Option (List Bool)
  | [] => some []
  | .bl b :: r => (asBls r).map (b :: ·)
  | _ :: _ => none
def asInts : List D → Option (List Int)
  | [] => some []
  | .int b :: r => (asInts r).map (b :: ·)
  | _ :: _ => none
theorem asBls_map (bs : List Bool) : asBls (bs.map D.bl) = some bs := by
  induction bs with
  | nil => rfl
  | cons b bs ih => simp [asBls, ih]
theorem asInts_map (bs : List Int) : asInts (bs.map D.int) = some bs := by
  induction bs with
  | nil => rfl
  | cons b bs ih => simp [asInts, ih]
theorem asBls_eq : ∀ {ds : List D} {bs : List Bool}, asBls ds = some bs → ds = bs.map D.bl
  | [], bs, h => by cases h; rfl
  | .bl b :: r, bs, h => by
    simp only [asBls, Option.map_eq_some_iff] at h
    obtain ⟨t, h1, rfl⟩ := h
    rw [asBls_eq h1]; rfl
  | .non :: _, _, h | .int _ :: _, _, h | .str _ :: _, _, h | .tup _ :: _, _, h | .lst _ :: _, _, h | .ro _ :: _, _, h | .ref _ :: _, _, h | .ty _ :: _, _, h | .key _ :: _, _, h => by cases h
theorem asInts_eq : ∀ {ds : List D} {bs : List Int}, asInts ds = some bs → ds = bs.map D.int
  | [], bs, h => by cases h; rfl
  | .int b :: r, bs, h => by
    simp only [asInts, Option.map_eq_some_iff] at h
    obtain ⟨t, h1, rfl⟩ := h
    rw [asInts_eq h1]; rfl
  | .non :: _, _, h | .bl _ :: _, _, h | .str _ :: _, _, h | .tup _ :: _, _, h | .lst _ :: _, _, h | .ro _ :: _, _, h | .ref _ :: _, _, h | .ty _ :: _, _, h | .key _ :: _, _, h => by cases h
/-- the items of a list (or, where t is true, of a tuple) -/
def seqOf (S : Sto) : D → Option (List D)
  | .lst ds => some ds
  | .ro ds => some ds
  | .ref a => match S a with | some (.lst ds) => some ds | _ => none
  | _ => none
theorem seqOf_rel {K : PySem.W.Frag} {Γ : KG K} {F : Addr → Bool} {S : Sto} {H : Hp} {v : V} {d : D} {ds : List D} (sm : Sim Γ F S H) (r : Rel K (fz F S H) v d) (h : seqOf S d = some ds) : ∃ a vs, v = .ref a ∧ SqL K H a vs ∧ RelL K (fz F S H) vs ds := by
  cases r <;> first | (cases h; done) | skip
  · rename_i a
    simp only [seqOf] at h
    split at h
    · rename_i e
      cases h
      obtain ⟨vs, e1, r1⟩ := sm.lst e
      exact ⟨_, _, rfl, .of e1, r1⟩
    · cases h
  · rename_i hs rl
    cases h
    exact ⟨_, _, rfl, .of (fz_same F S H _ _ hs), rl⟩
  · rename_i hs rl
    cases h
    exact ⟨_, _, rfl, (fz_same F S H).seq hs, rl⟩
def vAll : List D → Sto → DK → Prop
  | [x], S, Q => match (seqOf S x).bind asBls with | some bs => Q (.bl (bs.all id)) S | none => False
  | _, _, _ => False
def vAny : List D → Sto → DK → Prop
  | [x], S, Q => match (seqOf S x).bind asBls with | some bs => Q (.bl (bs.any id)) S | none => False
  | _, _, _ => False
def vSum : List D → Sto → DK → Prop
  | [x], S, Q => match (seqOf S x).bind asInts with | some bs => Q (.int bs.sum) S | none => False
  | _, _, _ => False
theorem dcall_all (hc : X.calm = true) : DCall X (.builtin "all") vAll := by
  refine ⟨_, cr_all hc, fun xs ds F S H P Q sm rx q c => ?_⟩
  rcases ds with _ | ⟨d1, _ | ⟨d2, ds⟩⟩ <;> first | exact (q : False).elim | skip
  cases rx with
  | cons r1 r2 =>
  cases r2
  have q : match (seqOf S d1).bind asBls with | some bs => P (.bl (bs.all id)) S | none => False := q
  split at q
  · rename_i bs e
    obtain ⟨ds, e1, e2⟩ := Option.bind_eq_some_iff.mp e
    obtain ⟨a, vs, rfl, hs, rl⟩ := seqOf_rel sm r1 e1
    rw [asBls_eq e2] at rl
    exact ⟨a, bs, rfl, by rw [← rl.bls]; exact hs, c.use sm (.bl _) q⟩
  · exact q.elim
theorem dcall_any (hc : X.calm = true) : DCall X (.builtin "any") vAny := by
  refine ⟨_, cr_any hc, fun xs ds F S H P Q sm rx q c => ?_⟩
  rcases ds with _ | ⟨d1, _ | ⟨d2, ds⟩⟩ <;> first | exact (q : False).elim | skip
  cases rx with
  | cons r1 r2 =>
  cases r2
  have q : match (seqOf S d1).bind asBls with | some bs => P (.bl (bs.any id)) S | none => False := q
  split at q
  · rename_i bs e
    obtain ⟨ds, e1, e2⟩ := Option.bind_eq_some_iff.mp e
    obtain ⟨a, vs, rfl, hs, rl⟩ := seqOf_rel sm r1 e1
    rw [asBls_eq e2] at rl
    exact ⟨a, bs, rfl, by rw [← rl.bls]; exact hs, c.use sm (.bl _) q⟩
  · exact q.elim
theorem dcall_sum (hc : X.calm = true) : DCall X (.builtin "sum") vSum := by
  refine ⟨_, cr_sum hc, fun xs ds F S H P Q sm rx q c => ?_⟩
  rcases ds with _ | ⟨d1, _ | ⟨d2, ds⟩⟩ <;> first | exact (q : False).elim | skip
  cases rx with
  | cons r1 r2 =>
  cases r2
  have q : match (seqOf S d1).bind asInts with | some bs => P (.int bs.sum) S | none => False := q
  split at q
  · rename_i bs e
    obtain ⟨ds, e1, e2⟩ := Option.bind_eq_some_iff.mp e
    obtain ⟨a, vs, rfl, hs, rl⟩ := seqOf_rel sm r1 e1
    rw [asInts_eq e2] at rl
    exact ⟨a, bs, rfl, by rw [← rl.ints]; exact hs, c.use sm (.int _) q⟩
  · exact q.elim
/-- isinstance of plain data and a built-in class -/
def tyOf : D → Option String
  | .non => some "NoneType"
  | .bl _ => some "bool"
  | .int _ => some "int"
  | .str _ => some "str"
  | .tup _ => some "tuple"
  | .lst _ => some "list"
  | .ro _ => some "list"
  | .key _ => none
  | .dct _ _ => none
  | .ref _ => none
  | .ty _ => none
def isiT : D → String → Option Bool
  | .non, n => if n = "int" ∨ n = "bool" ∨ n = "str" ∨ n = "tuple" ∨ n = "list" ∨ n = "dict" then some false else none
  | .bl _, n => if n = "int" ∨ n = "bool" then some true else if n = "str" ∨ n = "tuple" ∨ n = "list" ∨ n = "dict" then some false else none
  | .int _, n => if n = "int" then some true else if n = "bool" ∨ n = "str" ∨ n = "tuple" ∨ n = "list" ∨ n = "dict" then some false else none
  | .str _, n => if n = "str" then some true else if n = "bool" ∨ n = "int" ∨ n = "tuple" ∨ n = "list" ∨ n = "dict" then some false else none
  | .tup _, n => if n = "tuple" then some true else if n = "bool" ∨ n = "int" ∨ n = "str" ∨ n = "list" ∨ n = "dict" then some false else none
  | .lst _, n => if n = "list" then some true else if n = "bool" ∨ n = "int" ∨ n = "str" ∨ n = "tuple" ∨ n = "dict" then some false else none
  | _, _ => none
def vIsi : List D → Sto → DK → Prop
  | [x, .ty n], S, Q => match isiT x n with | some b => Q (.bl b) S | none => False
  | _, _, _ => False
theorem isiT_kit {d : D} {n : String} {b : Bool} (h : isiT d n = some b) : ∃ t, tyOf d = some t ∧ kitB t n = some b := by
  cases d <;> first | (cases h; done) | skip
  all_goals refine ⟨_, rfl, ?_⟩
  all_goals simp only [isiT] at h
  all_goals repeat' split at h
  all_goals first | (cases h; done) | skip
  all_goals cases h
  all_goals rename_i z
  all_goals first
    | (subst z; decide +kernel)
    | (rcases z with z | z | z | z | z | z <;> subst z <;> decide +kernel)
    | (rcases z with z | z | z | z | z <;> subst z <;> decide +kernel)
    | (rcases z with z | z | z | z <;> subst z <;> decide +kernel)
    | (rcases z with z | z <;> subst z <;> decide +kernel)
theorem Rel.tyx {K : PySem.W.Frag} {F : Addr → Bool} {S : Sto} {H : Hp} {v : V} {d : D} {n : String} (r : Rel K (fz F S H) v d) (hd : ∀ ds, d ≠ .ro ds) (h : tyOf d = some n) : TyX K H v (.type n) := by
  cases r <;> first | (cases h; done) | skip
  · cases h; exact .base .non
  · cases h; exact .base (.bl _)
  · cases h; exact .base (.int _)
  · cases h; exact .base (.str _)
  · cases h
    rename_i hs rl
    rcases hs.t with (hs | ⟨o, hs⟩) | ⟨o, its, m, h1, h2, _⟩
    · exact .base (.tup (fz_same F S H _ _ hs))
    · exact .fTuple (fz_same F S H _ _ hs)
    · exact .kTuple h1 h2
  · cases h
    rename_i hs rl
    exact .base (.lst (fz_same F S H _ _ hs))
  · exact absurd rfl (hd _)
theorem dcall_isi : DCall X (.builtin "isinstance") vIsi := by
  refine ⟨_, call_isi, fun xs ds F S H P Q sm rx q c => ?_⟩
  rcases ds with _ | ⟨d1, _ | ⟨d2, _ | ⟨d3, ds⟩⟩⟩ <;> first | exact (q : False).elim | skip
  · cases d2 <;> first | exact (q : False).elim | skip
    rename_i n
    cases rx with
    | cons r1 r2 =>
    cases r2 with
    | cons r2 r3 =>
    cases r2; cases r3
    have q : match isiT d1 n with | some b => P (.bl b) S | none => False := q
    split at q
    · rename_i b e
      obtain ⟨t, e1, e2⟩ := isiT_kit e
      exact ⟨_, _, _, _, b, rfl, .ty n, r1.tyx (fun ds z => by subst z; cases e) e1, kit_ty e2, c.use sm (.bl _) q⟩
    · exact q.elim
  · cases d2 <;> exact (q : False).elim
end
end L3

set_option Elab.async false
set_option maxRecDepth 100000
set_option linter.all false
set_option maxHeartbeats 2000000
namespace L3
open PySem L2
/-! ### statements -/
abbrev dNext : DTS := fun D δ S => D.nx δ S
abbrev dSeq (t u : DTS) : DTS := fun D δ S => t { D with nx := u D } δ S
abbrev dBreak : DTS := fun D δ S => D.bk δ S
abbrev dCont : DTS := fun D δ S => D.ct δ S
abbrev dDrop (te : DTE) : DTS := fun D δ S => te δ S fun _ S1 => D.nx δ S1
abbrev dRet (te : DTE) : DTS := fun D δ S => te δ S D.rt
abbrev dRetN : DTS := fun D _ S => D.rt .non S
abbrev dIf (c : DTT) (t u : DTS) : DTS := fun D δ S => c δ S fun b S1 => if b = true then t D δ S1 else u D δ S1
abbrev dNever : DTS := fun _ _ _ => False
abbrev DTG := D → DSt → Sto → (DSt → Sto → Prop) → Prop
def lfG {K : PySem.W.Frag} (Γ : KG K) (t : DTG) : TG := fun v σ H Q => ∃ F d δ S P, Sim Γ F S H ∧ Rel K (fz F S H) v d ∧ RelS K (fz F S H) σ δ ∧ t d δ S P ∧ CtN Γ F S H P Q
def DPG (X : Cx) (Γ : KG X.K) (e : Expr) (t : DTG) : Prop := PG X e (lfG Γ t)
theorem PGw {X : Cx} {e : Expr} {t u : TG} (h : PG X e t) (w : ∀ v σ H Q, u v σ H Q → t v σ H Q) : PG X e u := ⟨fun pins s σ H v u' Q I r q => h.run pins s σ H v u' Q I r (w _ _ _ _ q)⟩
/-- plain targets: a name, a tuple of names -/
inductive Tg where
  | nm (i : Nat)
  | tp (l : List Nat)
def gAll : List Nat → TGs
  | [] => gNil
  | i :: r => gCons (gName i) (gAll r)
def gTg (K : PySem.W.Frag) : Tg → TG
  | .nm i => gName i
  | .tp l => gTup K l.length (gAll l)
abbrev setAll : List Nat → List D → DSt → DSt
  | i :: r, d :: ds, δ => setAll r ds (dset δ i (some d))
  | _, _, δ => δ
abbrev dTg : Tg → DTG
  | .nm i => fun d δ S Q => Q (dset δ i (some d)) S
  | .tp l => fun d δ S Q => match d with | .tup ds => ds.length = l.length ∧ Q (setAll l ds δ) S | .key ds => ds.length = l.length ∧ Q (setAll l ds δ) S | _ => False
def Tg.slots : Tg → List Nat
  | .nm i => [i]
  | .tp l => l
theorem gAll_ok {K : PySem.W.Frag} {G : Hp} {H : Hp} {Q : St → Hp → Prop} : ∀ (l : List Nat) {vs : List V} {ds : List D} {σ : St} {δ : DSt}, RelL K G vs ds → ds.length = l.length → RelS K G σ δ →
    (∀ σ', RelS K G σ' (setAll l ds δ) → (∀ is : List Nat, (∀ i ∈ l, i ∈ is) → wipe σ' is = wipe σ is) → Q σ' H) → gAll l vs σ H Q
  | [], _, _, σ, δ, .nil, _, rs, k => ⟨rfl, k σ rs fun _ _ => rfl⟩
  | [], _, _, _, _, .cons _ _, h, _, _ => by cases h
  | _ :: _, _, _, _, _, .nil, h, _, _ => by cases h
  | i :: l, _, _, σ, δ, .cons (v := v) (vs := vs) (d := d) (ds := ds) r t, h, rs, k => by
    refine ⟨_, _, rfl, ?_⟩
    show gAll l _ (σ.set i (some v)) H Q
    refine gAll_ok l t (by simpa using h) (rs.dset r i) fun σ' q w => k σ' q fun is hi => ?_
    rw [w is fun j hj => hi j (List.mem_cons_of_mem _ hj)]
    exact wipe_in _ _ (hi i List.mem_cons_self)
where
  wipe_in {σ : St} {i : Nat} (x : Option V) (is : List Nat) (hi : i ∈ is) : wipe (σ.set i x) is = wipe σ is := by
    induction is with
    | nil => cases hi
    | cons j is ih =>
      show (wipe (σ.set i x) is).set j none = (wipe σ is).set j none
      by_cases h : i ∈ is
      · rw [ih h]
      · have e : i = j := by
          rcases List.mem_cons.mp hi with e | e
          · exact e
          · exact absurd e h
        subst e
        have c : ∀ (js : List Nat), i ∉ js → wipe (σ.set i x) js = (wipe σ js).set i x := by
          intro js
          induction js with
          | nil => intro _; rfl
          | cons k js ih2 =>
            intro hk
            show (wipe (σ.set i x) js).set k none = ((wipe σ js).set k none).set i x
            rw [ih2 fun z => hk (List.mem_cons_of_mem _ z), List.set_comm]
            intro z
            subst z
            exact hk List.mem_cons_self
        rw [c is h, List.set_set]
theorem gTg_ok {K : PySem.W.Frag} {F : Addr → Bool} {S : Sto} {H : Hp} {v : V} {d : D} {σ : St} {δ : DSt} {P : DSt → Sto → Prop} {Q : St → Hp → Prop} (tg : Tg) (r : Rel K (fz F S H) v d) (rs : RelS K (fz F S H) σ δ) (h : dTg tg d δ S P)
    (k : ∀ σ' δ', RelS K (fz F S H) σ' δ' → P δ' S → (∀ is : List Nat, (∀ i ∈ tg.slots, i ∈ is) → wipe σ' is = wipe σ is) → Q σ' H) : gTg K tg v σ H Q := by
  cases tg with
  | nm i =>
    show Q (σ.set i (some v)) H
    exact k _ _ (rs.dset r i) h fun is hi => gAll_ok.wipe_in _ is (hi i List.mem_cons_self)
  | tp l =>
    cases r <;> first | exact (h : False).elim | skip
    · rename_i hs rl
      obtain ⟨h1, h2⟩ := h
      refine ⟨_, _, rfl, sqT_mono (fz_same F S H) hs, by rw [rl.length]; exact h1, ?_⟩
      exact gAll_ok l rl h1 rs fun σ' q w => k σ' _ q h2 w
    · rename_i hs rl
      obtain ⟨h1, h2⟩ := h
      refine ⟨_, _, rfl, .of (fz_same F S H _ _ hs), by rw [rl.length]; exact h1, ?_⟩
      exact gAll_ok l rl h1 rs fun σ' q w => k σ' _ q h2 w
theorem dpg_tg {X : Cx} {Γ : KG X.K} {e : Expr} {tg : Tg} (h : PG X e (gTg X.K tg)) : DPG X Γ e (dTg tg) := PGw h fun v σ H Q ⟨F, d, δ, S, P, sm, r, rs, h, c⟩ =>
  gTg_ok tg r rs h fun σ' δ' rs' p _ => c _ _ p _ _ (Go.refl sm) rs'
/-- o[i] = v -/
def vSet : D → D → D → Sto → (Sto → Prop) → Prop
  | .ref a, .int k, v, S, Q => match S a with
    | some (.lst ds) => match ixN ds.length k with | some j => Q (sup S a (.lst (ds.set j v))) | none => False
    | _ => False
  | _, _, _, _, _ => False
abbrev dgSub (to ti : DTE) : DTG := fun d δ S Q => to δ S fun o S1 => ti δ S1 fun i S2 => vSet o i d S2 fun S3 => Q δ S3
section
variable {X : Cx} {Γ : KG X.K} {st : Stmt} {rest : List Stmt} {t u : DTS} {e a : Expr} {te ta to ti : DTE} {pos : Pos}
theorem dpss_nil : DPSs X Γ [] dNext := PSsw pss_nil fun D σ H ⟨F, δ, S, P, sm, rs, h, c⟩ => c.nx _ _ h _ _ (Go.refl sm) rs
theorem dpss_cons (h1 : DPS X Γ st t) (h2 : DPSs X Γ rest u) : DPSs X Γ (st :: rest) (dSeq t u) := PSsw (pss_cons h1 h2) fun D σ H ⟨F, δ, S, P, sm, rs, h, c⟩ =>
  ⟨F, δ, S, { P with nx := u P }, sm, rs, h, ⟨fun δ' S' h' σ' H' g rs' => ⟨F, δ', S', P, g.sim, rs', h', c.mono g⟩, c.rt, c.bk, c.ct⟩⟩
theorem dpss_one (h1 : DPS X Γ st t) : DPSs X Γ [st] t := pss_one h1
theorem dps_pass : DPS X Γ (.Pass pos) dNext := PSw ps_pass fun D σ H ⟨F, δ, S, P, sm, rs, h, c⟩ => c.nx _ _ h _ _ (Go.refl sm) rs
theorem dps_doc {x j pos'} : DPS X Γ (.Expr (.Constant (.str x) j pos) pos') dNext := PSw ps_doc fun D σ H ⟨F, δ, S, P, sm, rs, h, c⟩ => c.nx _ _ h _ _ (Go.refl sm) rs
theorem dps_break : DPS X Γ (.Break pos) dBreak := PSw ps_break fun D σ H ⟨F, δ, S, P, sm, rs, h, c⟩ => c.bk _ _ h _ _ (Go.refl sm) rs
theorem dps_continue : DPS X Γ (.Continue pos) dCont := PSw ps_continue fun D σ H ⟨F, δ, S, P, sm, rs, h, c⟩ => c.ct _ _ h _ _ (Go.refl sm) rs
theorem dps_expr (he : DPE X Γ e te) (hs : swapsWith e none pos.line X.env = pure false := by rfl) : DPS X Γ (.Expr e pos) (dDrop te) := PSw (ps_expr he hs) fun D σ H ⟨F, δ, S, P, sm, rs, h, c⟩ =>
  ⟨F, δ, S, _, sm, rs, h, fun d S1 h1 v H1 g1 r1 => c.nx _ _ h1 _ _ g1 (rs.mono g1.same)⟩
theorem dps_ret (he : DPE X Γ e te) : DPS X Γ (.Return (some e) pos) (dRet te) := PSw (ps_ret he) fun D σ H ⟨F, δ, S, P, sm, rs, h, c⟩ => ⟨F, δ, S, _, sm, rs, h, c.rt⟩
theorem dps_retN : DPS X Γ (.Return none pos) dRetN := PSw ps_retN fun D σ H ⟨F, δ, S, P, sm, rs, h, c⟩ => c.rt.use sm .non h
theorem dps_if {c : Expr} {p q : List Stmt} {tc : DTT} (hc : DPT X Γ c tc) (ha : DPSs X Γ p t) (hb : DPSs X Γ q u) : DPS X Γ (.If c p q pos) (dIf tc t u) := PSw (ps_if hc ha hb) fun D σ H ⟨F, δ, S, P, sm, rs, h, c⟩ =>
  ⟨F, δ, S, _, sm, rs, h, fun b S1 h1 H1 g1 => by
    cases b with
    | true => exact ⟨F, δ, S1, P, g1.sim, rs.mono g1.same, h1, c.mono g1⟩
    | false => exact ⟨F, δ, S1, P, g1.sim, rs.mono g1.same, h1, c.mono g1⟩⟩
theorem dps_never : DPS X Γ st dNever := PSw ps_never fun D σ H ⟨F, δ, S, P, sm, rs, h, c⟩ => (h : False).elim
theorem dpss_never {sts : List Stmt} : DPSs X Γ sts dNever := PSsw pss_never fun D σ H ⟨F, δ, S, P, sm, rs, h, c⟩ => (h : False).elim
/-- target = e -/
abbrev dAsg (te : DTE) (g : DTG) : DTS := fun D δ S => te δ S fun x S1 => g x δ S1 D.nx
theorem lf_asg {K : PySem.W.Frag} {Γ : KG K} {g : DTG} {D : Ends} {σ : St} {H : Hp} (h : lfS Γ (dAsg te g) D σ H) : tAsg (lf Γ te) (lfG Γ g) D σ H := by
  obtain ⟨F, δ, S, P, sm, rs, h, c⟩ := h
  exact ⟨F, δ, S, _, sm, rs, h, fun d S1 h1 v H1 g1 r1 => ⟨F, d, δ, S1, P.nx, g1.sim, r1, rs.mono g1.same, h1, (c.mono g1).nx⟩⟩
theorem dps_asg {tg : Expr} {g : DTG} (he : DPE X Γ e te) (hg : DPG X Γ tg g) (hs : swapsWithSole [tg] e pos.line X.env = pure false := by rfl) (hw : swappedStores [tg] e X.env = pure none := by rfl)
    (h1 : (assignEach [tg] X.env).map (·.2) = [assign tg X.env] := by rfl) : DPS X Γ (.Assign [tg] e pos) (dAsg te g) := PSw (ps_asg he hg hs hw h1) fun D σ H h => lf_asg h
/-- name = e -/
theorem dps_set (i : Nat) {x : Str} {pos' : Pos} (hN : X.N.Nodup) (he : DPE X Γ e te) (hi : X.N[i]? = some x := by rfl) (hx : Loc X.env.scope x := by first | exact Or.inl rfl | exact Or.inr rfl) (hs : swapsWith e (some (.Name x pos')) pos.line X.env = pure false := by rfl)
    (hf : X.fn x = true ∨ X.env.scope.names.lookup x = some .local := by first | exact .inl rfl | exact .inr rfl) : DPS X Γ (.Assign [.Name x pos'] e pos) (dAsg te (dTg (.nm i))) := PSw (ps_set hN hi hx he hs hf) fun D σ H ⟨F, δ, S, P, sm, rs, h, c⟩ =>
  ⟨F, δ, S, _, sm, rs, h, fun d S1 h1 v H1 g1 r1 => c.nx _ _ h1 _ _ g1 ((rs.mono g1.same).dset r1 i)⟩
theorem dpg_name (i : Nat) {x : Str} (hN : X.N.Nodup) (hi : X.N[i]? = some x := by rfl) (hx : Loc X.env.scope x := by first | exact Or.inl rfl | exact Or.inr rfl)
    (hf : X.fn x = true ∨ X.env.scope.names.lookup x = some .local := by first | exact .inl rfl | exact .inr rfl) : PG X (.Name x pos) (gTg X.K (.nm i)) := pg_name hN hi hx hf
theorem dpg_sub {o i : Expr} (ho : DPE X Γ o to) (hi : DPE X Γ i ti) (ha : ∀ v, assign (.Subscript o i pos) X.env v = (do
      let ov ← holding [v] (eval o X.env)
      let iv ← holding [v, ov] (eval i X.env)
      standAt pos
      holding [v, ov, iv] (setItem ov iv v)
      release [v, ov, iv] []) := by intro _; rfl) : DPG X Γ (.Subscript o i pos) (dgSub to ti) := PGw (pg_sub ho hi set_list ha) fun v σ H Q ⟨F, d, δ, S, P, sm, r, rs, h, c⟩ =>
  ⟨F, δ, S, _, sm, rs, h, fun do_ S1 h1 vo H1 g1 ro => ⟨F, δ, S1, _, g1.sim, rs.mono g1.same, h1, fun di S2 h2 vi H2 g2 ri => by
    cases do_ <;> first | exact (h2 : False).elim | skip
    cases di <;> first | exact (h2 : False).elim | skip
    cases ro; cases ri
    simp only [vSet] at h2
    split at h2
    · rename_i ds e
      obtain ⟨vs, e1, r1⟩ := g2.sim.lst e
      split at h2
      · rename_i j e2
        have r' := r.mono (g1.trans g2).same
        have g3 := g2.sim.put (o := .lst (vs.set j v)) (u' := .lst (ds.set j d)) e ⟨_, rfl, r1.set r' j⟩
        exact ⟨_, _, _, j, rfl, rfl, e1, by rw [r1.length]; exact e2, c _ _ h2 _ _ ((g1.trans g2).trans g3) (rs.mono ((g1.trans g2).trans g3).same)⟩
      · exact h2.elim
    · exact h2.elim⟩⟩
/-- x += e, at a name -/
abbrev dAug (i : Nat) (te : DTE) (r : D → D → Sto → DK → Prop) : DTS := fun D δ S => match slot δ i with
  | some x => te δ S fun y S1 => r x y S1 fun z S2 => D.nx (dset δ i (some z)) S2
  | none => False
theorem dps_aug (i : Nat) {x : Str} {op : Operator} {r : D → D → Sto → DK → Prop} {pos' : Pos} (ho : DOp X (inplaceOp op) r) (hN : X.N.Nodup) (he : DPE X Γ e te) (hi : X.N[i]? = some x := by rfl) (hx : Loc X.env.scope x := by first | exact Or.inl rfl | exact Or.inr rfl)
    (hf : X.fn x = true ∨ X.env.scope.names.lookup x = some .local := by first | exact .inl rfl | exact .inr rfl) : DPS X Γ (.AugAssign (.Name x pos') op e pos) (dAug i te r) := by
  obtain ⟨q, h1, h2⟩ := ho.ex
  refine PSw (ps_aug (ti := q) hN hi hx he h1 hf) fun D σ H ⟨F, δ, S, P, sm, rs, h, c⟩ => ?_
  simp only [dAug] at h
  split at h
  · rename_i d e
    obtain ⟨v, e1, r1⟩ := rs.get (slot_get e)
    refine ⟨v, e1, F, δ, S, _, sm, rs, h, fun dy S1 k1 y H1 g1 ry => ?_⟩
    refine h2 v y d dy F S1 H1 _ _ g1.sim (r1.mono g1.same) ry k1 fun dz S2 k2 z H2 g2 rz => ?_
    exact c.nx _ _ k2 _ _ (g1.trans g2) ((rs.mono (g1.trans g2).same).dset rz i)
  · exact h.elim
def vIadd : D → D → Sto → DK → Prop
  | .int i, .int j, S, Q => Q (.int (i + j)) S
  | .str a, .str b, S, Q => a.length + b.length ≤ sizeLine ∧ Q (.str (a ++ b)) S
  | _, _, _, _ => False
theorem dop_iadd : DOp X (inplaceOp .Add) vIadd := by
  refine ⟨_, iop_add.or iop_add_str, fun x y dx dy F S H P Q sm rx ry q c => ?_⟩
  cases dx <;> first | exact (q : False).elim | skip
  all_goals cases dy <;> first | exact (q : False).elim | skip
  all_goals (cases rx; cases ry)
  · exact .inl ⟨_, _, rfl, rfl, c.use sm (.int _) q⟩
  · exact .inr ⟨_, _, rfl, rfl, q.1, c.use sm (.str _) q.2⟩
theorem dop_isub : DOp X (inplaceOp .Sub) vSub := dop_II0 iop_sub fun _ _ _ => .int _
theorem dop_idiv : DOp X (inplaceOp .FloorDiv) vDiv := dop_II iop_fdiv fun _ _ _ => .int _
theorem dop_imul : DOp X (inplaceOp .Mult) (vII CMul fun i j => .int (i * j)) := dop_II iop_mul fun _ _ _ => .int _
end
/-! ### while -/
def whileN (c : DTT) (tb : DTS) : Nat → DTS
  | 0 => fun _ _ _ => False
  | n + 1 => fun D δ S => c δ S fun b S1 => if b = true then tb { D with nx := whileN c tb n D, ct := whileN c tb n D, bk := D.nx } δ S1 else D.nx δ S1
abbrev dWhile (c : DTT) (tb : DTS) : DTS := fun D δ S => ∃ n, whileN c tb n D δ S
section
variable {X : Cx} {Γ : KG X.K} {pos : Pos}
theorem dps_while {c : Expr} {body : List Stmt} {tc : DTT} {tb : DTS} (hc : DPT X Γ c tc) (hb : DPSs X Γ body tb) (hp : PassesOwn (model X.prog X.w) X.A X.env X.xe := by exact PassesOwn.never) : DPS X Γ (.While c body [] pos) (dWhile tc tb) := by
  refine PSw (ps_while hp hc hb) fun D σ H ⟨F, δ, S, P, sm, rs, ⟨n, h⟩, c⟩ => ?_
  refine ⟨fun m σ' H' => ∃ δ' S', Go Γ F S H S' H' ∧ RelS X.K (fz F S' H') σ' δ' ∧ whileN tc tb m P δ' S', ⟨n, δ, S, Go.refl sm, rs, h⟩, ?_⟩
  rintro m σ1 H1 ⟨δ1, S1, g1, rs1, h1⟩
  cases m with
  | zero => exact h1.elim
  | succ m =>
    refine ⟨F, δ1, S1, _, g1.sim, rs1, h1, fun b S2 h2 H2 g2 => ?_⟩
    have g12 := g1.trans g2
    cases b with
    | false => exact c.nx _ _ h2 _ _ g12 (rs1.mono g2.same)
    | true =>
      refine ⟨fun σ' H' => ∃ δ' S', Go Γ F S H S' H' ∧ RelS X.K (fz F S' H') σ' δ' ∧ whileN tc tb m P δ' S', fun σ' H' q => ⟨m, Nat.lt_succ_self m, q⟩, ?_⟩
      refine ⟨F, δ1, S2, _, g2.sim, rs1.mono g2.same, h2, ⟨fun δ' S' h' σ' H' g' rs' => ⟨δ', S', g12.trans g', rs', h'⟩, (c.mono g12).rt, (c.mono g12).nx, fun δ' S' h' σ' H' g' rs' => ⟨δ', S', g12.trans g', rs', h'⟩⟩⟩
end
/-! ### what a for walks -/
/-- the items, and what must stay so of the store while they are walked -/
abbrev DTI := DSt → Sto → ((Sto → Prop) → List D → Sto → Prop) → Prop
/-- J walks the items as long as kp holds of the store (objects made since may be hidden) -/
def WalkD {K : PySem.W.Frag} (Γ : KG K) (F : Addr → Bool) (S : Sto) (H : Hp) (kp : Sto → Prop) (items : List D) (J : It) : Prop :=
  ∀ F' S' H', Same (fz F S H) (fz F' S' H') → Sim Γ F' S' H' → kp S' → (∀ i, i < items.length → J.go i H') ∧ J.stop items.length H' ∧
    ∀ i x H2, i < items.length → J.yld i H' x H2 → ∃ d, items[i]? = some d ∧ Go Γ F' S' H' S' H2 ∧ Rel K (fz F' S' H2) x d
def lfI {K : PySem.W.Frag} (Γ : KG K) (t : DTI) : TI := fun σ H R => ∃ F δ S P, Sim Γ F S H ∧ RelS K (fz F S H) σ δ ∧ t δ S P ∧ ∀ kp items S', P kp items S' → ∀ J H', Go Γ F S H S' H' → WalkD Γ F S' H' kp items J → R J H'
def DPI (X : Cx) (Γ : KG X.K) (tg iter : Expr) (t : DTI) : Prop := PI X tg iter (lfI Γ t)
theorem PIw {X : Cx} {tg e : Expr} {t u : TI} (h : PI X tg e t) (w : ∀ σ H R, u σ H R → t σ H R) : PI X tg e u := ⟨fun pins s σ H R I q => h.run pins s σ H R I (w _ _ _ q)⟩
def forL (kp : Sto → Prop) (g : DTG) (tb : DTS) : List D → DTS
  | [] => fun D δ S => kp S ∧ D.nx δ S
  | d :: r => fun D δ S => kp S ∧ g d δ S fun δ1 S1 => tb { D with nx := forL kp g tb r D, ct := forL kp g tb r D, bk := D.nx } δ1 S1
abbrev dFor (ti : DTI) (g : DTG) (tb : DTS) : DTS := fun D δ S => ti δ S fun kp items S1 => forL kp g tb items D δ S1
section
variable {X : Cx} {Γ : KG X.K} {pos : Pos}
theorem forL_kp {kp : Sto → Prop} {g : DTG} {tb : DTS} {items : List D} {D : DEnds} {δ : DSt} {S : Sto} (h : forL kp g tb items D δ S) : kp S := by
  cases items with
  | nil => exact h.1
  | cons d r => exact h.1
theorem dps_for {tg iter : Expr} {body : List Stmt} {ti : DTI} {g : DTG} {tb : DTS} (hi : DPI X Γ tg iter ti) (hg : DPG X Γ tg g) (hb : DPSs X Γ body tb) (hc : X.calm = true := by rfl) (hp : PassesOwn (model X.prog X.w) X.A X.env X.xe := by exact PassesOwn.never)
    (hs : ∀ x, foldedSetIterable iter X.env x = pure x := by intro _; rfl) : DPS X Γ (.For tg iter body [] pos) (dFor ti g tb) := by
  refine PSw (ps_for hp hc hi hg hb hs) fun D σ H ⟨F, δ, S, P, sm, rs, h, c⟩ => ?_
  refine ⟨F, δ, S, _, sm, rs, h, fun kp items S1 h1 J H1 g1 wk => ?_⟩
  have c1 := c.mono g1
  refine ⟨fun i m σ' H' => m = items.length - i ∧ i ≤ items.length ∧ ∃ δ' S', Go Γ F S1 H1 S' H' ∧ RelS X.K (fz F S' H') σ' δ' ∧ forL kp g tb (items.drop i) P δ' S', ⟨items.length, by simp, Nat.zero_le _, δ, S1, Go.refl g1.sim, rs.mono g1.same, h1⟩, ?_⟩
  rintro i m σ2 H2 ⟨rfl, hi, δ2, S2, g2, rs2, h2⟩
  obtain ⟨w1, w2, w3⟩ := wk F S2 H2 g2.same g2.sim (forL_kp h2)
  by_cases hlt : i < items.length
  · refine .inr ⟨w1 i hlt, fun σ' H' => ∃ δ' S', Go Γ F S1 H1 S' H' ∧ RelS X.K (fz F S' H') σ' δ' ∧ forL kp g tb (items.drop (i + 1)) P δ' S', fun σ' H' q => ⟨items.length - (i + 1), by omega, rfl, hlt, q⟩, fun x H3 y => ?_⟩
    obtain ⟨d, e, g3, rx⟩ := w3 i x H3 hlt y
    have ed : items.drop i = d :: items.drop (i + 1) := by
      rw [List.drop_eq_getElem_cons hlt]
      rw [List.getElem?_eq_getElem hlt] at e
      cases e
      rfl
    rw [ed] at h2
    refine ⟨F, d, δ2, S2, _, g3.sim, rx, rs2.mono g3.same, h2.2, fun δ4 S4 h4 σ4 H4 g4 rs4 => ?_⟩
    have g24 := (g2.trans g3).trans g4
    exact ⟨F, δ4, S4, _, g4.sim, rs4, h4, ⟨fun δ' S' h' σ' H' g' rs' => ⟨δ', S', g24.trans g', rs', h'⟩, (c1.mono g24).rt, (c1.mono g24).nx, fun δ' S' h' σ' H' g' rs' => ⟨δ', S', g24.trans g', rs', h'⟩⟩⟩
  · have e : i = items.length := by omega
    subst e
    rw [List.drop_length] at h2
    exact .inl ⟨w2, c1.nx _ _ h2.2 _ _ g2 rs2⟩
end
/-- a list (known, or mutable and left as it is): what must stay so, its items -/
def itOf (S : Sto) : D → Option ((Sto → Prop) × List D)
  | .lst ds => some (fun _ => True, ds)
  | .ro ds => some (fun _ => True, ds)
  | .ref a => match S a with | some (.lst ds) => some (fun S' => S' a = some (.lst ds), ds) | _ => none
  | _ => none
abbrev iSeq (te : DTE) : DTI := fun δ S Q => te δ S fun x S1 => match itOf S1 x with
  | some p => Q p.1 p.2 S1
  | none => False
abbrev iTupD (te : DTE) : DTI := fun δ S Q => te δ S fun x S1 => match x with
  | .tup ds => Q (fun _ => True) ds S1
  | _ => False
abbrev iStrD (te : DTE) : DTI := fun δ S Q => te δ S fun x S1 => match x with
  | .str z => Q (fun _ => True) (z.cps.toList.map fun c => .str ⟨#[c]⟩) S1
  | _ => False
def rngD (lo : Int) (n : Nat) : List D := (List.range n).map fun i => .int (lo + (i : Nat))
abbrev iRange1 (te : DTE) : DTI := fun δ S Q => te δ S fun x S1 => match x with
  | .int j => -(2 ^ 62) ≤ j ∧ j < 2 ^ 62 ∧ Q (fun _ => True) (rngD 0 j.toNat) S1
  | _ => False
abbrev iRange2 (ta tb : DTE) : DTI := fun δ S Q => ta δ S fun x S1 => tb δ S1 fun y S2 => match x, y with
  | .int i, .int j => (-(2 ^ 62) ≤ i ∧ i < 2 ^ 62 ∧ -(2 ^ 62) ≤ j ∧ j < 2 ^ 62) ∧ Q (fun _ => True) (rngD i (j - i).toNat) S2
  | _, _ => False
def enumD : Nat → List D → List D
  | _, [] => []
  | i, d :: r => .tup [.int (i : Nat), d] :: enumD (i + 1) r
/-- a list or a tuple (false) -/
def itAll (S : Sto) : D → Option ((Sto → Prop) × List D × Bool)
  | .tup ds => some (fun _ => True, ds, false)
  | x => (itOf S x).map fun p => (p.1, p.2, true)
abbrev iEnumD (te : DTE) : DTI := fun δ S Q => te δ S fun x S1 => match itAll S1 x with
  | some p => Q p.1 (enumD 0 p.2.1) S1
  | none => False
def zipD : List D → List D → List D
  | x :: xs, y :: ys => .tup [x, y] :: zipD xs ys
  | _, _ => []
abbrev iZipD (ta tb : DTE) : DTI := fun δ S Q => ta δ S fun x S1 => tb δ S1 fun y S2 => match itOf S2 x, itOf S2 y with
  | some p, some q => Q (fun S' => p.1 S' ∧ q.1 S') (zipD p.2 q.2) S2
  | _, _ => False
abbrev iRevD (te : DTE) : DTI := fun δ S Q => te δ S fun x S1 => match itOf S1 x with
  | some p => Q p.1 p.2.reverse S1
  | none => False
/-- a list that stands at a as long as kp holds -/
def Held {K : PySem.W.Frag} (Γ : KG K) (F : Addr → Bool) (S : Sto) (H : Hp) (kp : Sto → Prop) (a : Addr) (ds : List D) : Prop :=
  ∀ F' S' H', Same (fz F S H) (fz F' S' H') → Sim Γ F' S' H' → kp S' → ∃ xs, SqL K H' a xs ∧ RelL K (fz F' S' H') xs ds
theorem walk_seq {K : PySem.W.Frag} {Γ : KG K} {F : Addr → Bool} {S : Sto} {H : Hp} {a : Addr} {ds : List D} {kp : Sto → Prop} (hs : Held Γ F S H kp a ds) : WalkD Γ F S H kp ds (Itl K a) := fun F' S' H' g s k => by
  obtain ⟨xs, h1, h2⟩ := hs F' S' H' g s k
  have w := walk_list (K := K) (a := a) (xs := xs)
  rw [h2.length] at w
  refine ⟨fun i hi => w.goes i H' hi h1, w.stops H' h1, fun i x H2 hi y => ?_⟩
  obtain ⟨rfl, e⟩ := w.yields i H' x H2 hi h1 y
  obtain ⟨d, e1, r⟩ := h2.get' e
  exact ⟨d, e1, Go.refl s, r⟩
theorem enumD_get : ∀ {ds : List D} {i k : Nat} {d : D}, ds[i]? = some d → (enumD k ds)[i]? = some (.tup [.int ((k + i : Nat) : Int), d])
  | [], i, _, _, h => by simp at h
  | x :: r, 0, k, d, h => by simp at h; subst h; rfl
  | x :: r, i + 1, k, d, h => by
    have := enumD_get (ds := r) (i := i) (k := k + 1) (d := d) (by simpa using h)
    simp only [enumD, List.getElem?_cons_succ]
    rw [this]
    rw [show k + 1 + i = k + (i + 1) by omega]
theorem enumD_length : ∀ {ds : List D} {k : Nat}, (enumD k ds).length = ds.length
  | [], _ => rfl
  | x :: r, k => by simp [enumD, enumD_length (ds := r)]
theorem itOf_rel {K : PySem.W.Frag} {Γ : KG K} {F : Addr → Bool} {S : Sto} {H : Hp} {v : V} {d : D} {p : (Sto → Prop) × List D} (sm : Sim Γ F S H) (r : Rel K (fz F S H) v d) (h : itOf S d = some p) :
    ∃ a vs, v = .ref a ∧ SqL K H a vs ∧ RelL K (fz F S H) vs p.2 ∧ Held Γ F S H p.1 a p.2 := by
  cases r <;> first | (cases h; done) | skip
  · rename_i a
    simp only [itOf] at h
    split at h
    · rename_i ds e
      cases h
      obtain ⟨vs, e1, r1⟩ := sm.lst e
      refine ⟨a, vs, rfl, .of e1, r1, fun F' S' H' g' s' k => ?_⟩
      obtain ⟨vs', e2, r2⟩ := s'.lst k
      exact ⟨vs', .of e2, r2⟩
    · cases h
  · rename_i hs rl
    cases h
    exact ⟨_, _, rfl, .of (fz_same F S H _ _ hs), rl, fun F' S' H' g' _ _ => ⟨_, .of (fz_same F' S' H' _ _ (g' _ _ hs)), rl.mono g'⟩⟩
  · rename_i hs rl
    cases h
    exact ⟨_, _, rfl, (fz_same F S H).seq hs, rl, fun F' S' H' g' _ _ => ⟨_, ((fz_same F' S' H').seq (g'.seq hs)), rl.mono g'⟩⟩
/-- a list or a tuple that stands at a as long as kp holds -/
def HeldB {K : PySem.W.Frag} (Γ : KG K) (F : Addr → Bool) (S : Sto) (H : Hp) (kp : Sto → Prop) (a : Addr) (ds : List D) (b : Bool) : Prop :=
  ∀ F' S' H', Same (fz F S H) (fz F' S' H') → Sim Γ F' S' H' → kp S' → ∃ xs, SqB K H' a xs b ∧ RelL K (fz F' S' H') xs ds
theorem itAll_rel {K : PySem.W.Frag} {Γ : KG K} {F : Addr → Bool} {S : Sto} {H : Hp} {v : V} {d : D} {p : (Sto → Prop) × List D × Bool} (sm : Sim Γ F S H) (r : Rel K (fz F S H) v d) (h : itAll S d = some p) :
    ∃ a vs, v = .ref a ∧ SqB K H a vs p.2.2 ∧ RelL K (fz F S H) vs p.2.1 ∧ HeldB Γ F S H p.1 a p.2.1 p.2.2 := by
  have lists : ∀ q, itOf S d = some q → (q.1, q.2, true) = p → ∃ a vs, v = .ref a ∧ SqB K H a vs p.2.2 ∧ RelL K (fz F S H) vs p.2.1 ∧ HeldB Γ F S H p.1 a p.2.1 p.2.2 := fun q e1 e2 => by
    obtain ⟨a, vs, h1, h2, h3, h4⟩ := itOf_rel sm r e1
    subst e2
    exact ⟨a, vs, h1, h2, h3, h4⟩
  by_cases z : ∃ ds, d = .tup ds
  · obtain ⟨ds, rfl⟩ := z
    cases h
    cases r with
    | tup hs rl => exact ⟨_, _, rfl, sqT_mono (fz_same F S H) hs, rl, fun F' S' H' g' _ _ => ⟨_, sqT_mono (fz_same F' S' H') (hs.mono g'), rl.mono g'⟩⟩
  · have e : itAll S d = (itOf S d).map fun p => (p.1, p.2, true) := by
      cases d <;> first | rfl | exact absurd ⟨_, rfl⟩ z
    rw [e] at h
    obtain ⟨q, e1, e2⟩ := Option.map_eq_some_iff.mp h
    exact lists q e1 e2
theorem walk_en {K : PySem.W.Frag} {Γ : KG K} {F : Addr → Bool} {S : Sto} {H : Hp} {a : Addr} {ds : List D} {kp : Sto → Prop} {b : Bool} (hs : HeldB Γ F S H kp a ds b) : WalkD Γ F S H kp (enumD 0 ds) (ItE K a b) := fun F' S' H' g s k => by
  obtain ⟨xs, h1, h2⟩ := hs F' S' H' g s k
  rw [enumD_length]
  refine ⟨fun i hi => ?_, ⟨xs, h1, Nat.le_of_eq h2.length⟩, fun i x H2 hi y => ?_⟩
  · obtain ⟨v, e, _⟩ := h2.get (List.getElem?_eq_getElem hi)
    exact ⟨xs, v, h1, e⟩
  · obtain ⟨T, o, y1, rfl, hT, hd, rfl, e1⟩ := y
    obtain ⟨d, e3, r⟩ := h2.get' (e1 xs h1)
    refine ⟨_, enumD_get e3, s.new hT, ?_⟩
    rw [Nat.zero_add]
    exact fz_newT s hT hd (.cons (.int _) (.cons r .nil))
theorem zipD_length : ∀ {xs ys : List D}, (zipD xs ys).length = min xs.length ys.length
  | [], _ => by simp [zipD]
  | _ :: _, [] => by simp [zipD]
  | x :: xs, y :: ys => by simp [zipD, zipD_length (xs := xs) (ys := ys)]
theorem zipD_get : ∀ {xs ys : List D} {i : Nat} {x y : D}, xs[i]? = some x → ys[i]? = some y → (zipD xs ys)[i]? = some (.tup [x, y])
  | [], _, _, _, _, h, _ => by simp at h
  | _ :: _, [], _, _, _, _, h => by simp at h
  | a :: xs, b :: ys, 0, x, y, h, h' => by simp at h h'; subst h; subst h'; rfl
  | a :: xs, b :: ys, i + 1, x, y, h, h' => by simpa [zipD] using zipD_get (xs := xs) (ys := ys) (i := i) (by simpa using h) (by simpa using h')
section
variable {X : Cx} {Γ : KG X.K} {tg e a b : Expr} {te ta tb : DTE} {p pos tpos : Pos} {elts : List Expr} {kk : Nat}
theorem dpi_seq (h : DPE X Γ e te) : DPI X Γ tg e (iSeq te) := PIw (pi_list h) fun σ H R ⟨F, δ, S, P, sm, rs, h, c⟩ => ⟨F, δ, S, _, sm, rs, h, fun d S1 h1 v H1 g1 r1 => by
  split at h1
  · rename_i q e
    obtain ⟨a, vs, rfl, hs, _, w⟩ := itOf_rel g1.sim r1 e
    exact ⟨a, rfl, ⟨vs, hs⟩, c _ _ _ h1 _ _ g1 (walk_seq w)⟩
  · exact h1.elim⟩
theorem dpi_tup (h : DPE X Γ e te) : DPI X Γ tg e (iTupD te) := PIw (pi_tup h) fun σ H R ⟨F, δ, S, P, sm, rs, h, c⟩ => ⟨F, δ, S, _, sm, rs, h, fun d S1 h1 v H1 g1 r1 => by
  cases r1 <;> first | exact (h1 : False).elim | skip
  rename_i a vs ds hs rl
  refine ⟨_, rfl, ⟨_, sqT_mono (fz_same F S1 H1) hs⟩, c _ _ _ h1 _ _ g1 fun F' S' H' g' s' _ => ?_⟩
  have h2 := rl.mono g'
  have h3 := sqT_mono (fz_same F' S' H') (hs.mono g')
  have w := walk_tup (K := X.K) (a := a) (xs := vs)
  rw [h2.length] at w
  refine ⟨fun i hi => w.goes i H' hi h3, w.stops H' h3, fun i x H2 hi y => ?_⟩
  obtain ⟨rfl, e⟩ := w.yields i H' x H2 hi h3 y
  obtain ⟨d, e1, r⟩ := h2.get' e
  exact ⟨d, e1, Go.refl s', r⟩⟩
theorem dpi_str (h : DPE X Γ e te) : DPI X Γ tg e (iStrD te) := PIw (pi_str h) fun σ H R ⟨F, δ, S, P, sm, rs, h, c⟩ => ⟨F, δ, S, _, sm, rs, h, fun d S1 h1 v H1 g1 r1 => by
  cases r1 <;> first | exact (h1 : False).elim | skip
  rename_i z
  refine ⟨_, rfl, c _ _ _ h1 _ _ g1 fun F' S' H' g' s' _ => ?_⟩
  have w := walk_str (z := z)
  have hl : (z.cps.toList.map fun c => D.str ⟨#[c]⟩).length = z.cps.size := by simp
  rw [hl]
  refine ⟨fun i hi => w.goes i H' hi True.intro, w.stops H' True.intro, fun i x H2 hi y => ?_⟩
  obtain ⟨rfl, c0, e0, rfl⟩ := w.yields i H' x H2 hi True.intro y
  refine ⟨.str ⟨#[c0]⟩, ?_, Go.refl s', .str _⟩
  rw [List.getElem?_map, Array.getElem?_toList, e0]
  rfl⟩
theorem walk_rng {K : PySem.W.Frag} {Γ : KG K} {F : Addr → Bool} {S : Sto} {H : Hp} {lo : Int} {n : Nat} : WalkD Γ F S H (fun _ => True) (rngD lo n) (Itr lo n) := fun F' S' H' g s _ => by
  have w := walk_range (lo := lo) (n := n)
  have hl : (rngD lo n).length = n := by simp [rngD]
  rw [hl]
  refine ⟨fun i hi => w.goes i H' hi True.intro, w.stops H' True.intro, fun i x H2 hi y => ?_⟩
  obtain ⟨rfl, rfl⟩ := w.yields i H' x H2 hi True.intro y
  refine ⟨.int (lo + i), ?_, Go.refl s, .int _⟩
  unfold rngD
  rw [List.getElem?_map, List.getElem?_range hi]
  rfl
theorem dpi_range1 (hg : Gl X "range") (hm : X.mg "range" = none) (h : DPE X Γ a ta) (hs : starEach [a] X.env = [(false, eval a X.env)] := by rfl) (hs' : starEach [a] X.env = (false, eval a X.env) :: starEach [] X.env := by rfl) : DPI X Γ tg (.Call (.Name "range" p) [a] [] pos) (iRange1 ta) :=
  PIw (pi_range1 hg hm (dpa_cons h dpa_nil hs') hs) fun σ H R ⟨F, δ, S, P, sm, rs, h, c⟩ => ⟨F, δ, S, fun ds S1 => match ds with
  | [x] => (match x with
    | .int j => -(2 ^ 62) ≤ j ∧ j < 2 ^ 62 ∧ P (fun _ => True) (rngD 0 j.toNat) S1
    | _ => False)
  | _ => False, sm, rs, h, fun ds S1 h1 vs H1 g1 r1 => by
    rcases ds with _ | ⟨x, _ | ⟨_, _⟩⟩ <;> first | exact (h1 : False).elim | skip
    cases r1 with
    | cons r1 r2 =>
    cases r2
    cases r1 <;> first | exact (h1 : False).elim | skip
    obtain ⟨h1, h2, h3⟩ := h1
    exact ⟨_, rfl, h1, h2, c _ _ _ h3 _ _ g1 walk_rng⟩⟩
theorem dpi_range2 (hg : Gl X "range") (hm : X.mg "range" = none) (h : DPE X Γ a ta) (h' : DPE X Γ b tb) (hs : starEach [a, b] X.env = (false, eval a X.env) :: starEach [b] X.env := by rfl) (hs1 : starEach [b] X.env = (false, eval b X.env) :: starEach [] X.env := by rfl)
    (hs2 : starEach [a, b] X.env = [(false, eval a X.env), (false, eval b X.env)] := by rfl) (hs3 : starEach [b] X.env = [(false, eval b X.env)] := by rfl) : DPI X Γ tg (.Call (.Name "range" p) [a, b] [] pos) (iRange2 ta tb) :=
  PIw (pi_range2 hg hm (dpa_cons h (dpa_cons h' dpa_nil hs1) hs) hs2 hs3) fun σ H R ⟨F, δ, S, P, sm, rs, h, c⟩ => ⟨F, δ, S, fun ds S1 => match ds with
  | [x, y] => (match x, y with
    | .int i, .int j => (-(2 ^ 62) ≤ i ∧ i < 2 ^ 62 ∧ -(2 ^ 62) ≤ j ∧ j < 2 ^ 62) ∧ P (fun _ => True) (rngD i (j - i).toNat) S1
    | _, _ => False)
  | _ => False, sm, rs, h, fun ds S1 h1 vs H1 g1 r1 => by
    rcases ds with _ | ⟨x, _ | ⟨y, _ | ⟨_, _⟩⟩⟩ <;> first | exact (h1 : False).elim | skip
    cases x <;> first | exact (h1 : False).elim | skip
    cases y <;> first | exact (h1 : False).elim | skip
    cases r1 with
    | cons r1 r2 =>
    cases r2 with
    | cons r2 r3 =>
    cases r3
    cases r1; cases r2
    obtain ⟨h1, h3⟩ := h1
    exact ⟨_, _, rfl, h1, c _ _ _ h3 _ _ g1 walk_rng⟩⟩
theorem dpi_enum (hg : Gl X "enumerate") (hm : X.mg "enumerate" = none) (h : DPE X Γ a ta) (hs : starEach [a] X.env = [(false, eval a X.env)] := by rfl) (hs' : starEach [a] X.env = (false, eval a X.env) :: starEach [] X.env := by rfl) : DPI X Γ (.Tuple elts kk tpos) (.Call (.Name "enumerate" p) [a] [] pos) (iEnumD ta) :=
  PIw (pi_en hg hm (dpa_cons h dpa_nil hs') hs) fun σ H R ⟨F, δ, S, P, sm, rs, h, c⟩ => ⟨F, δ, S, fun ds S1 => match ds with
  | [x] => (match itAll S1 x with
    | some p => P p.1 (enumD 0 p.2.1) S1
    | none => False)
  | _ => False, sm, rs, h, fun ds S1 h1 vs H1 g1 r1 => by
    rcases ds with _ | ⟨x, _ | ⟨_, _⟩⟩ <;> first | exact (h1 : False).elim | skip
    cases r1 with
    | cons r1 r2 =>
    cases r2
    have h1 : match itAll S1 x with
      | some p => P p.1 (enumD 0 p.2.1) S1
      | none => False := h1
    split at h1
    · rename_i q e
      obtain ⟨a, vs, rfl, hs, _, w⟩ := itAll_rel g1.sim r1 e
      exact ⟨a, vs, _, rfl, hs, c _ _ _ h1 _ _ g1 (walk_en w)⟩
    · exact h1.elim⟩
end
/-! ### list comprehensions -/
abbrev dwipe (δ : DSt) : List Nat → DSt
  | [] => δ
  | v :: vs => dset (dwipe δ vs) v none
theorem RelS.wipe {K : PySem.W.Frag} {G : Hp} {σ : St} {δ : DSt} (r : RelS K G σ δ) : ∀ vs : List Nat, RelS K G (L2.wipe σ vs) (dwipe δ vs)
  | [] => r
  | v :: vs => by
    show RelS K G _ (L3.dset (dwipe δ vs) v none)
    rw [dset_eq]
    exact (RelS.wipe r vs).unset v
def lcL (kp : Sto → Prop) (g : DTG) (tt : DTT) (te : DTE) (vs : List Nat) (δ : DSt) : List D → List D → Sto → DK → Prop
  | [], acc, S, Q => kp S ∧ Q (.lst acc) S
  | d :: r, acc, S, Q => kp S ∧ acc.length < sizeLine ∧ g d (dwipe δ vs) S fun δ2 S2 => tt δ2 S2 fun b S3 =>
    if b = true then te δ2 S3 fun y S4 => lcL kp g tt te vs δ r (acc ++ [y]) S4 Q else lcL kp g tt te vs δ r acc S3 Q
abbrev dLc (ti : DTI) (g : DTG) (tt : DTT) (te : DTE) (vs : List Nat) : DTE := fun δ S Q => ti δ S fun kp items S1 => lcL kp g tt te vs δ items [] S1 Q
abbrev dYes : DTT := fun _ S Q => Q true S
theorem lcL_kp {kp : Sto → Prop} {g : DTG} {tt : DTT} {te : DTE} {vs : List Nat} {δ : DSt} {items acc : List D} {S : Sto} {Q : DK} (h : lcL kp g tt te vs δ items acc S Q) : kp S := by
  cases items with
  | nil => exact h.1
  | cons d r => exact h.1
section
variable {X : Cx} {Γ : KG X.K}
theorem lf_lc {K : PySem.W.Frag} {Γ : KG K} {wi : DTI} {tg : Tg} {tt : DTT} {te : DTE} {vs : List Nat} (hv : ∀ i ∈ tg.slots, i ∈ vs) (σ : St) (H : Hp) (Q : VK) (h : lf Γ (dLc wi (dTg tg) tt te vs) σ H Q) : tLc (lfI Γ wi) (gTg K tg) (lfT Γ tt) (lf Γ te) vs σ H Q := by
  obtain ⟨F, δ, S, P, sm, rs, h, c⟩ := h
  refine ⟨F, δ, S, _, sm, rs, h, fun kp items S1 h1 J H1 g1 wk => ?_⟩
  intro Dp hD
  have c1 := c.mono g1
  have s1 := g1.sim.hideNew (o := .lst []) hD
  have fD := (g1.sim.none hD).1
  -- the states of the loop
  refine ⟨fun i m H' => m = items.length - i ∧ i ≤ items.length ∧ ∃ S' vs' acc, Go Γ (hide F Dp) S1 (upd H1 Dp (.lst [])) S' (upd H' Dp (.lst [])) ∧ H' Dp = some (.lst vs') ∧ RelL K (fz (hide F Dp) S' H') vs' acc ∧ lcL kp (dTg tg) tt te vs δ (items.drop i) acc S' P,
    ⟨items.length, by simp, Nat.zero_le _, S1, [], [], by rw [upd_upd]; exact Go.refl s1, upd_same, .nil, h1⟩, ?_⟩
  rintro i m H2 ⟨rfl, hi, S2, vs2, acc, g2, e2, r2, h2⟩
  have s2 : Sim Γ (hide F Dp) S2 H2 := by
    have q := Sim.hidePut g1.sim fD g2.sim (o := .lst vs2)
    rw [upd_upd] at q
    have e : upd H2 Dp (.lst vs2) = H2 := by
      funext b
      by_cases z : b = Dp
      · subst z; rw [upd_same, e2]
      · rw [upd_ne z]
    rw [e] at q
    exact q
  -- from the loop's entry to here, all shown
  have go2 : Go Γ F S1 H1 S2 H2 := by
    refine .of g1.sim ⟨fun b x e => ?_, fun a f => ?_, s2.toSimB.show_ fD⟩
    · have q := g2.same b x (fz_hide_new hD b x e)
      rw [fz_hide_upd] at q
      exact fz_hide_same b x q
    · have np : a ≠ Dp := fun z => by subst z; rw [fD] at f; cases f
      have q := g2.hid a (by simp [hide, np, f])
      rw [upd_ne np, upd_ne np] at q
      exact q
  have rs2 : RelS K (fz (hide F Dp) S2 H2) σ δ := by
    have q : RelS K (fz (hide F Dp) S2 (upd H2 Dp (.lst []))) σ δ := ((rs.mono g1.same).mono (fz_hide_new hD)).mono g2.same
    rw [fz_hide_upd] at q
    exact q
  have sm2 : Same (fz F S1 H1) (fz (hide F Dp) S2 H2) := fun b x e => by
    have q := g2.same b x (fz_hide_new hD b x e)
    rw [fz_hide_upd] at q
    exact q
  obtain ⟨w1, w2, w3⟩ := wk (hide F Dp) S2 H2 sm2 s2 (lcL_kp h2)
  by_cases hlt : i < items.length
  · refine .inr ⟨w1 i hlt, fun H' => ∃ S' vs' acc, Go Γ (hide F Dp) S1 (upd H1 Dp (.lst [])) S' (upd H' Dp (.lst [])) ∧ H' Dp = some (.lst vs') ∧ RelL K (fz (hide F Dp) S' H') vs' acc ∧ lcL kp (dTg tg) tt te vs δ (items.drop (i + 1)) acc S' P,
      fun H' q => ⟨items.length - (i + 1), by omega, rfl, hlt, q⟩, fun x H3 y => ?_⟩
    obtain ⟨d, e, g3, rx⟩ := w3 i x H3 hlt y
    have ed : items.drop i = d :: items.drop (i + 1) := by
      rw [List.drop_eq_getElem_cons hlt]
      rw [List.getElem?_eq_getElem hlt] at e
      cases e
      rfl
    rw [ed] at h2
    obtain ⟨_, hacc, h2⟩ := h2
    -- later states, D behind them
    have later : ∀ {S4 : Sto} {H4 : Hp}, Go Γ (hide F Dp) S2 H2 S4 H4 → Go Γ (hide F Dp) S1 (upd H1 Dp (.lst [])) S4 (upd H4 Dp (.lst [])) := fun {S4 H4} g => by
      refine g2.trans ⟨?_, fun a f => ?_, Sim.hidePut g1.sim fD g.sim⟩
      · rw [fz_hide_upd, fz_hide_upd]
        exact g.same
      · by_cases z : a = Dp
        · subst z; rw [upd_same, upd_same]
        · rw [upd_ne z, upd_ne z]; exact g.hid a f
    refine gTg_ok tg rx ((rs2.wipe vs).mono g3.same) h2 fun σ4 δ4 rs4 h4 hw => ⟨?_, ?_⟩
    · rw [hw vs hv]
      exact wipe_wipe σ vs
    refine ⟨hide F Dp, δ4, S2, _, g3.sim, rs4, h4, fun b S5 h5 H5 g5 => ?_⟩
    have g25 := g3.trans g5
    cases b with
    | false => exact ⟨S5, vs2, acc, later g25, (g25.hid Dp (by simp [hide])).trans e2, r2.mono g25.same, h5⟩
    | true =>
      refine ⟨hide F Dp, δ4, S5, _, g5.sim, rs4.mono g5.same, h5, fun dy S6 h6 vy H6 g6 r6 => ?_⟩
      have g26 := g25.trans g6
      have e6 : H6 Dp = some (.lst vs2) := (g26.hid Dp (by simp [hide])).trans e2
      refine ⟨vs2, e6, by rw [r2.length]; exact hacc, S6, vs2 ++ [vy], acc ++ [dy], ?_, upd_same, ?_, h6⟩
      · rw [upd_upd]
        exact later g26
      · rw [fz_hide_upd]
        exact (r2.mono g26.same).append (.cons r6 .nil)
  · have e : i = items.length := by omega
    subst e
    rw [List.drop_length] at h2
    refine .inl ⟨w2, ?_⟩
    refine c1 _ _ h2.2 _ _ go2 (.lst ?_ (r2.mono fz_hide_same))
    cases z : S2 Dp with
    | none => rw [fz_none fD z]; exact e2
    | some u =>
      have := (s2.at_ Dp u z).1
      simp [hide] at this
where
  wipe_wipe (σ : St) (vs : List Nat) : L2.wipe (L2.wipe σ vs) vs = L2.wipe σ vs := by
    have c : ∀ (js : List Nat) (τ : St), (∀ j ∈ js, j < τ.length → τ[j]? = some none) → L2.wipe τ js = τ := by
      intro js
      induction js with
      | nil => intro τ _; rfl
      | cons j js ih =>
        intro τ h
        show (L2.wipe τ js).set j none = τ
        rw [ih τ fun k hk => h k (List.mem_cons_of_mem _ hk)]
        by_cases hj : j < τ.length
        · have q := h j List.mem_cons_self hj
          rw [List.getElem?_eq_getElem hj] at q
          have q' := Option.some.inj q
          rw [← q']
          exact List.set_getElem_self hj
        · exact List.set_eq_of_length_le (by omega)
    refine c vs _ fun j hj hl => ?_
    have d : ∀ (js : List Nat) (τ : St), j ∈ js → j < τ.length → (L2.wipe τ js)[j]? = some none := by
      intro js
      induction js with
      | nil => intro τ h; cases h
      | cons k js ih =>
        intro τ h hl
        show ((L2.wipe τ js).set k none)[j]? = some none
        rw [List.getElem?_set]
        by_cases z : k = j
        · rw [if_pos z, if_pos (by rw [wipe_length]; omega)]
        · rw [if_neg z]
          refine ih τ ?_ hl
          rcases List.mem_cons.mp h with e | e
          · exact absurd e.symm z
          · exact e
    exact d vs σ hj (by rw [wipe_length] at hl; exact hl)
theorem dpt_yes : ∀ {X : Cx} {Γ : KG X.K}, PTs X [] (lfT Γ dYes) := ⟨fun pins s σ H Q I ⟨F, δ, S, P, sm, rs, h, c⟩ => pts_nil.run pins s σ H Q I (c _ _ h _ (Go.refl sm))⟩
theorem dpts_one {c : Expr} {t : DTT} (h : DPT X Γ c t) : PTs X [c] (lfT Γ t) := pts_one h
theorem dpe_lc {elt tge iter : Expr} {ifs : List Expr} {scope : Scope} {own : List (Str × Nat)} {pos : Pos} {wi : DTI} {tg : Tg} {tt : DTT} {te : DTE} (hN : X.N.Nodup) (hi : DPI X Γ tge iter wi) (ok : BlkOk X.N X.env.scope scope own)
    (hg : ∀ (s : Shared) (H : Hp) (C : Addr) (cl : List (Str × Addr)) (fp : List Addr), PG (X.blk s H scope (compEnvC scope cl C X.env) fp) tge (gTg X.K tg)) (ht : ∀ (s : Shared) (H : Hp) (C : Addr) (cl : List (Str × Addr)) (fp : List Addr), PTs (X.blk s H scope (compEnvC scope cl C X.env) fp) ifs (lfT Γ tt))
    (he : ∀ (s : Shared) (H : Hp) (C : Addr) (cl : List (Str × Addr)) (fp : List Addr), DPE (X.blk s H scope (compEnvC scope cl C X.env) fp) Γ elt te) (hv : ∀ i ∈ tg.slots, i ∈ own.map (·.2) := by decide) (hc : X.calm = true := by rfl) (hs : ∀ x, foldedSetIterable iter X.env x = pure x := by intro _; rfl) :
    DPE X Γ (.ListComp elt [⟨tge, iter, ifs, 0⟩] scope pos) (dLc wi (dTg tg) tt te (own.map (·.2))) :=
  PEw (pe_lc (te := lf Γ te) hc hN hi ok hg ht (fun s H C cl fp => he s H C cl fp) hs) (lf_lc hv)
theorem dps_setLc {i : Nat} {y : Str} {py : Pos} {elt tge iter : Expr} {ifs : List Expr} {scope : Scope} {own : List (Str × Nat)} {pos spos : Pos} {wi : DTI} {tg : Tg} {tt : DTT} {te : DTE} (hN : X.N.Nodup) (hy : X.N[i]? = some y) (hyl : X.env.scope.names.lookup y = some .local)
    (hsw : swapsWith (.ListComp elt [⟨tge, iter, ifs, 0⟩] scope pos) (some (.Name y py)) spos.line X.env = pure true) (hi : DPI X Γ tge iter wi) (ok : BlkOk X.N X.env.scope scope own)
    (hg : ∀ (s : Shared) (H : Hp) (C : Addr) (cl : List (Str × Addr)) (fp : List Addr), PG (X.blk s H scope (compEnvC scope cl C X.env) fp) tge (gTg X.K tg)) (ht : ∀ (s : Shared) (H : Hp) (C : Addr) (cl : List (Str × Addr)) (fp : List Addr), PTs (X.blk s H scope (compEnvC scope cl C X.env) fp) ifs (lfT Γ tt))
    (he : ∀ (s : Shared) (H : Hp) (C : Addr) (cl : List (Str × Addr)) (fp : List Addr), DPE (X.blk s H scope (compEnvC scope cl C X.env) fp) Γ elt te) (hv : ∀ i ∈ tg.slots, i ∈ own.map (·.2) := by decide) (hc : X.calm = true := by rfl) (hs : ∀ x, foldedSetIterable iter X.env x = pure x := by intro _; rfl) :
    DPS X Γ (.Assign [.Name y py] (.ListComp elt [⟨tge, iter, ifs, 0⟩] scope pos) spos) (dAsg (dLc wi (dTg tg) tt te (own.map (·.2))) (dTg (.nm i))) := by
  refine PSw (ps_setLc (te := lf Γ te) hc hN hy hyl hsw hi ok hg ht (fun s H C cl fp => he s H C cl fp) hs) fun D σ H ⟨F, δ, S, P, sm, rs, h, c⟩ => ?_
  refine lf_lc hv σ H _ ⟨F, δ, S, _, sm, rs, h, fun d S1 h1 v H1 g1 r1 => ?_⟩
  exact c.nx _ _ h1 _ _ g1 ((rs.mono g1.same).dset r1 i)
end
/-! ### methods of lists -/
section
variable {X : Cx} {Γ : KG X.K} {o e a : Expr} {to te : DTE} {t : DTA} {es : List Expr} {apos cpos : Pos} {name : Str} {T id : String}
/-- a method of a built-in's object, by data: the receiver's type and the reading -/
structure DMt (X : Cx) (T id : String) (r' : D → List D → Sto → DK → Prop) : Prop where
  ex : ∃ r, MtR X id r ∧ LRM X.K r r' ∧ ∀ {Γ : KG X.K} x dx ds F S H P, Sim Γ F S H → Rel X.K (fz F S H) x dx → r' dx ds S P → tyV X.K T x H
abbrev dBM (r : D → List D → Sto → DK → Prop) (to : DTE) (t : DTA) : DTE := fun δ S Q => to δ S fun x S1 => t δ S1 fun xs S2 => r x xs S2 Q
/-- the receiver is looked at ahead of the arguments: what a list stays -/
def isSeq (S : Sto) : D → Prop
  | .ref a => ∃ ds, S a = some (.lst ds)
  | _ => False
abbrev dLM (r : D → List D → Sto → DK → Prop) (to : DTE) (t : DTA) : DTE := fun δ S Q => to δ S fun x S1 => isSeq S1 x ∧ t δ S1 fun xs S2 => r x xs S2 Q
theorem isSeq_ty {K : PySem.W.Frag} {Γ : KG K} {F : Addr → Bool} {S : Sto} {H : Hp} {v : V} {d : D} (sm : Sim Γ F S H) (r : Rel K (fz F S H) v d) (h : isSeq S d) : tyV K "list" v H := by
  cases r <;> first | exact (h : False).elim | skip
  obtain ⟨ds, e⟩ := h
  obtain ⟨vs, e1, r1⟩ := sm.lst e
  exact .inl ⟨rfl, vs, .of e1⟩
/-- a method of a mutable list -/
theorem dpe_lm {r : V → List V → Hp → VK → Prop} {r' : D → List D → Sto → DK → Prop} (slot : Slot "list" name id) (hty : typeOf (.builtin id) = pure (.type "method_descriptor")) (hm : MtM X id r) (hl : LRM X.K r r') (ho : DPE X Γ o to) (ha : DPA X Γ (e :: es) t)
    (hbase : attributeBase o name X.env (eval o X.env) = eval o X.env := by rfl)
    (hfew : ((backTo cpos (starEach (e :: es) X.env)).all (fun x => !x.1) && (backToKw cpos (keywordEach [] X.env)).all (fun x => x.1.isSome)
      && decide ((e :: es).length + ([] : List Keyword).length + (if ([] : List Keyword).isEmpty then 0 else 1) < 30)) = true := by rfl)
    (hline : (apos.endLine == cpos.line) = true := by rfl) (hs : starEach (e :: es) X.env = (false, eval e X.env) :: starEach es X.env := by rfl) (hplain : (backTo cpos (starEach es X.env)).any (·.1) = false := by rfl) :
    DPE X Γ (.Call (.Attribute o name apos) (e :: es) [] cpos) (dLM r' to t) :=
  PEw (pe_bm PySem.F.plainAttrs_list slot hty hm ho ha hbase hfew hline hs hplain) fun σ H Q ⟨F, δ, S, P, sm, rs, h, c⟩ =>
    ⟨F, δ, S, _, sm, rs, h, fun d S1 ⟨h0, h1⟩ v H1 g1 r1 => ⟨isSeq_ty g1.sim r1 h0, F, δ, S1, _, g1.sim, rs.mono g1.same, h1, fun ds S2 h2 vs H2 g2 r2 => hl v vs d ds F S2 H2 P Q g2.sim (r1.mono g2.same) r2 h2 (c.mono (g1.trans g2))⟩⟩
theorem dpe_lm0 {r : V → List V → Hp → VK → Prop} {r' : D → List D → Sto → DK → Prop} (slot : Slot "list" name id) (hty : typeOf (.builtin id) = pure (.type "method_descriptor")) (hm : MtM X id r) (hl : LRM X.K r r') (ho : DPE X Γ o to)
    (hbase : attributeBase o name X.env (eval o X.env) = eval o X.env := by rfl) (hline : (apos.endLine == cpos.line) = true := by rfl) :
    DPE X Γ (.Call (.Attribute o name apos) [] [] cpos) (dLM r' to dNil) :=
  PEw (pe_bm0 PySem.F.plainAttrs_list slot hty hm ho hbase hline) fun σ H Q ⟨F, δ, S, P, sm, rs, h, c⟩ =>
    ⟨F, δ, S, _, sm, rs, h, fun d S1 ⟨h0, h1⟩ v H1 g1 r1 => ⟨isSeq_ty g1.sim r1 h0, hl v [] d [] F S1 H1 P Q g1.sim r1 .nil h1 (c.mono g1)⟩⟩
/-- xs.append(y) -/
def vAppend : D → List D → Sto → DK → Prop
  | .ref a, [d], S, Q => match S a with
    | some (.lst ds) => ds.length < sizeLine ∧ Q .non (sup S a (.lst (ds ++ [d])))
    | _ => False
  | _, _, _, _ => False
theorem lr_append : LRM X.K rAppend vAppend := fun x xs dx ds F S H P Q sm rx rxs q c => by
  cases rx <;> first | exact (q : False).elim | skip
  rename_i a
  cases rxs with
  | nil => exact (q : False).elim
  | cons r1 r2 =>
  cases r2 with
  | cons _ _ => exact (q : False).elim
  | nil =>
  simp only [vAppend] at q
  split at q
  · rename_i ds e
    obtain ⟨vs, e1, rv⟩ := sm.lst e
    exact ⟨a, vs, _, rfl, rfl, e1, by rw [rv.length]; exact q.1, c.put (o := .lst (vs ++ [_])) (u' := .lst (ds ++ [_])) sm e ⟨_, rfl, rv.append (.cons r1 .nil)⟩ .non q.2⟩
  · exact q.elim
/-- xs.pop() -/
def vPop : D → List D → Sto → DK → Prop
  | .ref a, [], S, Q => match S a with
    | some (.lst ds) => match ds[ds.length - 1]? with | some d => Q d (sup S a (.lst ds.dropLast)) | none => False
    | _ => False
  | _, _, _, _ => False
theorem RelL.dropLast {K : PySem.W.Frag} {G : Hp} {xs : List V} {ds : List D} (r : RelL K G xs ds) : RelL K G xs.dropLast ds.dropLast := by
  rw [List.dropLast_eq_take, List.dropLast_eq_take, r.length]
  exact r.take _
theorem lr_pop : LRM X.K rPop vPop := fun x xs dx ds F S H P Q sm rx rxs q c => by
  cases rx <;> first | exact (q : False).elim | skip
  rename_i a
  cases rxs with
  | cons _ _ => exact (q : False).elim
  | nil =>
  simp only [vPop] at q
  split at q
  · rename_i ds e
    obtain ⟨vs, e1, rv⟩ := sm.lst e
    split at q
    · rename_i d e2
      obtain ⟨v, e3, r3⟩ := rv.get e2
      exact ⟨a, vs, v, rfl, rfl, e1, by rw [rv.length]; exact e3, c.put (o := .lst vs.dropLast) (u' := .lst ds.dropLast) sm e ⟨_, rfl, rv.dropLast⟩ r3 q⟩
    · exact q.elim
  · exact q.elim
end
end L3

set_option Elab.async false
set_option maxRecDepth 100000
set_option linter.all false
set_option maxHeartbeats 2000000
namespace L3
open PySem PySem.Spec PyProof.Rows L2
/-! ### defs and their promises -/
abbrev DSp := List D → Sto → DK → Prop
/-- nothing is known -/
def KG.top (K : PySem.W.Frag) : KG K := ⟨fun _ _ _ => True, fun _ _ _ => True.intro, fun _ _ _ => True.intro, fun _ _ _ _ => True.intro⟩
theorem Ct.top {K : PySem.W.Frag} {Γ : KG K} {F : Addr → Bool} {S : Sto} {H : Hp} {P : DK} {Q : VK} (sm : Sim Γ F S H) (c : Ct Γ F S H P Q) : Ct (KG.top K) F S H P Q := fun d S' h v H' g r => c d S' h v H' (.of sm g.b) r
theorem Sim.top {K : PySem.W.Frag} {Γ : KG K} {F : Addr → Bool} {S : Sto} {H : Hp} (sm : Sim Γ F S H) : Sim (KG.top K) F S H := ⟨sm.toSimB, True.intro⟩
def lfSp (K : PySem.W.Frag) (sp : DSp) : Sp := fun vs H Q _ => ∃ F ds S P, Sim (KG.top K) F S H ∧ RelL K (fz F S H) vs ds ∧ sp ds S P ∧ Ct (KG.top K) F S H P Q
abbrev FnD (P : Program) (w : World) (K : PySem.W.Frag) (mg : Str → Option Value) (base : Heap) (k : Nat) (f : Addr) (fd : FuncData) (ps : List Str) (sp : DSp) : Prop := FnOk P w K mg base CX0 k f fd ps (lfSp K sp)
abbrev dCall (sp : DSp) (t : DTA) : DTE := fun δ S Q => t δ S fun ds S1 => sp ds S1 Q
section
variable {X : Cx} {Γ : KG X.K} {k : Nat} {f : Addr} {fd : FuncData} {ps : List Str} {sp : DSp} {x : Str} {p pos : Pos} {e : Expr} {es : List Expr} {t : DTA}
theorem dpe_call (F : FnD X.prog X.w X.K X.mg X.base k f fd ps sp) (hr : Room k X.A) (hg : Gl X x) (hm : X.mg x = some (.ref f)) (hk : PySem.W.keepIn X.K (.ref f) = true) (hb : Binds X.K fd ps [])
    (ha : DPA X Γ (e :: es) t) (hdb : (x == ("__debug__" : Str)) = false := by decide) (he : starEach (e :: es) X.env = (false, eval e X.env) :: starEach es X.env := by rfl) (hpl : (backTo pos (starEach es X.env)).any (·.1) = false := by rfl) :
    DPE X Γ (.Call (.Name x p) (e :: es) [] pos) (dCall sp t) :=
  PEw (pe_call F hr hg hm hk hb .nil pass0 ha hdb he hpl) fun σ H Q ⟨F, δ, S, P, sm, rs, h, c⟩ => ⟨F, δ, S, _, sm, rs, h, fun ds S1 h1 vs H1 g1 r1 => by
    show lfSp X.K sp (vs ++ []) H1 Q E0
    rw [List.append_nil]
    exact ⟨F, ds, S1, P, g1.sim.top, r1, h1, (c.mono g1).top g1.sim⟩⟩
theorem dpe_call0 (F : FnD X.prog X.w X.K X.mg X.base k f fd ps sp) (hr : Room k X.A) (hg : Gl X x) (hm : X.mg x = some (.ref f)) (hk : PySem.W.keepIn X.K (.ref f) = true) (hb : Binds X.K fd ps [])
    (hdb : (x == ("__debug__" : Str)) = false := by decide) : DPE X Γ (.Call (.Name x p) [] [] pos) (dCall sp dNil) :=
  PEw (pe_call0 F hr hg hm hk hb .nil pass0 hdb) fun σ H Q ⟨F, δ, S, P, sm, rs, h, c⟩ => ⟨F, [], S, P, sm.top, .nil, h, c.top sm⟩
end
/-! what is handed back: parts of the store let go, lists that nobody changes any more -/
mutual
inductive Lw (S' S'' : Sto) : D → D → Prop
  | refl (d : D) : Lw S' S'' d d
  | frz {a : Addr} {ds es : List D} : S' a = some (.lst ds) → S'' a = none → LwL S' S'' ds es → Lw S' S'' (.ref a) (.lst es)
  | tup {ds es : List D} : LwL S' S'' ds es → Lw S' S'' (.tup ds) (.tup es)
inductive LwL (S' S'' : Sto) : List D → List D → Prop
  | nil : LwL S' S'' [] []
  | cons {d e : D} {ds es : List D} : Lw S' S'' d e → LwL S' S'' ds es → LwL S' S'' (d :: ds) (e :: es)
end
theorem LwL.refl {S' S'' : Sto} : ∀ ds : List D, LwL S' S'' ds ds
  | [] => .nil
  | d :: ds => .cons (.refl d) (LwL.refl ds)
section
variable {K : PySem.W.Frag} {Γ : KG K} {F : Addr → Bool} {S' S'' : Sto} {H : Hp}
theorem fz_less (h : ∀ a o, S'' a = some o → S' a = some o) : Same (fz F S' H) (fz F S'' H) := fun b x e => by
  obtain ⟨h0, h1, h2⟩ := fz_of e
  rw [fz_none h0 ?_]
  · exact h2
  · cases q : S'' b with
    | none => rfl
    | some u => rw [h b u q] at h1; cases h1
mutual
theorem Lw.rel (sm : Sim Γ F S' H) (h : ∀ a o, S'' a = some o → S' a = some o) : ∀ {d e : D} {v : V}, Lw S' S'' d e → Rel K (fz F S' H) v d → Rel K (fz F S'' H) v e
  | _, _, _, .refl d, r => r.mono (fz_less h)
  | _, _, _, .frz (a := a) h1 h2 l, r => by
    cases r
    obtain ⟨vs, e1, r1⟩ := sm.lst h1
    refine .lst ?_ (LwL.rel sm h l r1)
    rw [fz_none (sm.at_ _ _ h1).1 h2]
    exact e1
  | _, _, _, .tup l, r => by
    cases r with
    | tup hs rl => exact .tup (SqX.mono (fz_less h) hs) (LwL.rel sm h l rl)
theorem LwL.rel (sm : Sim Γ F S' H) (h : ∀ a o, S'' a = some o → S' a = some o) : ∀ {d e : List D} {v : List V}, LwL S' S'' d e → RelL K (fz F S' H) v d → RelL K (fz F S'' H) v e
  | _, _, _, .nil, .nil => .nil
  | _, _, _, .cons a b, .cons r t => .cons (Lw.rel sm h a r) (LwL.rel sm h b t)
end
end
/-- P holds of what is left -/
def Fin_ (P : DK) : DK := fun d S' => ∃ e S'', (∀ a o, S'' a = some o → S' a = some o) ∧ Lw S' S'' d e ∧ P e S''
theorem Fin_.of {P : DK} {d : D} {S : Sto} (h : P d S) : Fin_ P d S := ⟨d, S, fun _ _ q => q, .refl d, h⟩
theorem Ct.fin {K : PySem.W.Frag} {Γ : KG K} {F : Addr → Bool} {S : Sto} {H : Hp} {P : DK} {Q : VK} (sm : Sim Γ F S H) (c : Ct Γ F S H P Q) : Ct Γ F S H (Fin_ P) Q := fun d S' ⟨e, S'', h1, h2, h3⟩ v H' g r =>
  c e S'' h3 v H' (Go.drop sm g h1) (h2.rel g.sim h1 r)
abbrev dstart : List Str → List D → DSt
  | [], _ => []
  | _ :: N, [] => none :: dstart N []
  | _ :: N, d :: ds => some d :: dstart N ds
theorem rels_start {K : PySem.W.Frag} {G : Hp} : ∀ {N : List Str} {vs : List V} {ds : List D}, RelL K G vs ds → ds.length ≤ N.length → RelS K G (L2.start N vs) (dstart N ds)
  | [], _, _, .nil, _ => .nil
  | [], _, _, .cons _ _, h => by simp at h
  | x :: N, _, _, .nil, h => by
    have q := rels_start (N := N) (K := K) (G := G) .nil (Nat.zero_le _)
    exact .skip q
  | x :: N, _, _, .cons r t, h => by
    have q := rels_start (N := N) t (by simpa using h)
    have e : ∀ (v : V) (vs : List V), L2.start (x :: N) (v :: vs) = some v :: L2.start N vs := fun v vs => by
      unfold L2.start
      simp
    rw [e]
    exact .cons r q
/-! promises by their arguments -/
abbrev a0 (sp : Sto → DK → Prop) : DSp := fun ds S Q => match ds with | [] => sp S Q | _ => False
abbrev a1 (sp : D → Sto → DK → Prop) : DSp := fun ds S Q => match ds with | [a] => sp a S Q | _ => False
abbrev a2 (sp : D → D → Sto → DK → Prop) : DSp := fun ds S Q => match ds with | [a, b] => sp a b S Q | _ => False
abbrev a3 (sp : D → D → D → Sto → DK → Prop) : DSp := fun ds S Q => match ds with | [a, b, c] => sp a b c S Q | _ => False
abbrev a4 (sp : D → D → D → D → Sto → DK → Prop) : DSp := fun ds S Q => match ds with | [a, b, c, d] => sp a b c d S Q | _ => False
abbrev a5 (sp : D → D → D → D → D → Sto → DK → Prop) : DSp := fun ds S Q => match ds with | [a, b, c, d, e] => sp a b c d e S Q | _ => False
abbrev a6 (sp : D → D → D → D → D → D → Sto → DK → Prop) : DSp := fun ds S Q => match ds with | [a, b, c, d, e, f] => sp a b c d e f S Q | _ => False
theorem a0_len {sp} : ∀ ds S P, a0 sp ds S P → ds.length = 0
  | [], _, _, _ => rfl
  | _ :: _, _, _, h => (h : False).elim
theorem a1_len {sp} : ∀ ds S P, a1 sp ds S P → ds.length = 1
  | [_], _, _, _ => rfl
  | [], _, _, h | _ :: _ :: _, _, _, h => (h : False).elim
theorem a2_len {sp} : ∀ ds S P, a2 sp ds S P → ds.length = 2
  | [_, _], _, _, _ => rfl
  | [], _, _, h | [_], _, _, h | _ :: _ :: _ :: _, _, _, h => (h : False).elim
theorem a3_len {sp} : ∀ ds S P, a3 sp ds S P → ds.length = 3
  | [_, _, _], _, _, _ => rfl
  | [], _, _, h | [_], _, _, h | [_, _], _, _, h | _ :: _ :: _ :: _ :: _, _, _, h => (h : False).elim
theorem a4_len {sp} : ∀ ds S P, a4 sp ds S P → ds.length = 4
  | [_, _, _, _], _, _, _ => rfl
  | [], _, _, h | [_], _, _, h | [_, _], _, _, h | [_, _, _], _, _, h | _ :: _ :: _ :: _ :: _ :: _, _, _, h => (h : False).elim
theorem a5_len {sp} : ∀ ds S P, a5 sp ds S P → ds.length = 5
  | [_, _, _, _, _], _, _, _ => rfl
  | [], _, _, h | [_], _, _, h | [_, _], _, _, h | [_, _, _], _, _, h | [_, _, _, _], _, _, h | _ :: _ :: _ :: _ :: _ :: _ :: _, _, _, h => (h : False).elim
theorem a6_len {sp} : ∀ ds S P, a6 sp ds S P → ds.length = 6
  | [_, _, _, _, _, _], _, _, _ => rfl
  | [], _, _, h | [_], _, _, h | [_, _], _, _, h | [_, _, _], _, _, h | [_, _, _, _], _, _, h | [_, _, _, _, _], _, _, h | _ :: _ :: _ :: _ :: _ :: _ :: _ :: _, _, _, h => (h : False).elim
/-- what follows a def's body -/
abbrev DEnds.of (P : DK) : DEnds := { nx := fun _ S' => Fin_ P .non S', rt := Fin_ P }
section
variable {P : Program} {w : World} {K : PySem.W.Frag} {Γ : KG K} {mg : Str → Option Value} {base : Heap}
/-- a def: its derivation, its reading -/
theorem FnD.mk {x qual : Str} {st : Stmt} {f : Addr} {fd : FuncData} {N ps : List Str} {k : Nat} {sp : DSp} {t : DTS} (Fn : Fun K x qual st f fd) (Sc : FnScope N ps (defScope st)) (len : ∀ ds S P, sp ds S P → ds.length = ps.length)
    (hb : ∀ (cdv : Value) (A : Around) (outer : List Env) (s : Shared) (H : Hp) (E : XK), Room k (A.deeper (envOfC qual (defScope st) s.heap.objs.size f cdv)) → DPSs (cxOf CX0 P w K mg base N qual (defScope st) f cdv A outer s H E).nox (KG.top K) (defBody st) t)
    (hread : ∀ ds S P, sp ds S P → t (DEnds.of P) (dstart N ds) S) : FnD P w K mg base (k + 1) f fd ps sp := by
  refine Fn.ok Sc (fun vs H Q E ⟨F, ds, S, P, sm, rl, h, c⟩ => by rw [rl.length]; exact len _ _ _ h) fun cdv A outer s H vs Q E hr ⟨F, ds, S, P, sm, rl, h, c⟩ => ?_
  have hle : ps.length ≤ N.length := by
    have := congrArg List.length Sc.pre
    rw [List.length_take] at this
    omega
  refine ⟨_, hb cdv A outer s H E hr, F, dstart N ds, S, _, sm, rels_start rl (by rw [len _ _ _ h]; exact hle), hread ds S P h, ⟨fun δ' S' h' σ' H' g rs' => ?_, (c.fin sm), fun _ _ q => q.elim, fun _ _ q => q.elim⟩⟩
  exact (c.fin sm) _ _ h' _ _ g .non
/-- the law itself -/
def spTrue : DSp := fun ds S P => ∃ ns : List Int, ds = [.ro (ns.map .int)] ∧ ns.length ≤ 63 ∧ ∀ S', P (.bl true) S'
def spLaw (K : PySem.W.Frag) : Sp := fun vs H Q _ => ∃ (a : Addr) (ns : List Int), vs = [.ref a] ∧ SqL K H a (ns.map V.int) ∧ ns.length ≤ 63 ∧ ∀ H', Q (.bl true) H'
theorem FnD.law {k : Nat} {f : Addr} {fd : FuncData} (F : FnD P w K mg base k f fd ["script"] spTrue) : FnOk P w K mg base CX0 k f fd ["script"] (spLaw K) :=
  F.imp fun vs H Q E ⟨a, ns, e, hs, hl, q⟩ => by
    subst e
    have e0 : fz (fun _ => false) (fun _ => none) H = H := rfl
    refine ⟨fun _ => false, [.ro (ns.map .int)], fun _ => none, fun d _ => d = .bl true, ⟨⟨fun a o (z : none = some o) => (nomatch z), fun a (z : false = true) => (nomatch z)⟩, True.intro⟩, ?_, ⟨ns, rfl, hl, fun _ => rfl⟩, fun d S' e v H' g r => ?_⟩
    · rw [e0]
      exact .cons (.ro hs (.ofInts ns)) .nil
    · subst e
      cases r
      exact q H'
end
end L3

set_option Elab.async false
set_option maxRecDepth 100000
set_option linter.all false
set_option maxHeartbeats 2000000
namespace L3
open PySem L2
/-! ### lemmas for running readings -/
section
variable {α : Type} {a b c d e f g : α} {r : List α}
theorem atI_nat {xs : List α} {i : Nat} : atI xs (i : Int) = xs[i]? := by
  unfold atI ixN
  rw [if_pos (by omega)]
  by_cases h : i < xs.length
  · rw [if_pos (by omega)]
    simp
  · rw [if_neg (by omega)]
    simp at h
    simp [h]
theorem atI_int {xs : List α} {i : Int} (h0 : 0 ≤ i) : atI xs i = xs[i.toNat]? := by
  obtain ⟨n, rfl⟩ := Int.eq_ofNat_of_zero_le h0
  exact atI_nat
@[simp] theorem atI_0 : atI (a :: r) 0 = some a := atI_nat (i := 0)
@[simp] theorem atI_1 : atI (a :: b :: r) 1 = some b := atI_nat (i := 1)
@[simp] theorem atI_2 : atI (a :: b :: c :: r) 2 = some c := atI_nat (i := 2)
@[simp] theorem atI_3 : atI (a :: b :: c :: d :: r) 3 = some d := atI_nat (i := 3)
@[simp] theorem atI_4 : atI (a :: b :: c :: d :: e :: r) 4 = some e := atI_nat (i := 4)
@[simp] theorem atI_5 : atI (a :: b :: c :: d :: e :: f :: r) 5 = some f := atI_nat (i := 5)
end
@[simp] theorem toPs_map_int (p : List Int) : toPs (p.map .int) = p.map .int := by
  induction p with
  | nil => rfl
  | cons x p ih => simp only [List.map_cons, toPs, toP, ih]
@[simp] theorem okEs_map_int (p : List Int) : okEs (p.map .int) = true := by
  induction p with
  | nil => rfl
  | cons x p ih => simp only [List.map_cons, okEs, okE, ih, Bool.and_self]
@[simp] theorem deps_map_int (p : List Int) : deps (p.map .int) = 0 := by
  induction p with
  | nil => rfl
  | cons x p ih => simp only [List.map_cons, deps, dep, ih, Nat.max_self]
theorem eqvAll_ints : ∀ (p q : List Int), PyData.eqvAll (p.map .int) (q.map .int) = decide (p = q)
  | [], [] => by simp [PyData.eqvAll]
  | [], _ :: _ => by simp [PyData.eqvAll]
  | _ :: _, [] => by simp [PyData.eqvAll]
  | a :: p, b :: q => by simp only [List.map_cons, PyData.eqvAll, PyData.eqv, eqvAll_ints p q, List.cons.injEq, Bool.decide_and]; rfl
theorem cut_from {α : Type} (xs : List α) (n : Nat) : cut xs (some (n : Int)) none = xs.drop n := by
  unfold cut
  rw [HT.sIx_nat, HT.sIx_none]
  by_cases h : n ≤ xs.length
  · rw [Nat.min_eq_left h, List.take_of_length_le (by simp)]
  · rw [Nat.min_eq_right (by omega), List.drop_eq_nil_of_le (Nat.le_refl _), List.drop_eq_nil_of_le (by omega)]
    simp
theorem cut_to {α : Type} (xs : List α) (n : Nat) : cut xs none (some (n : Int)) = xs.take n := by
  unfold cut
  rw [HT.sIx_nat, HT.sIx_none]
  simp only [List.drop_zero, Nat.sub_zero]
  by_cases h : n ≤ xs.length
  · rw [Nat.min_eq_left h]
  · rw [Nat.min_eq_right (by omega), List.take_of_length_le (Nat.le_refl _), List.take_of_length_le (by omega)]
theorem cut_map {α β : Type} (f : α → β) (xs : List α) (lo hi : Option Int) : cut (xs.map f) lo hi = (cut xs lo hi).map f := by
  unfold cut
  rw [List.length_map, List.map_take, List.map_drop]
/-- a comprehension whose elements are told by a function, nothing changes -/
theorem lcL_pure {kp : Sto → Prop} {te : DTE} {vs : List Nat} {δ : DSt} {i : Nat} {S : Sto} {Q : DK} (f : D → D) (hk : kp S) : ∀ (ds acc : List D), acc.length + ds.length ≤ sizeLine →
    (∀ d ∈ ds, ∀ P : DK, P (f d) S → te (dset (dwipe δ vs) i (some d)) S P) → Q (.lst (acc ++ ds.map f)) S → lcL kp (dTg (.nm i)) dYes te vs δ ds acc S Q
  | [], acc, _, _, q => ⟨hk, by simpa using q⟩
  | d :: ds, acc, hz, he, q => by
    refine ⟨hk, by simp only [List.length_cons] at hz; omega, ?_⟩
    show (if true = true then te _ S _ else _)
    rw [if_pos rfl]
    refine he d List.mem_cons_self _ ?_
    refine lcL_pure f hk ds (acc ++ [f d]) (by simp only [List.length_append, List.length_cons, List.length_nil] at hz ⊢; omega) (fun e h => he e (List.mem_cons_of_mem _ h)) ?_
    simpa using q
/-- a for, by an invariant over the turn's number -/
theorem forL_inv {kp : Sto → Prop} {g : DTG} {tb : DTS} {D' : DEnds} (I : Nat → DSt → Sto → Prop) (hk : ∀ i δ S, I i δ S → kp S) : ∀ (ds : List D) (i : Nat) (δ : DSt) (S : Sto), I i δ S →
    (∀ (j : Nat) (d : D) δ S, ds[j]? = some d → I (i + j) δ S → ∀ D2 : DEnds, D2.rt = D'.rt → D2.bk = D'.nx → (∀ δ S, I (i + j + 1) δ S → D2.nx δ S) → (∀ δ S, I (i + j + 1) δ S → D2.ct δ S) → g d δ S fun δ1 S1 => tb D2 δ1 S1) →
    (∀ δ S, I (i + ds.length) δ S → D'.nx δ S) → forL kp g tb ds D' δ S
  | [], i, δ, S, h, _, he => ⟨hk _ _ _ h, he _ _ h⟩
  | d :: ds, i, δ, S, h, hs, he => by
    have rec_ : ∀ δ S, I (i + 1) δ S → forL kp g tb ds D' δ S := fun δ S h' => forL_inv I hk ds (i + 1) δ S h' (fun j e δ S h1 h2 D2 a b c c' => hs (j + 1) e δ S (by simpa using h1) (by rw [show i + (j + 1) = i + 1 + j by omega]; exact h2) D2 a b
        (fun δ S z => c δ S (by rw [show i + 1 + j + 1 = i + (j + 1) + 1 by omega]; exact z)) (fun δ S z => c' δ S (by rw [show i + 1 + j + 1 = i + (j + 1) + 1 by omega]; exact z)))
      (fun δ S z => he δ S (by rw [List.length_cons, show i + (ds.length + 1) = i + 1 + ds.length by omega]; exact z))
    exact ⟨hk _ _ _ h, hs 0 d δ S rfl h { D' with nx := forL kp g tb ds D', ct := forL kp g tb ds D', bk := D'.nx } rfl rfl rec_ rec_⟩
/-- a while, by an invariant over the most turns that are left -/
theorem whileN_inv {c : DTT} {tb : DTS} {D' : DEnds} (I : Nat → DSt → Sto → Prop)
    (hs : ∀ n δ S, I n δ S → ∀ D2 : DEnds, D2.rt = D'.rt → D2.bk = D'.nx → (∀ k δ S, n = k + 1 → I k δ S → D2.nx δ S) → (∀ k δ S, n = k + 1 → I k δ S → D2.ct δ S) → c δ S fun b S1 => if b = true then tb D2 δ S1 else D'.nx δ S1) :
    ∀ n δ S, I n δ S → whileN c tb (n + 1) D' δ S
  | 0, δ, S, h => hs 0 δ S h { D' with nx := whileN c tb 0 D', ct := whileN c tb 0 D', bk := D'.nx } rfl rfl (fun k δ S e => by omega) (fun k δ S e => by omega)
  | n + 1, δ, S, h => hs (n + 1) δ S h { D' with nx := whileN c tb (n + 1) D', ct := whileN c tb (n + 1) D', bk := D'.nx } rfl rfl
      (fun k δ S e z => by rw [show n = k by omega]; exact whileN_inv I hs k δ S z) (fun k δ S e z => by rw [show n = k by omega]; exact whileN_inv I hs k δ S z)
theorem Fin_.same {P : DK} {d : D} {S : Sto} (h : P d S) : Fin_ P d S := .of h
/-! ### equations for running readings: nothing is opened that is not known -/
def vAt : Option D → Sto → DK → Prop
  | some d, S, Q => Q d S
  | none, _, _ => False
theorem vAt_some {d S Q} : vAt (some d) S Q = Q d S := rfl
def vAtL : Option SO → Int → Sto → DK → Prop
  | some (.lst ds), i, S, Q => vAt (atI ds i) S Q
  | _, _, _, _ => False
theorem vAtL_lst {ds i S Q} : vAtL (some (.lst ds)) i S Q = vAt (atI ds i) S Q := rfl
section
variable {a b : Addr} {i j : Int} {x y d : D} {xs ys ds : List D} {s t : Str} {p q : Bool} {S : Sto} {Q : DK} {n : String} {lo hi : Option Int}
theorem vIx_tup : vIx (.tup ds) (.int i) S Q = vAt (atI ds i) S Q := by simp only [vIx]; cases atI ds i <;> rfl
theorem vIx_lst : vIx (.lst ds) (.int i) S Q = vAt (atI ds i) S Q := by simp only [vIx]; cases atI ds i <;> rfl
theorem vIx_ro : vIx (.ro ds) (.int i) S Q = vAt (atI ds i) S Q := by simp only [vIx]; cases atI ds i <;> rfl
theorem vIx_ref : vIx (.ref a) (.int i) S Q = vAtL (S a) i S Q := by
  simp only [vIx]
  rcases S a with _ | (ds | _ | _) <;> first | rfl | (simp only [vAtL]; cases atI ds i <;> rfl)
theorem vIx_str : vIx (.str s) (.int i) S Q = (s.length ≤ sizeLine ∧ match atI s.cps.toList i with | some c => Q (.str ⟨#[c]⟩) S | none => False) := rfl
theorem vSl_tup : vSl (.tup ds) lo hi S Q = Q (.tup (cut ds lo hi)) S := rfl
theorem vSl_lst : vSl (.lst ds) lo hi S Q = Q (.lst (cut ds lo hi)) S := rfl
theorem vSl_ro : vSl (.ro ds) lo hi S Q = Q (.lst (cut ds lo hi)) S := rfl
theorem vSl_str : vSl (.str s) lo hi S Q = (s.length ≤ sizeLine ∧ Q (.str (cutS s lo hi)) S) := rfl
def vSlL : Option SO → Option Int → Option Int → Sto → DK → Prop
  | some (.lst ds), lo, hi, S, Q => Q (.lst (cut ds lo hi)) S
  | _, _, _, _, _ => False
theorem vSlL_lst : vSlL (some (.lst ds)) lo hi S Q = Q (.lst (cut ds lo hi)) S := rfl
theorem vSl_ref : vSl (.ref a) lo hi S Q = vSlL (S a) lo hi S Q := by
  simp only [vSl]
  rcases S a with _ | (_ | _ | _) <;> rfl
theorem vLen_str : vLen [.str s] S Q = (s.length ≤ sizeLine ∧ Q (.int s.length) S) := rfl
theorem vLen_tup : vLen [.tup ds] S Q = Q (.int ds.length) S := rfl
theorem vLen_lst : vLen [.lst ds] S Q = Q (.int ds.length) S := rfl
theorem vLen_ro : vLen [.ro ds] S Q = Q (.int ds.length) S := rfl
def vLenL : Option SO → Sto → DK → Prop
  | some (.lst ds), S, Q => Q (.int ds.length) S
  | some (.dK kvs), S, Q => Q (.int kvs.length) S
  | _, _, _ => False
theorem vLenL_lst : vLenL (some (.lst ds)) S Q = Q (.int ds.length) S := rfl
theorem vLenL_dK {kvs : List (Key × D)} : vLenL (some (.dK kvs)) S Q = Q (.int kvs.length) S := rfl
theorem vLen_ref : vLen [.ref a] S Q = vLenL (S a) S Q := by
  simp only [vLen]
  rcases S a with _ | (_ | _ | _) <;> rfl
theorem vAdd_int : vAdd (.int i) (.int j) S Q = Q (.int (i + j)) S := rfl
theorem vAdd_str : vAdd (.str s) (.str t) S Q = (s.length + t.length ≤ sizeLine ∧ Q (.str (s ++ t)) S) := rfl
theorem vAdd_tup : vAdd (.tup xs) (.tup ys) S Q = (xs.length + ys.length ≤ sizeLine ∧ Q (.tup (xs ++ ys)) S) := rfl
theorem vAdd_lst : vAdd (.lst xs) (.lst ys) S Q = (xs.length + ys.length ≤ sizeLine ∧ Q (.lst (xs ++ ys)) S) := rfl
def vAddL : Option SO → List D → Sto → DK → Prop
  | some (.lst ds), ys, S, Q => ds.length + ys.length ≤ sizeLine ∧ Q (.lst (ds ++ ys)) S
  | _, _, _, _ => False
theorem vAddL_lst : vAddL (some (.lst ds)) ys S Q = (ds.length + ys.length ≤ sizeLine ∧ Q (.lst (ds ++ ys)) S) := rfl
theorem vAdd_ref : vAdd (.ref a) (.lst ys) S Q = vAddL (S a) ys S Q := by
  simp only [vAdd]
  rcases S a with _ | (_ | _ | _) <;> rfl
theorem vSub_int : vSub (.int i) (.int j) S Q = Q (.int (i - j)) S := rfl
theorem vLt_int : vLt (.int i) (.int j) S Q = Q (.bl (decide (i < j))) S := rfl
theorem vLe_int : vLe (.int i) (.int j) S Q = Q (.bl (decide (i ≤ j))) S := rfl
theorem vGt_int : vGt (.int i) (.int j) S Q = Q (.bl (decide (j < i))) S := rfl
theorem vGe_int : vGe (.int i) (.int j) S Q = Q (.bl (decide (j ≤ i))) S := rfl
theorem vMod_int : vMod (.int i) (.int j) S Q = (0 < j ∧ Q (.int (i % j)) S) := rfl
theorem vDiv_int : vDiv (.int i) (.int j) S Q = (CDiv i j ∧ Q (.int (i / j)) S) := rfl
theorem vPow_int : vPow (.int i) (.int j) S Q = (CPow i j ∧ Q (.int (i ^ j.toNat)) S) := rfl
theorem vShl_int : vShl (.int i) (.int j) S Q = (CPow i j ∧ Q (.int (i * 2 ^ j.toNat)) S) := rfl
theorem vMul_int : vMul (.int i) (.int j) S Q = ((CMul i j ∨ CMulW i j) ∧ Q (.int (i * j)) S) := rfl
theorem vMul_tup : vMul (.tup ds) (.int j) S Q = (-1000 ≤ j ∧ j ≤ 1000 ∧ ds.length ≤ 1000 ∧ Q (.tup (List.replicate j.toNat ds).flatten) S) := rfl
theorem vMul_lst : vMul (.lst ds) (.int j) S Q = (-(2 ^ 63) ≤ j ∧ j < 2 ^ 63 ∧ ds.length * j.toNat ≤ sizeLine ∧ Q (.lst (List.replicate j.toNat ds).flatten) S) := rfl
theorem vEq_int : vEq (.int i) (.int j) S Q = Q (.bl (decide (i = j))) S := rfl
theorem vEq_str : vEq (.str s) (.str t) S Q = Q (.bl (decide (s = t))) S := rfl
theorem vEq_bl : vEq (.bl p) (.bl q) S Q = Q (.bl (decide (p = q))) S := rfl
theorem vEq_tup : vEq (.tup xs) (.tup ys) S Q = (okE (.tup xs) = true ∧ okE (.tup ys) = true ∧ dep (.tup xs) ≤ 64 ∧ dep (.tup ys) ≤ 64 ∧ Q (.bl (eqv (.tup xs) (.tup ys))) S) := rfl
theorem vEq_lst : vEq (.lst xs) (.lst ys) S Q = (okE (.lst xs) = true ∧ okE (.lst ys) = true ∧ dep (.lst xs) ≤ 64 ∧ dep (.lst ys) ≤ 64 ∧ Q (.bl (eqv (.lst xs) (.lst ys))) S) := rfl
theorem vNe_int : vNe (.int i) (.int j) S Q = Q (.bl (!decide (i = j))) S := rfl
theorem vNe_str : vNe (.str s) (.str t) S Q = Q (.bl (!decide (s = t))) S := rfl
theorem vNe_bl : vNe (.bl p) (.bl q) S Q = Q (.bl (!decide (p = q))) S := rfl
theorem vNe_tup : vNe (.tup xs) (.tup ys) S Q = (okE (.tup xs) = true ∧ okE (.tup ys) = true ∧ dep (.tup xs) ≤ 64 ∧ dep (.tup ys) ≤ 64 ∧ Q (.bl (!eqv (.tup xs) (.tup ys))) S) := rfl
theorem isN_non : isN .non = true := rfl
theorem isN_bl : isN (.bl p) = false := rfl
theorem isN_int : isN (.int i) = false := rfl
theorem isN_str : isN (.str s) = false := rfl
theorem isN_tup : isN (.tup ds) = false := rfl
theorem isN_lst : isN (.lst ds) = false := rfl
theorem isN_ref : isN (.ref a) = false := rfl
theorem vIs_non : vIs x .non S Q = Q (.bl (isN x)) S := rfl
theorem vIsNot_non : vIsNot x .non S Q = Q (.bl (!isN x)) S := rfl
theorem vNeg_int : vNeg (.int i) S Q = Q (.int (-i)) S := rfl
theorem vInt_int : vInt [.int i] S Q = Q (.int i) S := rfl
theorem vInt_bl : vInt [.bl p] S Q = Q (.int (if p then 1 else 0)) S := rfl
theorem vBool_int : vBool [.int i] S Q = Q (.bl (i != 0)) S := rfl
theorem vBool_bl : vBool [.bl p] S Q = Q (.bl p) S := rfl
theorem vAbs_int : vAbs [.int i] S Q = Q (.int (if i < 0 then -i else i)) S := rfl
theorem vMin2_int : vMin2 [.int i, .int j] S Q = Q (.int (if j < i then j else i)) S := rfl
theorem vMax2_int : vMax2 [.int i, .int j] S Q = Q (.int (if j > i then j else i)) S := rfl
theorem vTuple_tup : vTuple [.tup ds] S Q = Q (.tup ds) S := rfl
theorem vTuple_lst : vTuple [.lst ds] S Q = Q (.tup ds) S := rfl
def vTupleL : Option SO → Sto → DK → Prop
  | some (.lst ds), S, Q => Q (.tup ds) S
  | _, _, _ => False
theorem vTupleL_lst : vTupleL (some (.lst ds)) S Q = Q (.tup ds) S := rfl
theorem vTuple_ref : vTuple [.ref a] S Q = vTupleL (S a) S Q := by
  simp only [vTuple]
  rcases S a with _ | (_ | _ | _) <;> rfl
theorem vList_tup : vList [.tup ds] S Q = Q (.lst ds) S := rfl
theorem vList_lst : vList [.lst ds] S Q = Q (.lst ds) S := rfl
def vAllO (f : List Bool → Bool) : Option (List Bool) → Sto → DK → Prop
  | some bs, S, Q => Q (.bl (f bs)) S
  | none, _, _ => False
theorem vAllO_some {f : List Bool → Bool} {bs : List Bool} : vAllO f (some bs) S Q = Q (.bl (f bs)) S := rfl
theorem vAll_x : vAll [x] S Q = vAllO (fun bs => bs.all id) ((seqOf S x).bind asBls) S Q := by
  simp only [vAll]
  cases (seqOf S x).bind asBls <;> rfl
theorem vAny_x : vAny [x] S Q = vAllO (fun bs => bs.any id) ((seqOf S x).bind asBls) S Q := by
  simp only [vAny]
  cases (seqOf S x).bind asBls <;> rfl
theorem seqOf_lst : seqOf S (.lst ds) = some ds := rfl
theorem vIsi_x : vIsi [x, .ty n] S Q = vAllO (fun bs => bs.all id) ((isiT x n).map fun b => [b]) S Q := by
  simp only [vIsi]
  cases isiT x n with
  | none => rfl
  | some b => simp [vAllO]
theorem vIadd_int : vIadd (.int i) (.int j) S Q = Q (.int (i + j)) S := rfl
theorem vIadd_str : vIadd (.str s) (.str t) S Q = (s.length + t.length ≤ sizeLine ∧ Q (.str (s ++ t)) S) := rfl
def vAppL : Option SO → Addr → D → Sto → DK → Prop
  | some (.lst ds), a, d, S, Q => ds.length < sizeLine ∧ Q .non (sup S a (.lst (ds ++ [d])))
  | _, _, _, _, _ => False
theorem vAppL_lst : vAppL (some (.lst ds)) a d S Q = (ds.length < sizeLine ∧ Q .non (sup S a (.lst (ds ++ [d])))) := rfl
theorem vAppend_ref : vAppend (.ref a) [d] S Q = vAppL (S a) a d S Q := by
  simp only [vAppend]
  rcases S a with _ | (_ | _ | _) <;> rfl
def vSetO : Option SO → Addr → Int → D → Sto → (Sto → Prop) → Prop
  | some (.lst ds), a, k, v, S, Q => match ixN ds.length k with | some j => Q (sup S a (.lst (ds.set j v))) | none => False
  | _, _, _, _, _, _ => False
def vSetN : Option Nat → Addr → List D → D → Sto → (Sto → Prop) → Prop
  | some j, a, ds, v, S, Q => Q (sup S a (.lst (ds.set j v)))
  | none, _, _, _, _, _ => False
theorem vSetN_some {j : Nat} {Q : Sto → Prop} : vSetN (some j) a ds d S Q = Q (sup S a (.lst (ds.set j d))) := rfl
theorem vSetO_lst {Q : Sto → Prop} : vSetO (some (.lst ds)) a i d S Q = vSetN (ixN ds.length i) a ds d S Q := by
  simp only [vSetO]
  cases ixN ds.length i <;> rfl
theorem vSet_ref {Q : Sto → Prop} : vSet (.ref a) (.int i) d S Q = vSetO (S a) a i d S Q := by
  simp only [vSet]
  rcases S a with _ | (_ | _ | _) <;> rfl
theorem isSeq_ref : isSeq S (.ref a) = ∃ ds, S a = some (.lst ds) := rfl
theorem ex_lst : (∃ ds, (some (SO.lst xs)) = some (.lst ds)) = True := by simp
theorem isiT_int_int : isiT (.int i) "int" = some true := rfl
theorem isiT_int_bool : isiT (.int i) "bool" = some false := rfl
theorem isiT_int_tuple : isiT (.int i) "tuple" = some false := rfl
theorem isiT_int_str : isiT (.int i) "str" = some false := rfl
theorem isiT_int_list : isiT (.int i) "list" = some false := rfl
theorem isiT_bl_int : isiT (.bl p) "int" = some true := rfl
theorem isiT_bl_bool : isiT (.bl p) "bool" = some true := rfl
theorem isiT_bl_tuple : isiT (.bl p) "tuple" = some false := rfl
theorem isiT_bl_str : isiT (.bl p) "str" = some false := rfl
theorem isiT_bl_list : isiT (.bl p) "list" = some false := rfl
theorem isiT_non_int : isiT .non "int" = some false := rfl
theorem isiT_non_bool : isiT .non "bool" = some false := rfl
theorem isiT_non_tuple : isiT .non "tuple" = some false := rfl
theorem isiT_non_str : isiT .non "str" = some false := rfl
theorem isiT_non_list : isiT .non "list" = some false := rfl
theorem isiT_str_int : isiT (.str s) "int" = some false := rfl
theorem isiT_str_bool : isiT (.str s) "bool" = some false := rfl
theorem isiT_str_tuple : isiT (.str s) "tuple" = some false := rfl
theorem isiT_str_str : isiT (.str s) "str" = some true := rfl
theorem isiT_str_list : isiT (.str s) "list" = some false := rfl
theorem isiT_tup_int : isiT (.tup ds) "int" = some false := rfl
theorem isiT_tup_bool : isiT (.tup ds) "bool" = some false := rfl
theorem isiT_tup_tuple : isiT (.tup ds) "tuple" = some true := rfl
theorem isiT_tup_str : isiT (.tup ds) "str" = some false := rfl
theorem isiT_tup_list : isiT (.tup ds) "list" = some false := rfl
theorem isiT_lst_int : isiT (.lst ds) "int" = some false := rfl
theorem isiT_lst_bool : isiT (.lst ds) "bool" = some false := rfl
theorem isiT_lst_tuple : isiT (.lst ds) "tuple" = some false := rfl
theorem isiT_lst_str : isiT (.lst ds) "str" = some false := rfl
theorem isiT_lst_list : isiT (.lst ds) "list" = some true := rfl
end
theorem all1 {b : Bool} : [b].all id = b := by simp
/-! ### steps -/
abbrev ml (p : List Int) : List D := p.map .int
section
variable {a b c d e f g x y z : D} {i j : Int} {xs ys ds : List D} {p q : List Int} {s t : Str} {u v : Bool} {S : Sto} {Q : DK} {n : String} {A : Addr} {lo hi : Option Int} {so : SO} {X Y : Prop} {k : Nat}
theorem st_ix0 (h : Q a S) : vIx (.tup (a :: xs)) (.int 0) S Q := by rw [vIx_tup, atI_0]; exact h
theorem st_ix1 (h : Q b S) : vIx (.tup (a :: b :: xs)) (.int 1) S Q := by rw [vIx_tup, atI_1]; exact h
theorem st_ix2 (h : Q c S) : vIx (.tup (a :: b :: c :: xs)) (.int 2) S Q := by rw [vIx_tup, atI_2]; exact h
theorem st_ix3 (h : Q d S) : vIx (.tup (a :: b :: c :: d :: xs)) (.int 3) S Q := by rw [vIx_tup, atI_3]; exact h
theorem st_ix4 (h : Q e S) : vIx (.tup (a :: b :: c :: d :: e :: xs)) (.int 4) S Q := by rw [vIx_tup, atI_4]; exact h
theorem st_lx0 (h : Q a S) : vIx (.lst (a :: xs)) (.int 0) S Q := by rw [vIx_lst, atI_0]; exact h
theorem st_lx1 (h : Q b S) : vIx (.lst (a :: b :: xs)) (.int 1) S Q := by rw [vIx_lst, atI_1]; exact h
theorem st_lx2 (h : Q c S) : vIx (.lst (a :: b :: c :: xs)) (.int 2) S Q := by rw [vIx_lst, atI_2]; exact h
theorem st_lx3 (h : Q d S) : vIx (.lst (a :: b :: c :: d :: xs)) (.int 3) S Q := by rw [vIx_lst, atI_3]; exact h
theorem st_len_p (h : Q (.int (p.length : Nat)) S) : vLen [.tup (p.map .int)] S Q := by rw [vLen_tup, List.length_map]; exact h
theorem st_len_lp (h : Q (.int (p.length : Nat)) S) : vLen [.lst (p.map .int)] S Q := by rw [vLen_lst, List.length_map]; exact h
theorem st_len_rp (h : Q (.int (p.length : Nat)) S) : vLen [.ro (p.map .int)] S Q := by rw [vLen_ro, List.length_map]; exact h
theorem st_len_t (h : Q (.int (ds.length : Nat)) S) : vLen [.tup ds] S Q := h
theorem st_len_l (h : Q (.int (ds.length : Nat)) S) : vLen [.lst ds] S Q := h
theorem st_len_s (h1 : s.length ≤ sizeLine) (h : Q (.int (s.length : Nat)) S) : vLen [.str s] S Q := ⟨h1, h⟩
theorem st_add (h : Q (.int (i + j)) S) : vAdd (.int i) (.int j) S Q := h
theorem st_sub (h : Q (.int (i - j)) S) : vSub (.int i) (.int j) S Q := h
theorem st_iadd (h : Q (.int (i + j)) S) : vIadd (.int i) (.int j) S Q := h
theorem st_neg (h : Q (.int (-i)) S) : vNeg (.int i) S Q := h
theorem st_mod (h1 : 0 < j) (h : Q (.int (i % j)) S) : vMod (.int i) (.int j) S Q := ⟨h1, h⟩
theorem st_div (h1 : 0 < j ∧ j < 1073741824) (h : Q (.int (i / j)) S) : vDiv (.int i) (.int j) S Q := ⟨h1, h⟩
theorem st_mul (h1 : -(2 ^ 64) < i ∧ i < 2 ^ 64) (h : Q (.int (i * j)) S) : vMul (.int i) (.int j) S Q := ⟨.inl (.inl h1), h⟩
theorem st_mul' (h1 : -(2 ^ 64) < j ∧ j < 2 ^ 64) (h : Q (.int (i * j)) S) : vMul (.int i) (.int j) S Q := ⟨.inl (.inr h1), h⟩
theorem st_add_pp (h1 : p.length + q.length ≤ sizeLine) (h : Q (.tup ((p ++ q).map .int)) S) : vAdd (.tup (p.map .int)) (.tup (q.map .int)) S Q := by
  rw [vAdd_tup, List.length_map, List.length_map, ← List.map_append]; exact ⟨h1, h⟩
theorem st_add_p1 (h1 : p.length + 1 ≤ sizeLine) (h : Q (.tup ((p ++ [i]).map .int)) S) : vAdd (.tup (p.map .int)) (.tup [.int i]) S Q := by
  rw [vAdd_tup, List.length_map, show [D.int i] = [i].map .int from rfl, ← List.map_append]; exact ⟨h1, h⟩
theorem st_add_1p (h1 : 1 + p.length ≤ sizeLine) (h : Q (.tup ((i :: p).map .int)) S) : vAdd (.tup [.int i]) (.tup (p.map .int)) S Q := by
  rw [vAdd_tup, List.length_map]; exact ⟨h1, h⟩
theorem st_add_t (h1 : xs.length + ys.length ≤ sizeLine) (h : Q (.tup (xs ++ ys)) S) : vAdd (.tup xs) (.tup ys) S Q := ⟨h1, h⟩
theorem st_add_l (h1 : xs.length + ys.length ≤ sizeLine) (h : Q (.lst (xs ++ ys)) S) : vAdd (.lst xs) (.lst ys) S Q := ⟨h1, h⟩
theorem st_add_s (h1 : s.length + t.length ≤ sizeLine) (h : Q (.str (s ++ t)) S) : vAdd (.str s) (.str t) S Q := ⟨h1, h⟩
theorem st_lt (h : Q (.bl (decide (i < j))) S) : vLt (.int i) (.int j) S Q := h
theorem st_le (h : Q (.bl (decide (i ≤ j))) S) : vLe (.int i) (.int j) S Q := h
theorem st_gt (h : Q (.bl (decide (j < i))) S) : vGt (.int i) (.int j) S Q := h
theorem st_ge (h : Q (.bl (decide (j ≤ i))) S) : vGe (.int i) (.int j) S Q := h
theorem st_eqi (h : Q (.bl (decide (i = j))) S) : vEq (.int i) (.int j) S Q := h
theorem st_nei (h : Q (.bl (!decide (i = j))) S) : vNe (.int i) (.int j) S Q := h
theorem st_eqs (h : Q (.bl (decide (s = t))) S) : vEq (.str s) (.str t) S Q := h
theorem st_nes (h : Q (.bl (!decide (s = t))) S) : vNe (.str s) (.str t) S Q := h
theorem st_eqb (h : Q (.bl (decide (u = v))) S) : vEq (.bl u) (.bl v) S Q := h
theorem st_isn_non (h : Q (.bl true) S) : vIs .non .non S Q := h
theorem st_isn_int (h : Q (.bl false) S) : vIs (.int i) .non S Q := h
theorem st_isn_tup (h : Q (.bl false) S) : vIs (.tup ds) .non S Q := h
theorem st_isn_str (h : Q (.bl false) S) : vIs (.str s) .non S Q := h
theorem st_isn_bl (h : Q (.bl false) S) : vIs (.bl u) .non S Q := h
theorem st_isnt_non (h : Q (.bl false) S) : vIsNot .non .non S Q := h
theorem st_isnt_int (h : Q (.bl true) S) : vIsNot (.int i) .non S Q := h
theorem st_isnt_tup (h : Q (.bl true) S) : vIsNot (.tup ds) .non S Q := h
theorem st_isnt_str (h : Q (.bl true) S) : vIsNot (.str s) .non S Q := h
theorem st_int (h : Q (.int i) S) : vInt [.int i] S Q := h
theorem st_intb (h : Q (.int (if u then 1 else 0)) S) : vInt [.bl u] S Q := h
theorem st_abs (h : Q (.int (if i < 0 then -i else i)) S) : vAbs [.int i] S Q := h
theorem st_min2 (h : Q (.int (if j < i then j else i)) S) : vMin2 [.int i, .int j] S Q := h
theorem st_max2 (h : Q (.int (if j > i then j else i)) S) : vMax2 [.int i, .int j] S Q := h
theorem st_tup_l (h : Q (.tup ds) S) : vTuple [.lst ds] S Q := h
theorem st_tup_t (h : Q (.tup ds) S) : vTuple [.tup ds] S Q := h
theorem st_lst_t (h : Q (.lst ds) S) : vList [.tup ds] S Q := h
theorem st_lst_l (h : Q (.lst ds) S) : vList [.lst ds] S Q := h
theorem st_sl_from (h : Q (.tup ((p.drop k).map .int)) S) : vSl (.tup (p.map .int)) (some (k : Int)) none S Q := by
  rw [vSl_tup, cut_from, ← List.map_drop]; exact h
theorem st_sl_to (h : Q (.tup ((p.take k).map .int)) S) : vSl (.tup (p.map .int)) none (some (k : Int)) S Q := by
  rw [vSl_tup, cut_to, ← List.map_take]; exact h
theorem st_iteT (h : X) : if true = true then X else Y := by rw [if_pos rfl]; exact h
theorem st_iteF (h : Y) : if false = true then X else Y := by rw [if_neg Bool.false_ne_true]; exact h
theorem st_dT {C : Prop} [Decidable C] (hc : C) (h : X) : if decide C = true then X else Y := by rw [if_pos (decide_eq_true hc)]; exact h
theorem st_dF {C : Prop} [Decidable C] (hc : ¬ C) (h : Y) : if decide C = true then X else Y := by rw [if_neg (by simpa using hc)]; exact h
theorem st_not {b : Bool} (h : if b = true then Y else X) : if (!b) = true then X else Y := by
  cases b <;> simpa using h
theorem st_isi {b : Bool} (h1 : isiT x n = some b) (h : Q (.bl b) S) : vIsi [x, .ty n] S Q := by
  rw [vIsi_x, h1]
  show Q (.bl ([b].all id)) S
  rw [all1]; exact h
theorem st_all {bs : List Bool} (h : Q (.bl (bs.all id)) S) : vAll [.lst (bs.map .bl)] S Q := by
  rw [vAll_x, seqOf_lst]; simp only [Option.bind_some, asBls_map]; exact h
end
end L3

set_option Elab.async false
set_option maxRecDepth 100000
set_option linter.all false
set_option maxHeartbeats 2000000
namespace L3
open PySem PySem.Spec PyProof.Rows L2
/-! ### exceptions: what a def may let out -/
abbrev DXK := Str → List (Str × D) → Sto → Prop
abbrev DWX := Str → List (Str × D) → DSt → Sto → Prop
abbrev CTab := Str → Addr
abbrev DSpX := List D → Sto → DK → DXK → Prop
/-- fields that may be read of an exception -/
structure ExF (K : PySem.W.Frag) (ct : CTab) (x : Str) (fs : List (Str × D)) : Prop where
  X : XfC K (ct x)
  no : ∀ n d, (n, d) ∈ fs → PySem.W.findIn K (.ref (ct x)) n = some none
/-- the wish of an exception: its class by its name, its fields -/
def WD {K : PySem.W.Frag} (Γ : KG K) (ct : CTab) (PX : DWX) : WX := fun cls d σ H => ∃ F δ S x fs vs dd, Sim Γ F S H ∧ RelS K (fz F S H) σ δ ∧ cls = .ref (ct x) ∧ d = some dd ∧ fz F S H dd = some (.xd vs) ∧ RelF K (fz F S H) vs fs ∧ ExF K ct x fs ∧ PX x fs δ S
def CtX (K : PySem.W.Frag) (ct : CTab) (F : Addr → Bool) (S : Sto) (H : Hp) (PX : DXK) (E : XK) : Prop := ∀ x fs S', PX x fs S' → ∀ vs dd H', GoB K F S H S' H' → fz F S' H' dd = some (.xd vs) → RelF K (fz F S' H') vs fs → ExF K ct x fs → E (.ref (ct x)) (some dd) H'
def lfSpX (K : PySem.W.Frag) (ct : CTab) (sp : DSpX) : Sp := fun vs H Q E => ∃ F ds S P PX, Sim (KG.top K) F S H ∧ RelL K (fz F S H) vs ds ∧ sp ds S P PX ∧ Ct (KG.top K) F S H P Q ∧ CtX K ct F S H PX E
abbrev FnX (P : Program) (w : World) (K : PySem.W.Frag) (mg : Str → Option Value) (base : Heap) (ct : CTab) (k : Nat) (f : Addr) (fd : FuncData) (ps : List Str) (sp : DSpX) : Prop := FnOk P w K mg base (L2.CX P w) k f fd ps (lfSpX K ct sp)
/-- every step since the def's begin -/
def KG.start (K : PySem.W.Frag) (F0 : Addr → Bool) (S0 : Sto) (H0 : Hp) : KG K where
  ok := fun F S H => (∀ a, F0 a = true → F a = true) ∧ ∀ H' : Hp, (∀ a, F a = false ∨ F0 a = true → H' a = H a) → (∀ a, F a = true → ∃ o, H' a = some o) → GoB K F0 S0 H0 S H'
  step := fun {F S H S' H'} s ⟨sub, h⟩ g => by
    refine ⟨sub, fun H2 a1 a2 => ?_⟩
    have e1 : ∀ a, F a = false ∨ F0 a = true → (if F a && !F0 a then H2 a else H a) = H a := fun a q => by
      rcases q with q | q <;> simp [q]
    have g1 := h (fun a => if F a && !F0 a then H2 a else H a) e1 (fun a q => by
      cases z : F0 a with
      | true => simpa [z] using s.hid a q
      | false => simpa [z, q] using a2 a q)
    have sm : SimB K F0 S' H2 := by
      refine ⟨fun a o q => ?_, fun a q => a2 a (sub a q)⟩
      obtain ⟨f0, k⟩ := g.sim.at_ a o q
      refine ⟨?_, ?_⟩
      · cases z : F0 a with
        | false => rfl
        | true => rw [sub a z] at f0; cases f0
      · rw [a1 a (.inl f0)]
        refine k.mono fun b x e => ?_
        obtain ⟨h0, h1, h2⟩ := fz_of e
        have z : F0 b = false := by
          cases z : F0 b with
          | false => rfl
          | true => rw [sub b z] at h0; cases h0
        rw [fz_none z h1, a1 b (.inl h0)]
        exact h2
    refine g1.trans ⟨fun b x e => ?_, fun a q => ?_, sm⟩
    · obtain ⟨h0, h1, h2⟩ := fz_of e
      cases z : F b with
      | true =>
        simp only [z, h0, Bool.not_false, Bool.and_self, if_true] at h2
        rw [fz_none h0 ?_]
        · exact h2
        · cases q : S' b with
          | none => rfl
          | some o =>
            have := (g.sim.at_ b o q).1
            rw [z] at this; cases this
      | false =>
        simp only [z, Bool.false_and, Bool.false_eq_true, if_false] at h2
        obtain ⟨_, q1, q2⟩ := fz_of (g.same b x (by rw [fz_none z h1]; exact h2))
        rw [fz_none h0 q1, a1 b (.inl z)]
        exact q2
    · show H2 a = _
      rw [e1 a (.inr q), a1 a (.inr q)]
      exact g.hid a (sub a q)
  new := fun {F S H p o} s ⟨sub, h⟩ hp => by
    have fp : F p = false := (s.none hp).1
    have f0 : F0 p = false := by
      cases z : F0 p with
      | false => rfl
      | true => rw [sub p z] at fp; cases fp
    have up : ∀ a, a ≠ p → hide F p a = F a := fun a z => by simp [hide, z]
    have pp : hide F p p = true := by simp [hide]
    refine ⟨fun a q => ?_, fun H2 a1 a2 => ?_⟩
    · by_cases z : a = p
      · subst z; exact pp
      · rw [up a z]; exact sub a q
    · have g1 := h (fun a => if a = p then none else H2 a) (fun a q => by
        by_cases z : a = p
        · subst z; simp [hp]
        · simp only [z, if_false]
          rw [a1 a (by rw [up a z]; exact q), upd_ne z]) (fun a q => by
        have z : a ≠ p := fun z => by subst z; rw [fp] at q; cases q
        simp only [z, if_false]
        exact a2 a (by rw [up a z]; exact q))
      obtain ⟨x, hx⟩ := a2 p pp
      have e : H2 = upd (fun a => if a = p then none else H2 a) p x := by
        funext a
        by_cases z : a = p
        · subst z; rw [upd_same, hx]
        · rw [upd_ne z]; simp [z]
      rw [e]
      exact g1.trans (g1.sim.new (by simp))
  put := fun {F S H p o S1 H1} ⟨sub, _⟩ fp s ⟨sub2, h⟩ => by
    refine ⟨sub2, fun H2 a1 a2 => h H2 (fun a q => ?_) a2⟩
    have z : a ≠ p := fun z => by
      subst z
      rcases q with q | q
      · simp [hide] at q
      · rw [sub a q] at fp; cases fp
    rw [a1 a q, upd_ne z]
theorem KG.start_here {K : PySem.W.Frag} {F : Addr → Bool} {S : Sto} {H : Hp} (s : SimB K F S H) : Sim (KG.start K F S H) F S H := ⟨s, fun _ q => q, fun H' a1 a2 => by
  have e : H' = H := by
    funext a
    cases z : F a with
    | false => exact a1 a (.inl z)
    | true => exact a1 a (.inr z)
  rw [e]
  exact ⟨Same.refl _, fun _ _ => rfl, s⟩⟩
theorem KG.start_go {K : PySem.W.Frag} {F F' : Addr → Bool} {S S' : Sto} {H H' : Hp} (s : Sim (KG.start K F S H) F' S' H') : GoB K F S H S' H' ∧ Same (fz F' S' H') (fz F S' H') := by
  obtain ⟨sub, h⟩ := s.knows
  refine ⟨h H' (fun _ _ => rfl) s.hid, fun b x e => ?_⟩
  obtain ⟨h0, h1, h2⟩ := fz_of e
  rw [fz_none ?_ h1]
  · exact h2
  · cases z : F b with
    | false => rfl
    | true => rw [sub b z] at h0; cases h0
/-- of a caught exception the fields -/
def KG.exc {K : PySem.W.Frag} (Γ : KG K) (dd : Addr) (fs : List (Str × D)) : KG K where
  ok := fun F S H => Γ.ok F S H ∧ ∃ vs, fz F S H dd = some (.xd vs) ∧ RelF K (fz F S H) vs fs
  step := fun s ⟨a, vs, e, r⟩ g => ⟨Γ.step s a g, vs, g.same _ _ e, r.mono g.same⟩
  new := fun s ⟨a, vs, e, r⟩ hp => ⟨Γ.new s a hp, vs, fz_hide_new hp _ _ e, r.mono (fz_hide_new hp)⟩
  put := fun ⟨a0, _⟩ f s ⟨a, vs, e, r⟩ => ⟨Γ.put a0 f s a, vs, by rw [fz_hide_upd]; exact e, by rw [fz_hide_upd]; exact r⟩
theorem KG.exc_sim {K : PySem.W.Frag} {Γ : KG K} {dd : Addr} {fs : List (Str × D)} {F : Addr → Bool} {S : Sto} {H : Hp} (s : Sim (Γ.exc dd fs) F S H) : Sim Γ F S H := ⟨s.toSimB, s.knows.1⟩
theorem KG.exc_go {K : PySem.W.Frag} {Γ : KG K} {dd : Addr} {fs : List (Str × D)} {F : Addr → Bool} {S S' : Sto} {H H' : Hp} (g : Go (Γ.exc dd fs) F S H S' H') : Go Γ F S H S' H' := ⟨g.same, g.hid, KG.exc_sim g.sim⟩
section
variable {P : Program} {w : World} {K : PySem.W.Frag} {mg : Str → Option Value} {base : Heap} {ct : CTab}
theorem takes_cx {N : List Str} {qual : Str} {sc : Scope} {f : Addr} {cdv : Value} {A : Around} {outer : List Env} {s : Shared} {H : Hp} {E : XK} : Takes (cxOf (L2.CX P w) P w K mg base N qual sc f cdv A outer s H E) (fun cls d _ H' => E cls d H') := takes_of rfl rfl rfl rfl
/-- a def that may raise: its derivation, its reading -/
theorem FnX.mk {x qual : Str} {st : Stmt} {f : Addr} {fd : FuncData} {N ps : List Str} {k : Nat} {sp : DSpX} {t : DWX → DTS} (Fn : Fun K x qual st f fd) (Sc : FnScope N ps (defScope st)) (len : ∀ ds S P PX, sp ds S P PX → ds.length = ps.length)
    (hb : ∀ (cdv : Value) (A : Around) (outer : List Env) (s : Shared) (H : Hp) (E : XK) (Γ : KG K) (PX : DWX), Room k (A.deeper (envOfC qual (defScope st) s.heap.objs.size f cdv)) → Takes (cxOf (L2.CX P w) P w K mg base N qual (defScope st) f cdv A outer s H E) (WD Γ ct PX) →
      DPSs (cxOf (L2.CX P w) P w K mg base N qual (defScope st) f cdv A outer s H E) Γ (defBody st) (t PX))
    (hread : ∀ ds S P PX, sp ds S P PX → t (fun x fs _ S' => PX x fs S') (DEnds.of P) (dstart N ds) S) : FnX P w K mg base ct (k + 1) f fd ps sp := by
  refine Fn.okX Sc (fun vs H Q E ⟨F, ds, S, P, PX, sm, rl, h, c, cx⟩ => by rw [rl.length]; exact len _ _ _ _ h) fun cdv A outer s H vs Q E hr ⟨F, ds, S, P, PX, sm, rl, h, c, cx⟩ => ?_
  have hle : ps.length ≤ N.length := by
    have := congrArg List.length Sc.pre
    rw [List.length_take] at this
    omega
  have s0 := KG.start_here sm.toSimB
  have c0 : Ct (KG.start K F S H) F S H P Q := fun d S' q v H' g r => c d S' q v H' (.of sm g.b) r
  refine ⟨_, hb cdv A outer s H E (KG.start K F S H) (fun x fs _ S' => PX x fs S') hr (takes_cx.imp fun cls d σ H' ⟨F', δ, S', x, fs, vs, dd, sm', rs, e1, e2, e3, rf, xf, q⟩ => ?_),
    F, dstart N ds, S, _, s0, rels_start rl (by rw [len _ _ _ _ h]; exact hle), hread ds S P PX h, ⟨fun δ' S' h' σ' H' g rs' => ?_, c0.fin s0, fun _ _ q => q.elim, fun _ _ q => q.elim⟩⟩
  · subst e1 e2
    obtain ⟨g, k⟩ := KG.start_go sm'
    exact cx x fs S' q vs dd H' g (k _ _ e3) (rf.mono k) xf
  · exact c0.fin s0 _ _ h' _ _ g .non
end
/-! ### a call that may let something out -/
abbrev dCallX (sp : DSpX) (PX : DWX) (t : DTA) : DTE := fun δ S Q => t δ S fun ds S1 => sp ds S1 Q fun x fs S2 => PX x fs δ S2
section
variable {X : Cx} {Γ : KG X.K} {ct : CTab} {PX : DWX} {k : Nat} {f : Addr} {fd : FuncData} {ps : List Str} {sp : DSpX} {x : Str} {p pos : Pos} {e : Expr} {es : List Expr} {t : DTA}
theorem dpe_callX (F : FnX X.prog X.w X.K X.mg X.base ct k f fd ps sp) (tk : Takes X (WD Γ ct PX)) (hr : Room k X.A) (hg : Gl X x) (hm : X.mg x = some (.ref f)) (hk : PySem.W.keepIn X.K (.ref f) = true) (hb : Binds X.K fd ps [])
    (ha : DPA X Γ (e :: es) t) (hdb : (x == ("__debug__" : Str)) = false := by decide) (he : starEach (e :: es) X.env = (false, eval e X.env) :: starEach es X.env := by rfl) (hpl : (backTo pos (starEach es X.env)).any (·.1) = false := by rfl) :
    DPE X Γ (.Call (.Name x p) (e :: es) [] pos) (dCallX sp PX t) :=
  PEw (pe_callS (E := WE (WD Γ ct PX)) F hr hg hm hk hb (fun σ => passAt tk σ) ha hdb he hpl) fun σ H Q ⟨F, δ, S, P, sm, rs, h, c⟩ => ⟨F, δ, S, _, sm, rs, h, fun ds S1 h1 vs H1 g1 r1 =>
    ⟨F, ds, S1, P, _, g1.sim.top, r1, h1, (c.mono g1).top g1.sim, fun y fs S2 q ws dd H2 g2 e2 r2 xf =>
      have g2' : Go Γ F S1 H1 S2 H2 := .of g1.sim g2
      ⟨F, δ, S2, y, fs, ws, dd, g2'.sim, (rs.mono g1.same).mono g2'.same, rfl, rfl, e2, r2, xf, q⟩⟩⟩
end
/-! ### raise C(..) -/
theorem RelF.append {K : PySem.W.Frag} {G : Hp} {κ : Type} : ∀ {a b : List (κ × V)} {c d : List (κ × D)}, RelF K G a c → RelF K G b d → RelF K G (a ++ b) (c ++ d)
  | _, _, _, _, .nil, s => s
  | _, _, _, _, .cons r t, s => .cons r (RelF.append t s)
theorem RelF.zip {K : PySem.W.Frag} {G : Hp} : ∀ {ns : List Str} {vs : List V} {ds : List D}, RelL K G vs ds → RelF K G (ns.zip vs) (ns.zip ds)
  | [], _, _, _ => .nil
  | _ :: _, _, _, .nil => .nil
  | _ :: _, _, _, .cons r t => .cons r (RelF.zip t)
theorem RelF.rev {K : PySem.W.Frag} {G : Hp} {κ : Type} : ∀ {a : List (κ × V)} {c : List (κ × D)}, RelF K G a c → RelF K G a.reverse c.reverse
  | _, _, .nil => .nil
  | _, _, .cons r t => by
    rw [List.reverse_cons, List.reverse_cons]
    exact RelF.append (RelF.rev t) (.cons r .nil)
theorem RelF.lookup {K : PySem.W.Frag} {G : Hp} {f : Str} {d : D} : ∀ {a : List (Str × V)} {c : List (Str × D)}, RelF K G a c → c.lookup f = some d → ∃ v, a.lookup f = some v ∧ Rel K G v d
  | _, _, .nil, e => by cases e
  | (g, v) :: a, (_, d') :: c, .cons r t, e => by
    rw [List.lookup_cons] at e ⊢
    split at e
    · rename_i z
      cases e
      exact ⟨v, by simp [z], r⟩
    · rename_i z
      obtain ⟨w, h1, h2⟩ := RelF.lookup t e
      exact ⟨w, by simp [z, h1], h2⟩
/-- an __init__ that notes its arguments -/
def spInit (C : Addr) (ns : List Str) : Sp := fun vs H Q _ => ∃ (a : Addr) (ws : List V), vs = .ref a :: ws ∧ ws.length = ns.length ∧ H a = some (exo a C none) ∧ ∀ d, H d = none → d ≠ a → Q .non (upd (upd H d (exd d (ns.zip ws).reverse)) a (exo a C (some d)))
abbrev dRaise (x : Str) (ns : List Str) (PX : DWX) (t : DTA) : DTS := fun _ δ S => t δ S fun ds S1 => ds.length = ns.length ∧ ds.length ≤ 1000 ∧ PX x (ns.zip ds).reverse δ S1
/-- what a class of exceptions is to be -/
structure ExcC (P : Program) (w : World) (K : PySem.W.Frag) (mg : Str → Option Value) (base : Heap) (ct : CTab) (x : Str) (ns : List Str) : Prop where
  T : OexC K (ct x)
  X : XfC K (ct x)
  gC : mg x = some (.ref (ct x))
  no : ∀ n ∈ ns, PySem.W.findIn K (.ref (ct x)) n = some none
  ini : ∃ fI fd, PySem.W.findIn K (.ref (ct x)) "__init__" = some (some (.ref fI)) ∧ PySem.W.typeIn K (.ref fI) = some (.type "function") ∧ Binds K fd ("self" :: ns) [] ∧ FnOk P w K mg base CX0 1 fI fd ("self" :: ns) (spInit (ct x) ns)
section
variable {X : Cx} {Γ : KG X.K} {ct : CTab} {PX : DWX} {x : Str} {ns : List Str} {p pos pos2 : Pos} {e : Expr} {es : List Expr} {t : DTA}
theorem dps_raise (C : ExcC X.prog X.w X.K X.mg X.base ct x ns) (hc : X.calm = true) (tk : Takes X (WD Γ ct PX)) (hr : Room 2 X.A) (hg : Gl X x) (ha : DPA X Γ (e :: es) t)
    (hdb : (x == ("__debug__" : Str)) = false := by decide) (he : starEach (e :: es) X.env = (false, eval e X.env) :: starEach es X.env := by rfl) (hpl : (backTo pos (starEach es X.env)).any (·.1) = false := by rfl) :
    DPS X Γ (.Raise (some (.Call (.Name x p) (e :: es) [] pos)) none pos2) (dRaise x ns PX t) := by
  obtain ⟨fI, fd, h1, h2, h3, h4⟩ := C.ini
  refine PSw (ps_raise hc tk (pmk_oex (dvs := []) C.T h1 h2 h4 hr h3 .nil (by exact pass0) hg C.gC ha hdb he hpl)) fun D σ H ⟨F, δ, S, P, sm, rs, h, c⟩ => ?_
  refine ⟨F, δ, S, _, sm, rs, h, fun ds S1 ⟨q1, q2, q3⟩ vs H1 g1 r1 => ⟨by rw [r1.length]; exact q2, fun a ha => ?_⟩⟩
  refine ⟨a, vs, by rw [List.append_nil], by rw [r1.length]; exact q1, upd_same, fun d hd hda => ⟨rfl, d, (ns.zip vs).reverse, upd_same, by rw [upd_ne hda]; exact upd_same, ?_, ?_⟩⟩
  · rw [upd_ne hda] at hd
    exact hd
  · have hd1 : H1 d = none := by
      rw [upd_ne hda] at hd
      exact hd
    have e : upd (del (upd (upd (upd H1 a (exo a (ct x) none)) d (exd d (ns.zip vs).reverse)) a (exo a (ct x) (some d))) a) d (.xd (ns.zip vs).reverse) = upd H1 d (.xd (ns.zip vs).reverse) := by
      funext b
      by_cases z : b = d
      · subst z; rw [upd_same, upd_same]
      · rw [upd_ne z, upd_ne z]
        by_cases y : b = a
        · subst y; rw [del_same, ha]
        · rw [del_ne y, upd_ne y, upd_ne z, upd_ne y]
    rw [e]
    have g2 : Go Γ F S1 H1 S1 (upd H1 d (.xd (ns.zip vs).reverse)) := g1.sim.new hd1
    exact ⟨F, δ, S1, x, (ns.zip ds).reverse, _, d, g2.sim, (rs.mono g1.same).mono g2.same, rfl, rfl, fz_new g1.sim hd1, RelF.rev (RelF.zip (r1.mono g2.same)), ⟨C.X, fun n d m => C.no n (List.of_mem_zip (List.mem_reverse.mp m)).1⟩, q3⟩
end
end L3

set_option Elab.async false
set_option maxRecDepth 100000
set_option linter.all false
set_option maxHeartbeats 2000000
namespace L3
open PySem PySem.Spec PyProof.Rows L2
/-! ### try with any clauses, each with or without a name -/
abbrev Suite := Addr → Value → Option Addr → TS
/-- the ends of a named clause: the name is gone behind it -/
abbrev goneE : Option Nat → Ends → Ends
  | none, D => D
  | some i, D => { nx := fun σ' H' => D.nx (σ'.set i none) H', rt := D.rt, bk := fun σ' H' => D.bk (σ'.set i none) H', ct := fun σ' H' => D.ct (σ'.set i none) H' }
abbrev heldS : Option Nat → Addr → L2.St → L2.St
  | none, _, σ => σ
  | some i, a, σ => σ.set i (some (.ref a))
def wMix (K : PySem.W.Frag) (W0 : WX) (D : Ends) : List (Value × Option Nat × Suite) → WX
  | [] => W0
  | (c, o, ts) :: r => fun cl dd τ G => ∃ k, PySem.W.exmOne K cl c = some k ∧ (k = true → ∀ p, G p = none → ts p cl dd (goneE o D) (heldS o p τ) G) ∧ (k = false → wMix K W0 D r cl dd τ G)
/-- a clause's name and slot -/
def SlotOk (X : Cx) : Option Str → Option Nat → Prop
  | none, none => True
  | some n, some i => X.N.Nodup ∧ X.N[i]? = some n ∧ X.env.kindOf n = some .local
  | _, _ => False
inductive HMix (X : Cx) : List ExceptHandler → List (Value × Option Nat × Suite) → Prop
  | nil : HMix X [] []
  | cons {y : Str} {c : Value} {on : Option Str} {o : Option Nat} {ts : Suite} {b : Stmt} {bs : List Stmt} {p1 p2 : Pos} {hr : List ExceptHandler} {lr : List (Value × Option Nat × Suite)} (nm : Names X y c) (sl : SlotOk X on o)
      (su : ∀ (p : Addr) (ob : Obj) (cl : Value) (dd : Option Addr) (pn : List (Addr × Obj)), Zc cl dd ob → (∃ ws, ob.data = .fields ws) → PSs (X.suite p ((p, ob) :: pn)) (b :: bs) (ts p cl dd)) (r : HMix X hr lr) :
      HMix X (.ExceptHandler (some (.Name y p1)) on (b :: bs) p2 :: hr) ((c, o, ts) :: lr)
section
variable {X : Cx} {pins : List (Addr × Obj)} {D : Ends} {W0 : WX}
/-- a suite's end is the clause's end -/
theorem suite_end {p : Addr} {q : Addr × Obj} {pn : List (Addr × Obj)} {fl : Flow} {s : Shared} (ok : X.Ok) (e : SP (X.suite p (q :: (X.pn ++ pins))) [] D fl s) : SP X pins D fl s := by
  cases fl with
  | next => obtain ⟨τ, G, I, z⟩ := e; exact ⟨τ, G, I.unsuite ok, z⟩
  | brk => obtain ⟨τ, G, I, z⟩ := e; exact ⟨τ, G, I.unsuite ok, z⟩
  | cont => obtain ⟨τ, G, I, z⟩ := e; exact ⟨τ, G, I.unsuite ok, z⟩
  | ret u => obtain ⟨v, τ, G, I, r, z⟩ := e; exact ⟨v, τ, G, I.unsuite ok, r, z⟩
theorem suite_end_as {p : Addr} {q : Addr × Obj} {i : Nat} {n : Str} {pos : Pos} {fl : Flow} {s : Shared} (ok : X.Ok) (hN : X.N.Nodup) (hi : X.N[i]? = some n) (hl : X.env.kindOf n = some .local)
    (e : SP (X.suite p (q :: (X.pn ++ pins))) [] (goneE (some i) D) fl s) : wpAny (model X.prog X.w) X.A (do bindName X.env n .none; unbindBehindTheSuite X.env n pos) (fun _ s7 => SP X pins D fl s7) X.xe s := by
  cases fl with
  | next => obtain ⟨τ, G, I, z⟩ := e; exact gone_ok (I.unsuite ok) hN hi hl fun s7 J => ⟨_, _, J, z⟩
  | brk => obtain ⟨τ, G, I, z⟩ := e; exact gone_ok (I.unsuite ok) hN hi hl fun s7 J => ⟨_, _, J, z⟩
  | cont => obtain ⟨τ, G, I, z⟩ := e; exact gone_ok (I.unsuite ok) hN hi hl fun s7 J => ⟨_, _, J, z⟩
  | ret u => obtain ⟨v, τ, G, I, r, z⟩ := e; exact gone_ok (I.unsuite ok) hN hi hl fun s7 J => ⟨_, _, _, J, r, z⟩
/-- an exception that has come to the clauses -/
structure AtHand (X : Cx) (pins : List (Addr × Obj)) (B : Heap) (p : Addr) (cl : Value) (dd : Option Addr) (τ : L2.St) (G : Hp) (W0 : WX) (s : Shared) (h : Heap) : Prop where
  fly : HandSPX.FlyingZ B (X.env :: X.outer) p (Zc cl dd) h
  inv : ∀ h', B.StaysIn h' → h.UpToSlots h' → Inv X pins τ G { s with heap := h' }
  here : Inv X pins τ G { s with heap := h }
  free : G p = none
  notL : p ≠ X.env.locals
  notF : p ∉ X.fs
  out : W0 cl dd τ G → ∀ h', HandSPX.HeldZ B (X.env :: X.outer) p (Zc cl dd) X.env.locals h' → h.UpToSlots h' → X.xe (.ref p) { s with heap := h' }
theorem mix_run (hf : X.env.frame = some X.env.locals) (ok : X.Ok) {B : Heap} {p : Addr} {cl : Value} {dd : Option Addr} {τ : L2.St} {G : Hp} {s : Shared} {h : Heap} (A : AtHand X pins B p cl dd τ G W0 s h) :
    ∀ {hs : List ExceptHandler} {l : List (Value × Option Nat × Suite)}, HMix X hs l → wMix X.K W0 D l cl dd τ G → wpAny (model X.prog X.w) X.A (handleBy (.ref p) X.env hs) (SP X pins D) X.xe { s with heap := h }
  | _, _, .nil, w => by
    refine wpAny_handleBy_nil ?_
    obtain ⟨_, _, _, oe, vs, T, _, _, he, _, hd, h1, _⟩ := id A.fly
    unfold PySem.passOn
    refine wpAny_bind (wpAny_field he hd h1 ?_)
    rw [if_neg (show ¬ ((Value.ref T == Value.none) = true) by simp)]
    have last : wpAny (model X.prog X.w) X.A (setFlight (.ref p) X.env.frame) (fun _ t => wpAny (model X.prog X.w) X.A (throw (.ref p) : Sem Flow) (SP X pins D) X.xe t) X.xe { s with heap := h } := by
      rw [hf]
      exact HandSPX.setFlight_upZ A.fly fun h' held up => wpAny_throw (A.out w h' held up)
    first
      | exact wpAny_bind (wpAny_pure (wpAny_bind last))
      | exact wpAny_bind last
  | _, _, .cons (y := y) (c := c) (on := on) (o := o) (ts := ts) (b := b) (bs := bs) (p1 := p1) (p2 := p2) nm sl su r, w => by
    obtain ⟨k, hk, yes, no⟩ := w
    obtain ⟨ob, ws, hob, hz, hdat⟩ := A.fly.there
    have look := PySem.W.exm_one (M := model X.prog X.w) A.here.kIn (fun A' Q E t kk q => wpAny_typeOf_ref (kk _ _ hob) (by rw [hz.1]; exact q)) hk
    have I0 := A.here.suite hob hdat A.free A.notL A.notF
    refine wpAny_handleBy_cons (codeAny_handlers_test ?_) (fun q => by cases q)
    have named : ∀ {Q : Value → Shared → Prop} {E : Value → Shared → Prop}, Q c { s with heap := h } → wpAny (model X.prog X.w) (X.A.mark (some (.ref p))) (eval (.Name y p1) X.env) Q E { s with heap := h } := fun {Q E} q => by
      rcases nm with ⟨g1, g2, g3 | ⟨g3, g4, g5⟩⟩
      · exact ld_glob (X := X.suite p ((p, ob) :: (X.pn ++ pins))) I0 g1 g3 q g2
      · exact ld_blt (X := X.suite p ((p, ob) :: (X.pn ++ pins))) I0 g1 g3 g4 q g5 g2
    refine named (look.here ?_)
    cases k with
    | false =>
      show wpAny _ X.A (handleBy (.ref p) X.env _) _ _ _
      exact mix_run hf ok A r (no rfl)
    | true =>
      cases on with
      | none =>
        cases o with
        | some i => exact (sl : False).elim
        | none =>
          refine codeAny_handlers_suite (HandSPX.lands_againZ A.fly fun h4 fl4 up4 => ?_)
          obtain ⟨ob4, ws4, hob4, hz4, hd4⟩ := fl4.there
          have I4 := (A.inv h4 fl4.1 up4).suite hob4 hd4 A.free A.notL A.notF
          exact wpAny_mono ((su p ob4 cl dd (X.pn ++ pins) hz4 ⟨_, hd4⟩).run [] _ _ G _ I4 (yes rfl p A.free)) (fun fl t e => suite_end (pn := []) ok e) fun _ _ z => z.elim
      | some n =>
        cases o with
        | none => exact (sl : False).elim
        | some i =>
          obtain ⟨hN, hi, hl⟩ := sl
          refine codeAny_handlers_suite_as (HandSPX.lands_againZ A.fly fun h4 fl4 up4 => ?_)
          obtain ⟨ob4, ws4, hob4, hz4, hd4⟩ := fl4.there
          have I4 := (A.inv h4 fl4.1 up4).suite hob4 hd4 A.free A.notL A.notF
          refine store_ok (X := X.suite p ((p, ob4) :: (X.pn ++ pins))) (v := .ref p) I4 hN hi (.inl hl) rfl (fun s5 I5 => ?_) (.inr hl)
          exact wpAny_mono ((su p ob4 cl dd (X.pn ++ pins) hz4 ⟨_, hd4⟩).run [] s5 _ G _ I5 (yes rfl p A.free)) (fun fl t e => suite_end_as ok hN hi hl e) fun _ _ z => z.elim
theorem ps_try_mix {body : List Stmt} {h0 : ExceptHandler} {hs : List ExceptHandler} {l : List (Value × Option Nat × Suite)} {pos : Pos} {tb : WX → TS} (hst : X.stack = X.env :: X.outer) (hf : X.env.frame = some X.env.locals) (tk : Takes X W0)
    (hb : ∀ (W : WX) (pn : List (Addr × Obj)) (xe : Value → Shared → Prop), Takes (X.tr pn xe) W → PassesOwn (model X.prog X.w) X.A X.env xe → PSs (X.tr pn xe) body (tb W)) (hm : HMix X (h0 :: hs) l) :
    PS X (.Try body (h0 :: hs) [] [] pos) (fun D σ H => tb (wMix X.K W0 D l) D σ H) := by
  refine ⟨fun pins s σ H D I q => wpAny_Try_except ?_⟩
  have ok := I.ok
  have hfr : X.A.frames = some (X.env :: X.outer) := by rw [ok.frames, hst]
  refine wpAny_mono ((hb (wMix X.K W0 D l) (X.pn ++ pins) _ (fun u s' xx => ?_) PassesOwn.looking).run [] s σ H D (I.toTry _) q) (fun fl s1 e => ?_) fun _ _ z => z
  · obtain ⟨p, B, sI, pins', τ, G, cl, dd, rfl, J0, nb, up, sky, na, os, ag, w⟩ := xx
    have J := J0.ofTry ok
    rw [show (X.tr (X.pn ++ pins) _).stack = X.env :: X.outer from hst] at sky
    refine Sky.land Zc.steady hfr hf sky fun h3 fl3 up3 => ?_
    obtain ⟨ob, ws, hob, hz, hdat⟩ := fl3.there
    have nfr : p ∉ frs (X.env :: X.outer) := fun m => by
      obtain ⟨_, o', e', nf⟩ := fl3.2.2.1.mem m
      rw [hob] at e'
      cases e'
      exact nf _ hdat
    refine mix_run (W0 := W0) (B := B) (p := p) (cl := cl) (dd := dd) (τ := τ) (G := G) (s := s') (h := h3) hf ok ⟨fl3, fun h' st u => J.landed nb st ((up.trans up3).trans u) os ag, J.landed nb fl3.1 (up.trans up3) os ag, na, fun z => ?_, fun m => ?_, fun w0 h' held u => ?_⟩ hm w
    · exact nfr (List.mem_filterMap.mpr ⟨X.env, List.mem_cons_self, by rw [hf, z]⟩)
    · obtain ⟨e, he, z⟩ := List.mem_filterMap.mp m
      exact nfr (List.mem_filterMap.mpr ⟨e, List.mem_cons_of_mem _ he, z⟩)
    · exact tk _ _ ⟨p, B, sI, pins, τ, G, cl, dd, rfl, J, nb, (up.trans up3).trans u, .inr (.inr (by rw [hst]; exact held)), na, os, ag, w0⟩
  · cases fl with
    | next => obtain ⟨τ, G, J, z⟩ := e; exact wpAny_execs_nil ⟨τ, G, J.ofTry ok, z⟩
    | brk => obtain ⟨τ, G, J, z⟩ := e; exact ⟨τ, G, J.ofTry ok, z⟩
    | cont => obtain ⟨τ, G, J, z⟩ := e; exact ⟨τ, G, J.ofTry ok, z⟩
    | ret u => obtain ⟨v, τ, G, J, r, z⟩ := e; exact ⟨v, τ, G, J.ofTry ok, r, z⟩
end
end L3

set_option Elab.async false
set_option maxRecDepth 100000
set_option linter.all false
set_option maxHeartbeats 2000000
namespace L3
open PySem PySem.Spec PyProof.Rows L2
/-! ### try, by data -/
abbrev goneD : Option Nat → DEnds → DEnds
  | none, D => D
  | some i, D => { nx := fun δ S => D.nx (dset δ i none) S, rt := D.rt, bk := fun δ S => D.bk (dset δ i none) S, ct := fun δ S => D.ct (dset δ i none) S }
abbrev heldD : Option Nat → Addr → DSt → DSt
  | none, _, δ => δ
  | some i, a, δ => dset δ i (some (.ref a))
abbrev DClause := Str × Option Nat × (Addr → List (Str × D) → DTS)
def dHs (sub : Str → Str → Option Bool) (PX : DWX) (D : DEnds) : List DClause → DWX
  | [] => PX
  | (y, o, h) :: r => fun x fs δ S => ∃ k, sub x y = some k ∧ (k = true → ∀ a, S a = none → h a fs (goneD o D) (heldD o a δ) S) ∧ (k = false → dHs sub PX D r x fs δ S)
abbrev dTry (sub : Str → Str → Option Bool) (tb : DWX → DTS) (hs : List DClause) (PX : DWX) : DTS := fun D δ S => tb (dHs sub PX D hs) D δ S
theorem st_caught {sub : Str → Str → Option Bool} {PX : DWX} {D : DEnds} {y x : Str} {o : Option Nat} {h : Addr → List (Str × L3.D) → DTS} {r : List DClause} {fs : List (Str × L3.D)} {δ : DSt} {S : Sto} (e : sub x y = some true)
    (q : ∀ a, S a = none → h a fs (goneD o D) (heldD o a δ) S) : dHs sub PX D ((y, o, h) :: r) x fs δ S := ⟨true, e, fun _ => q, fun z => by cases z⟩
theorem st_missed {sub : Str → Str → Option Bool} {PX : DWX} {D : DEnds} {y x : Str} {o : Option Nat} {h : Addr → List (Str × L3.D) → DTS} {r : List DClause} {fs : List (Str × L3.D)} {δ : DSt} {S : Sto} (e : sub x y = some false)
    (q : dHs sub PX D r x fs δ S) : dHs sub PX D ((y, o, h) :: r) x fs δ S := ⟨false, e, (fun z => by cases z), fun _ => q⟩
/-- which class is caught by which name -/
def SubOk (K : PySem.W.Frag) (ct : CTab) (sub : Str → Str → Option Bool) : Prop := ∀ x y b, sub x y = some b → PySem.W.exmOne K (.ref (ct x)) (.ref (ct y)) = some b
def suiteOf (K : PySem.W.Frag) (Γ : KG K) (ct : CTab) (h : Addr → List (Str × D) → DTS) : Suite := fun a cls d Dn σ H => ∃ dd fs x, d = some dd ∧ cls = .ref (ct x) ∧ ExF K ct x fs ∧ lfS (Γ.exc dd fs) (h a fs) Dn σ H
abbrev clauseOf (K : PySem.W.Frag) (Γ : KG K) (ct : CTab) (c : DClause) : Value × Option Nat × Suite := (.ref (ct c.1), c.2.1, suiteOf K Γ ct c.2.2)
def KG.also {K : PySem.W.Frag} (Γ : KG K) (Δ : KG K) : KG K where
  ok := fun F S H => Γ.ok F S H ∧ Δ.ok F S H
  step := fun s a g => ⟨Γ.step s a.1 g, Δ.step s a.2 g⟩
  new := fun s a h => ⟨Γ.new s a.1 h, Δ.new s a.2 h⟩
  put := fun a0 f s a => ⟨Γ.put a0.1 f s a.1, Δ.put a0.2 f s a.2⟩
theorem CtE.gone {K : PySem.W.Frag} {Γ : KG K} {F : Addr → Bool} {S : Sto} {H : Hp} {P : DEnds} {D : Ends} (o : Option Nat) (c : CtE Γ F S H P D) : CtE Γ F S H (goneD o P) (goneE o D) := by
  cases o with
  | none => exact c
  | some i =>
    refine ⟨fun δ S' h σ H' g r => c.nx _ _ h _ _ g ?_, c.rt, fun δ S' h σ H' g r => c.bk _ _ h _ _ g ?_, fun δ S' h σ H' g r => c.ct _ _ h _ _ g ?_⟩
    all_goals rw [dset_eq]
    all_goals exact r.unset i
theorem CtE.exc {K : PySem.W.Frag} {Γ : KG K} {F : Addr → Bool} {S : Sto} {H : Hp} {P : DEnds} {D : Ends} {dd : Addr} {fs : List (Str × L3.D)} (c : CtE Γ F S H P D) : CtE (Γ.exc dd fs) F S H P D :=
  ⟨fun δ S' h σ H' g r => c.nx _ _ h _ _ (KG.exc_go g) r, fun d S' h v H' g r => c.rt _ _ h _ _ (KG.exc_go g) r, fun δ S' h σ H' g r => c.bk _ _ h _ _ (KG.exc_go g) r, fun δ S' h σ H' g r => c.ct _ _ h _ _ (KG.exc_go g) r⟩
theorem RelS.held {K : PySem.W.Frag} {G : Hp} {σ : L2.St} {δ : DSt} (o : Option Nat) (a : Addr) (r : RelS K G σ δ) : RelS K G (heldS o a σ) (heldD o a δ) := by
  cases o with
  | none => exact r
  | some i => exact r.dset (.ref a) i
theorem mix_data {K : PySem.W.Frag} {Γ : KG K} {ct : CTab} {sub : Str → Str → Option Bool} {PX : DWX} {P : DEnds} {D : Ends} (so : SubOk K ct sub) {F : Addr → Bool} {S : Sto} {H : Hp} {σ : L2.St} {δ : DSt} {x : Str} {fs : List (Str × L3.D)} {vs : List (Str × V)} {dd : Addr}
    (sm : Sim Γ F S H) (rs : RelS K (fz F S H) σ δ) (e : fz F S H dd = some (.xd vs)) (rf : RelF K (fz F S H) vs fs) (xf : ExF K ct x fs) (c : CtE Γ F S H P D) :
    ∀ hs : List DClause, dHs sub PX P hs x fs δ S → wMix K (WD Γ ct PX) D (hs.map (clauseOf K Γ ct)) (.ref (ct x)) (some dd) σ H
  | [], q => ⟨F, δ, S, x, fs, vs, dd, sm, rs, rfl, rfl, e, rf, xf, q⟩
  | (y, o, h) :: r, ⟨k, h1, h2, h3⟩ => ⟨k, so x y k h1, fun z p hp => ⟨dd, fs, x, rfl, rfl, xf, F, heldD o p δ, S, goneD o P, ⟨sm.toSimB, sm.knows, vs, e, rf⟩, rs.held o p, h2 z p (sm.none hp).2, (c.gone o).exc⟩,
      fun z => mix_data so sm rs e rf xf c r (h3 z)⟩
inductive DMix (X : Cx) (Γ : KG X.K) (ct : CTab) : List ExceptHandler → List DClause → Prop
  | nil : DMix X Γ ct [] []
  | cons {y : Str} {on : Option Str} {o : Option Nat} {h : Addr → List (Str × D) → DTS} {b : Stmt} {bs : List Stmt} {p1 p2 : Pos} {hr : List ExceptHandler} {lr : List DClause} (nm : Names X y (.ref (ct y))) (sl : SlotOk X on o)
      (su : ∀ (a : Addr) (ob : Obj) (dd : Addr) (fs : List (Str × D)) (x : Str) (pn : List (Addr × Obj)), Zc (.ref (ct x)) (some dd) ob → (∃ ws, ob.data = .fields ws) → ExF X.K ct x fs → DPSs (X.suite a ((a, ob) :: pn)) (Γ.exc dd fs) (b :: bs) (h a fs)) (r : DMix X Γ ct hr lr) :
      DMix X Γ ct (.ExceptHandler (some (.Name y p1)) on (b :: bs) p2 :: hr) ((y, o, h) :: lr)
theorem DMix.mix {X : Cx} {Γ : KG X.K} {ct : CTab} : ∀ {hs : List ExceptHandler} {l : List DClause}, DMix X Γ ct hs l → HMix X hs (l.map (clauseOf X.K Γ ct))
  | _, _, .nil => .nil
  | _, _, .cons nm sl su r => .cons nm sl (fun p ob cl dd pn hz hd => ⟨fun pins s σ H Dn I ⟨d1, fs, x, e1, e2, xf, q⟩ => by
      subst e1 e2
      exact (su p ob d1 fs x pn hz hd xf).run pins s σ H Dn I q⟩) (DMix.mix r)
section
variable {X : Cx} {Γ : KG X.K} {ct : CTab} {PX : DWX}
theorem dps_try {body : List Stmt} {h0 : ExceptHandler} {hs : List ExceptHandler} {l : List DClause} {pos : Pos} {tb : DWX → DTS} {sub : Str → Str → Option Bool} (so : SubOk X.K ct sub) (hst : X.stack = X.env :: X.outer) (hf : X.env.frame = some X.env.locals) (tk : Takes X (WD Γ ct PX))
    (hb : ∀ (Δ : KG X.K) (QX : DWX) (pn : List (Addr × Obj)) (xe : Value → Shared → Prop), Takes (X.tr pn xe) (WD Δ ct QX) → PassesOwn (model X.prog X.w) X.A X.env xe → DPSs (X.tr pn xe) Δ body (tb QX)) (hm : DMix X Γ ct (h0 :: hs) l) :
    DPS X Γ (.Try body (h0 :: hs) [] [] pos) (dTry sub tb l PX) := by
  refine PSw (ps_try_mix (W0 := WD Γ ct PX) (tb := fun W Dn σ H => ∃ (Δ : KG X.K) (QX : DWX), (∀ cl d τ G, WD Δ ct QX cl d τ G → W cl d τ G) ∧ lfS Δ (tb QX) Dn σ H) hst hf tk (fun W pn xe tw po => ⟨fun pins s σ H Dn I ⟨Δ, QX, w, q⟩ => (hb Δ QX pn xe (tw.imp w) po).run pins s σ H Dn I q⟩) hm.mix)
    fun Dn σ H ⟨F, δ, S, P, sm, rs, h, c⟩ => ?_
  have s0 := KG.start_here sm.toSimB
  refine ⟨Γ.also (KG.start X.K F S H), dHs sub PX P l, fun cl d τ G ⟨F', δ', S', x, fs, vs, dd, sm', rs', e1, e2, e3, rf, xf, q⟩ => ?_, F, δ, S, P, ⟨sm.toSimB, sm.knows, s0.knows⟩, rs, h, ?_⟩
  · subst e1 e2
    obtain ⟨g, k⟩ := KG.start_go ⟨sm'.toSimB, sm'.knows.2⟩
    have g' : Go Γ F S H S' G := .of sm g
    exact mix_data so g'.sim (rs'.mono k) (k _ _ e3) (rf.mono k) xf (c.mono g') l q
  · exact ⟨fun δ S' h σ H' g r => c.nx _ _ h _ _ (.of sm g.b) r, fun d S' h v H' g r => c.rt _ _ h _ _ (.of sm g.b) r, fun δ S' h σ H' g r => c.bk _ _ h _ _ (.of sm g.b) r, fun δ S' h σ H' g r => c.ct _ _ h _ _ (.of sm g.b) r⟩
end
/-! ### a field of the caught exception -/
abbrev dXf (a : Addr) (fs : List (Str × D)) (n : Str) (te : DTE) : DTE := fun δ S Q => te δ S fun x S1 => x = .ref a ∧ ∃ d, fs.lookup n = some d ∧ Q d S1
theorem st_xf {a : Addr} {fs : List (Str × D)} {n : Str} {d : D} {S : Sto} {Q : DK} (e : fs.lookup n = some d) (q : Q d S) : (D.ref a) = .ref a ∧ ∃ d, fs.lookup n = some d ∧ Q d S := ⟨rfl, d, e, q⟩
theorem mem_lookup {n : Str} {d : D} : ∀ {fs : List (Str × D)}, fs.lookup n = some d → (n, d) ∈ fs
  | [], e => by cases e
  | (m, d') :: r, e => by
    rw [List.lookup_cons] at e
    split at e
    · rename_i z
      cases e
      have := eq_of_beq z
      subst this
      exact List.mem_cons_self
    · exact List.mem_cons_of_mem _ (mem_lookup e)
theorem dpe_xf {X : Cx} {Γ : KG X.K} {ct : CTab} {a dd : Addr} {ob : Obj} {x : Str} {fs : List (Str × D)} {pn : List (Addr × Obj)} {e : Expr} {te : DTE} {pos : Pos} {n : Str} (hz : Zc (.ref (ct x)) (some dd) ob) (hd : ∃ ws, ob.data = .fields ws) (xf : ExF X.K ct x fs)
    (he : DPE (X.suite a ((a, ob) :: pn)) (Γ.exc dd fs) e te) (hb : attributeBase e n X.env (eval e X.env) = eval e X.env := by rfl) : DPE (X.suite a ((a, ob) :: pn)) (Γ.exc dd fs) (.Attribute e n pos) (dXf a fs n te) := by
  by_cases hl : ∃ d, fs.lookup n = some d
  · obtain ⟨d0, hl⟩ := hl
    refine PEw (pe_xf xf.X (xf.no n d0 (mem_lookup hl)) hz hd he hb) fun σ H Q ⟨F, δ, S, P, sm, rs, h, c⟩ => ⟨F, δ, S, _, sm, rs, h, fun d S1 ⟨e1, d1, e2, q⟩ v H1 g1 r1 => ?_⟩
    subst e1
    cases r1
    obtain ⟨_, vs, e3, rf⟩ := g1.sim.knows
    obtain ⟨v, l1, r1⟩ := rf.lookup e2
    exact ⟨rfl, rfl, dd, vs, v, rfl, fz_same _ _ _ _ _ e3, l1, c.mono g1 |>.use g1.sim r1 q⟩
  · have hp := he
    refine ⟨fun pins s σ H Q I ⟨F, δ, S, P, sm, rs, h, c⟩ => ?_⟩
    refine attr_of hb (thn (he.run pins s σ H (fun _ _ => False) I ⟨F, δ, S, _, sm, rs, h, fun d S1 ⟨e1, d1, e2, q⟩ v H1 g1 r1 => hl ⟨d1, e2⟩⟩) fun u s1 hh => ?_)
    obtain ⟨x, H1, I1, rx, z⟩ := hh
    exact z.elim
end L3

set_option Elab.async false
set_option maxRecDepth 100000
set_option linter.all false
set_option maxHeartbeats 2000000
namespace L3
open PySem PySem.Spec PyProof.Rows L2
/-! ### classes of exceptions: __init__ notes its arguments -/
section
variable {P : Program} {w : World} {K : PySem.W.Frag} {mg : Str → Option Value} {base : Heap}
def tIni (K : PySem.W.Frag) : Nat → List Str → TS
  | _, [] => tNext
  | i, f :: fs => tSeq (tOst K f (tVar 0) (tVar i)) (tIni K (i + 1) fs)
theorem upd_swap {H : Hp} {a d : Addr} {x y z : HO} (h : d ≠ a) : upd (upd (upd H d x) a y) d z = upd (upd H d z) a y := by
  funext b
  by_cases e : b = d
  · subst e; rw [upd_same, upd_ne h, upd_same]
  · rw [upd_ne e]
    by_cases g : b = a
    · subst g; rw [upd_same, upd_same]
    · rw [upd_ne g, upd_ne e, upd_ne g, upd_ne e]
theorem ini_old {C a d : Addr} (T : OexC K C) (hda : d ≠ a) {D : Ends} {σ : L2.St} {H : Hp} (h0 : σ[0]? = some (some (.ref a))) : ∀ (ns : List Str) (ws : List V) (i : Nat) (fs : List (Str × V)), ns.length = ws.length → fs.length + ns.length ≤ 900 → (∀ n ∈ ns, PySem.W.findIn K (.ref C) n = some none) →
    (∀ j v, ws[j]? = some v → σ[i + j]? = some (some v)) → D.nx σ (upd (upd H d (exd d ((ns.zip ws).reverse ++ fs))) a (exo a C (some d))) → tIni K i ns D σ (upd (upd H d (exd d fs)) a (exo a C (some d)))
  | [], [], i, fs, _, _, _, _, q => q
  | n :: ns, v :: ws, i, fs, hl, hz, hn, hs, q => by
    refine ⟨v, by simpa using hs 0 v rfl, .ref a, h0, a, C, rfl, T, hn n List.mem_cons_self, .inr ⟨d, fs, upd_same, by rw [upd_ne hda, upd_same], by omega, ?_⟩⟩
    rw [upd_swap hda]
    refine ini_old T hda h0 ns ws (i + 1) ((n, v) :: fs) (by simpa using hl) (by simp only [List.length_cons] at hz ⊢; omega) (fun m hm => hn m (List.mem_cons_of_mem _ hm)) (fun j u e => ?_) ?_
    · rw [show i + 1 + j = i + (j + 1) by omega]
      exact hs (j + 1) u (by simpa using e)
    · simpa [List.append_assoc] using q
theorem ini_new {C a : Addr} (T : OexC K C) {D : Ends} {σ : L2.St} {H : Hp} (h0 : σ[0]? = some (some (.ref a))) (ha : H a = some (exo a C none)) (n : Str) (ns : List Str) (v : V) (ws : List V) (hl : ns.length = ws.length) (hz : ns.length ≤ 800) (hn : ∀ m ∈ n :: ns, PySem.W.findIn K (.ref C) m = some none)
    (hs : ∀ j u, (v :: ws)[j]? = some u → σ[1 + j]? = some (some u)) (q : ∀ d, H d = none → d ≠ a → D.nx σ (upd (upd H d (exd d (((n :: ns).zip (v :: ws)).reverse))) a (exo a C (some d)))) : tIni K 1 (n :: ns) D σ H := by
  refine ⟨v, by simpa using hs 0 v rfl, .ref a, h0, a, C, rfl, T, hn n List.mem_cons_self, .inl ⟨ha, fun d hd hda => ?_⟩⟩
  refine ini_old T hda h0 ns ws 2 [(n, v)] hl (by simp only [List.length_cons, List.length_nil]; omega) (fun m hm => hn m (List.mem_cons_of_mem _ hm)) (fun j u e => ?_) ?_
  · have := hs (j + 1) u (by simpa using e)
    rwa [show 1 + (j + 1) = 2 + j by omega] at this
  · simpa using q d hd hda
theorem ini_ok {qual : Str} {st : Stmt} {f : Addr} {fd : FuncData} {C : Addr} {n : Str} {ns N : List Str} (T : OexC K C) (hno : ∀ m ∈ n :: ns, PySem.W.findIn K (.ref C) m = some none) (Fn : Fun K "__init__" qual st f fd) (Sc : FnScope N ("self" :: n :: ns) (defScope st)) (hz : ns.length ≤ 800)
    (hb : ∀ (cdv : Value) (A : Around) (outer : List Env) (s : Shared) (H : Hp) (E : XK), PSs (cxOf CX0 P w K mg base N qual (defScope st) f cdv A outer s H E).nox (defBody st) (tIni K 1 (n :: ns))) : FnOk P w K mg base CX0 1 f fd ("self" :: n :: ns) (spInit C (n :: ns)) := by
  refine Fn.ok Sc (fun vs H Q E ⟨a, ws, e, hl, _⟩ => by rw [e, List.length_cons, hl]; rfl) fun cdv A outer s H vs Q E hr ⟨a, ws, e, hl, ha, q⟩ => ⟨_, hb cdv A outer s H E, ?_⟩
  subst e
  cases ws with
  | nil => simp at hl
  | cons v ws =>
    have st : ∀ (j : Nat) (u : V), (V.ref a :: v :: ws)[j]? = some u → (L2.start N (V.ref a :: v :: ws))[j]? = some (some u) := fun j u e => by
      unfold L2.start
      rw [List.getElem?_append_left (by rw [List.length_map]; exact (List.getElem?_eq_some_iff.mp e).1), List.getElem?_map, e]
      rfl
    exact ini_new T (st 0 _ rfl) ha n ns v ws (by simpa using hl.symm) hz hno (fun j u e => st (1 + j) u (by rw [show 1 + j = j + 1 by omega]; exact e)) fun d hd hda => q d hd hda
end
end L3

set_option Elab.async false
set_option maxRecDepth 100000
set_option linter.all false
set_option maxHeartbeats 2000000
namespace L3
open PySem PySem.Spec PyProof.Rows L2
/-! ### iterating a tuple or a list, as it comes -/
abbrev iAnyD (te : DTE) : DTI := fun δ S Q => iSeq te δ S Q ∨ iTupD te δ S Q
section
variable {X : Cx} {Γ : KG X.K} {e tg : Expr} {te : DTE}
theorem dpi_any (h : DPE X Γ e te) : DPI X Γ tg e (iAnyD te) := ⟨fun pins s σ H R I ⟨F, δ, S, P, sm, rs, q, c⟩ => q.elim (fun q => (dpi_seq h).run pins s σ H R I ⟨F, δ, S, P, sm, rs, q, c⟩) fun q => (dpi_tup h).run pins s σ H R I ⟨F, δ, S, P, sm, rs, q, c⟩⟩
end
/-! ### the table of the classes -/
def subL (l : List (Str × Str × Bool)) (x y : Str) : Option Bool := (l.find? fun e => e.1 == x && e.2.1 == y).map (·.2.2)
theorem SubOk.of {K : PySem.W.Frag} {ct : CTab} (l : List (Str × Str × Bool)) (h : ∀ e ∈ l, PySem.W.exmOne K (.ref (ct e.1)) (.ref (ct e.2.1)) = some e.2.2) : SubOk K ct (subL l) := fun x y b q => by
  unfold subL at q
  cases e : l.find? fun e => e.1 == x && e.2.1 == y with
  | none => rw [e] at q; cases q
  | some z =>
    rw [e] at q
    cases q
    have h1 := List.find?_some e
    simp only [Bool.and_eq_true, beq_iff_eq] at h1
    rw [← h1.1, ← h1.2]
    exact h z (List.mem_of_find?_eq_some e)
def ctOf (l : List (Str × Addr)) : CTab := fun x => (l.lookup x).getD 0
theorem exm_of {K : PySem.W.Frag} {c y : Addr} {b : Bool} (h1 : PySem.W.subIn K (.ref y) (.type "BaseException") = some true) (h2 : PySem.W.isClsIn K y = true) (h3 : PySem.W.typeIn K (.ref y) = some (.type "type")) (h4 : PySem.W.subIn K (.ref c) (.ref y) = some b) : PySem.W.exmOne K (.ref c) (.ref y) = some b := by
  have e1 : (PySem.W.subIn K (.ref y) (.type "BaseException") == some true) = true := by rw [h1]; rfl
  have h2' : (PySem.W.clsIn K y).isSome = true := h2
  have e2 : ((PySem.W.clsIn K y).isSome && PySem.W.typeIn K (.ref y) == some (.type "type")) = true := by rw [h2', h3]; rfl
  show (if _ = true then (if ((PySem.W.clsIn K y).isSome && PySem.W.typeIn K (.ref y) == some (.type "type")) = true then PySem.W.subIn K (.ref c) (.ref y) else none) else none) = some b
  rw [if_pos e1, if_pos e2]
  exact h4
/-- nothing is let out -/
abbrev dNoX : DWX := fun _ _ _ _ => False
theorem takes_no {X : Cx} {Γ : KG X.K} {ct : CTab} : Takes X (WD Γ ct dNoX) := fun _ _ ⟨_, _, _, _, _, _, _, _, _, _, _, _, _, _, _, _, F, δ, S, x, fs, vs, dd, _, _, _, _, _, _, _, z⟩ => z.elim
abbrev x0 (sp : Sto → DK → DXK → Prop) : DSpX := fun ds S Q E => match ds with | [] => sp S Q E | _ => False
abbrev x1 (sp : D → Sto → DK → DXK → Prop) : DSpX := fun ds S Q E => match ds with | [a] => sp a S Q E | _ => False
abbrev x2 (sp : D → D → Sto → DK → DXK → Prop) : DSpX := fun ds S Q E => match ds with | [a, b] => sp a b S Q E | _ => False
abbrev x3 (sp : D → D → D → Sto → DK → DXK → Prop) : DSpX := fun ds S Q E => match ds with | [a, b, c] => sp a b c S Q E | _ => False
abbrev x4 (sp : D → D → D → D → Sto → DK → DXK → Prop) : DSpX := fun ds S Q E => match ds with | [a, b, c, d] => sp a b c d S Q E | _ => False
abbrev x5 (sp : D → D → D → D → D → Sto → DK → DXK → Prop) : DSpX := fun ds S Q E => match ds with | [a, b, c, d, e] => sp a b c d e S Q E | _ => False
theorem x1_len {sp} : ∀ ds S P E, x1 sp ds S P E → ds.length = 1
  | [_], _, _, _, _ => rfl
  | [], _, _, _, h | _ :: _ :: _, _, _, _, h => (h : False).elim
theorem x2_len {sp} : ∀ ds S P E, x2 sp ds S P E → ds.length = 2
  | [_, _], _, _, _, _ => rfl
  | [], _, _, _, h | [_], _, _, _, h | _ :: _ :: _ :: _, _, _, _, h => (h : False).elim
theorem x3_len {sp} : ∀ ds S P E, x3 sp ds S P E → ds.length = 3
  | [_, _, _], _, _, _, _ => rfl
  | [], _, _, _, h | [_], _, _, _, h | [_, _], _, _, _, h | _ :: _ :: _ :: _ :: _, _, _, _, h => (h : False).elim
theorem x4_len {sp} : ∀ ds S P E, x4 sp ds S P E → ds.length = 4
  | [_, _, _, _], _, _, _, _ => rfl
  | [], _, _, _, h | [_], _, _, _, h | [_, _], _, _, _, h | [_, _, _], _, _, _, h | _ :: _ :: _ :: _ :: _ :: _, _, _, _, h => (h : False).elim
theorem FnD.none {P : Program} {w : World} {K : PySem.W.Frag} {mg : Str → Option Value} {base : Heap} {k : Nat} {f : Addr} {fd : FuncData} {ps : List Str} : FnD P w K mg base k f fd ps (fun _ _ _ => False) :=
  ⟨fun vs H Q E ⟨_, _, _, _, _, _, h, _⟩ => h.elim, fun _ _ _ _ _ _ _ _ _ _ _ _ _ ⟨_, _, _, _, _, _, h, _⟩ => h.elim⟩
/-- the parts of a class's text -/
def clsBody : Stmt → List Stmt
  | .ClassDef _ _ _ body .. => body
  | _ => []
/-- a module's constant -/
def Known (K : PySem.W.Frag) (d : D) (u : Value) : Prop := ∃ v, RelV v u ∧ ∀ G, Rel K G v d
theorem dpe_globE {X : Cx} {Γ : KG X.K} {x : Str} {d : D} {u : Value} {pos : Pos} (k : Known X.K d u) (hm : X.mg x = some u) (hg : Gl X x) (hd : (x == ("__debug__" : Str)) = false := by decide) : DPE X Γ (.Name x pos) (dC d) := by
  obtain ⟨v, q, r⟩ := k
  exact dpe_glob hg hm q r hd
theorem Known.int {K : PySem.W.Frag} {i : Int} {t : Nat} : Known K (.int i) (.int i t) := ⟨.int i, ⟨_, rfl⟩, fun _ => .int i⟩
inductive KnownL (K : PySem.W.Frag) : List D → List Value → Prop
  | nil : KnownL K [] []
  | cons {d : D} {ds : List D} {u : Value} {us : List Value} : Known K d u → KnownL K ds us → KnownL K (d :: ds) (u :: us)
theorem KnownL.ex {K : PySem.W.Frag} : ∀ {ds : List D} {us : List Value}, KnownL K ds us → ∃ vs, Vals vs us ∧ ∀ G, RelL K G vs ds
  | _, _, .nil => ⟨[], .nil, fun _ => .nil⟩
  | _, _, .cons ⟨v, h, r⟩ t => by
    obtain ⟨vs, h2, r2⟩ := KnownL.ex t
    exact ⟨v :: vs, .cons h h2, fun G => .cons (r G) (r2 G)⟩
theorem Known.tup {K : PySem.W.Frag} {a : Addr} {sl : Array (Option Value)} {items : Array Value} {n : Nat} {ds : List D} (h : K.lookup a = some ⟨.type "tuple", none, .seq items n, sl⟩) (hs : items.size ≤ 1000) (k : KnownL K ds items.toList) : Known K (.tup ds) (.ref a) := by
  obtain ⟨vs, h2, r2⟩ := k.ex
  exact ⟨.ref a, rfl, fun G => .tup (.inr ⟨_, items, n, h, rfl, rfl, rfl, by rw [sizeLine_eq]; omega, h2⟩) (r2 G)⟩
/-! ### a, b = x, y -/
abbrev dPar (i j : Nat) (ta : DTA) : DTS := fun D δ S => ta δ S fun ds S1 => match ds with | [u, v] => D.nx (dset (dset δ i (some u)) j (some v)) S1 | _ => False
abbrev dPar3 (i j l : Nat) (ta : DTA) : DTS := fun D δ S => ta δ S fun ds S1 => match ds with | [u, v, w] => D.nx (dset (dset (dset δ i (some u)) j (some v)) l (some w)) S1 | _ => False
section
variable {X : Cx} {Γ : KG X.K} {i j l : Nat} {x y z : Str} {a b c : Expr} {ta : DTA} {px py pz pt pos : Pos} {kt k2 : _} {pt2 : Pos}
theorem dps_par (hN : X.N.Nodup) (hi : X.N[i]? = some x) (hj : X.N[j]? = some y) (hij : i ≠ j) (hx : X.env.scope.names.lookup x = some .local) (hy : X.env.scope.names.lookup y = some .local) (ha : DPA X Γ [a, b] ta)
    (hc : X.calm = true := by rfl) (hw : swappedStores [.Tuple [.Name x px, .Name y py] kt pt] (.Tuple [a, b] k2 pt2) X.env = pure (some [x, y]) := by rfl)
    (hs : swapsWithSole [.Tuple [.Name x px, .Name y py] kt pt] (.Tuple [a, b] k2 pt2) pos.line X.env = pure false := by rfl) :
    DPS X Γ (.Assign [.Tuple [.Name x px, .Name y py] kt pt] (.Tuple [a, b] k2 pt2) pos) (dPar i j ta) := PSw (ps_par hc hN hi hj hij hx hy ha hw hs) fun D σ H ⟨F, δ, S, P, sm, rs, h, c⟩ => ⟨F, δ, S, _, sm, rs, h, fun ds S1 h1 vs H1 g1 r1 => by
  match ds, r1, h1 with
  | [_, _], .cons r (.cons q .nil), h1 => exact ⟨_, _, rfl, c.nx _ _ h1 _ _ g1 (((rs.mono g1.same).dset r i).dset q j)⟩⟩
theorem dps_par3 (hN : X.N.Nodup) (hi : X.N[i]? = some x) (hj : X.N[j]? = some y) (hl : X.N[l]? = some z) (hij : i ≠ j) (hil : i ≠ l) (hjl : j ≠ l) (hx : X.env.scope.names.lookup x = some .local) (hy : X.env.scope.names.lookup y = some .local) (hz : X.env.scope.names.lookup z = some .local) (ha : DPA X Γ [a, b, c] ta)
    (hc : X.calm = true := by rfl) (hw : swappedStores [.Tuple [.Name x px, .Name y py, .Name z pz] kt pt] (.Tuple [a, b, c] k2 pt2) X.env = pure (some [x, y, z]) := by rfl)
    (hs : swapsWithSole [.Tuple [.Name x px, .Name y py, .Name z pz] kt pt] (.Tuple [a, b, c] k2 pt2) pos.line X.env = pure false := by rfl) :
    DPS X Γ (.Assign [.Tuple [.Name x px, .Name y py, .Name z pz] kt pt] (.Tuple [a, b, c] k2 pt2) pos) (dPar3 i j l ta) := PSw (ps_par3 hc hN hi hj hl hij hil hjl hx hy hz ha hw hs) fun D σ H ⟨F, δ, S, P, sm, rs, h, c⟩ => ⟨F, δ, S, _, sm, rs, h, fun ds S1 h1 vs H1 g1 r1 => by
  match ds, r1, h1 with
  | [_, _, _], .cons r (.cons q (.cons t .nil)), h1 => exact ⟨_, _, _, rfl, c.nx _ _ h1 _ _ g1 ((((rs.mono g1.same).dset r i).dset q j).dset t l)⟩⟩
end
end L3

set_option Elab.async false
set_option maxRecDepth 100000
set_option linter.all false
set_option maxHeartbeats 2000000
namespace L3
open PySem PySem.Spec PyProof.Rows L2
/-! ### truth -/
def vTru : D → Sto → (Bool → Sto → Prop) → Prop
  | .non, S, Q => Q false S
  | .bl b, S, Q => Q b S
  | .int i, S, Q => Q (i != 0) S
  | .str y, S, Q => y.length ≤ sizeLine ∧ Q ((y.length : Int) != 0) S
  | .tup ds, S, Q => Q (!ds.isEmpty) S
  | .key ds, S, Q => Q (!ds.isEmpty) S
  | .lst ds, S, Q => Q (!ds.isEmpty) S
  | .ro ds, S, Q => Q (!ds.isEmpty) S
  | .ref a, S, Q => match S a with
    | some (.lst ds) => Q (!ds.isEmpty) S
    | some (.dK ds) => Q (!ds.isEmpty) S
    | _ => False
  | .ty _, _, _ => False
  | .dct _ _, _, _ => False
theorem RelL.emp {K : PySem.W.Frag} {G : Hp} {xs : List V} {ds : List D} (r : RelL K G xs ds) : xs.isEmpty = ds.isEmpty := by cases r <;> rfl
theorem RelF.emp {K : PySem.W.Frag} {G : Hp} {κ : Type} {xs : List (κ × V)} {ds : List (κ × D)} (r : RelF K G xs ds) : xs.isEmpty = ds.isEmpty := by cases r <;> rfl
theorem vTru_ok {K : PySem.W.Frag} {Γ : KG K} {F : Addr → Bool} {S : Sto} {H : Hp} {v : V} {d : D} {P : Bool → Sto → Prop} (sm : Sim Γ F S H) (r : Rel K (fz F S H) v d) (h : vTru d S P) : ∃ k, TruV K v H k ∧ P k S := by
  cases r
  · exact ⟨_, rfl, h⟩
  · exact ⟨_, rfl, h⟩
  · exact ⟨_, rfl, h⟩
  · exact ⟨_, ⟨h.1, rfl⟩, h.2⟩
  · simp only [vTru] at h
    split at h
    · rename_i e
      obtain ⟨vs, e1, r1⟩ := sm.lst e
      exact ⟨_, .inl ⟨_, .of e1, rfl⟩, by rw [r1.emp]; exact h⟩
    · rename_i e
      obtain ⟨vs, e1, r1⟩ := (sm.at_ _ _ e).2
      exact ⟨_, .inr (.inr ⟨_, e1, rfl⟩), by rw [r1.emp]; exact h⟩
    · exact h.elim
  · exact h.elim
  · rename_i hs rl
    exact ⟨_, .inr (.inl ⟨_, sqT_mono (fz_same F S H) hs, rfl⟩), by rw [rl.emp]; exact h⟩
  · rename_i hs rl
    exact ⟨_, .inl ⟨_, .of (fz_same F S H _ _ hs), rfl⟩, by rw [rl.emp]; exact h⟩
  · rename_i hs rl
    exact ⟨_, .inl ⟨_, (fz_same F S H).seq hs, rfl⟩, by rw [rl.emp]; exact h⟩
  · rename_i hs rl
    exact ⟨_, .inr (.inl ⟨_, .of (fz_same F S H _ _ hs), rfl⟩), by rw [rl.emp]; exact h⟩
  · exact h.elim
abbrev dTru (te : DTE) : DTT := fun δ S Q => te δ S fun x S1 => vTru x S1 Q
section
variable {X : Cx} {Γ : KG X.K} {a b o e i : Expr} {ta tb to te ti : DTE} {t : DTA} {es : List Expr} {pos apos cpos p : Pos}
theorem dpt_truth (h : DPE X Γ a ta) (he : ∀ whole, isTrue a X.env whole = (do let v ← whole; standAt a.pos; holding [v] (truthy v)) := by intro _; rfl) : DPT X Γ a (dTru ta) :=
  PTw (pt_truth h he) fun σ H Q ⟨F, δ, S, P, sm, rs, h, c⟩ => ⟨F, δ, S, _, sm, rs, h, fun d S1 h1 v H1 g1 r1 => by
    obtain ⟨k, h2, h3⟩ := vTru_ok g1.sim r1 h1
    exact ⟨k, h2, c _ _ h3 _ g1⟩⟩
/-! ### in -/
def flatD : D → Bool
  | .non => true
  | .bl _ => true
  | .int _ => true
  | .str _ => true
  | _ => false
def eqD : D → D → Bool
  | .non, .non => true
  | .bl a, .bl b => a == b
  | .bl a, .int b => (if a then 1 else 0) == b
  | .int a, .bl b => a == (if b then 1 else 0)
  | .int a, .int b => a == b
  | .str a, .str b => a == b
  | _, _ => false
def inD (x : D) (xs : List D) : Bool := xs.any fun y => eqD y x
theorem Rel.flat {K : PySem.W.Frag} {G : Hp} {v : V} {d : D} (r : Rel K G v d) (h : flatD d = true) : flatV v = true := by
  cases r <;> first | rfl | cases h
theorem RelL.flat {K : PySem.W.Frag} {G : Hp} : ∀ {vs : List V} {ds : List D}, RelL K G vs ds → ds.all flatD = true → vs.all flatV = true
  | _, _, .nil, _ => rfl
  | _, _, .cons r t, h => by
    rw [List.all_cons, Bool.and_eq_true] at h
    rw [List.all_cons, Bool.and_eq_true]
    exact ⟨r.flat h.1, RelL.flat t h.2⟩
theorem Rel.eqD {K : PySem.W.Frag} {G : Hp} {v w : V} {d e : D} (r : Rel K G v d) (s : Rel K G w e) (hd : flatD d = true) (he : flatD e = true) : eqV v w = L3.eqD d e := by
  cases r <;> first | (cases hd; done) | skip
  all_goals cases s <;> first | rfl | (cases he; done)
theorem RelL.inD {K : PySem.W.Frag} {G : Hp} {w : V} {e : D} (s : Rel K G w e) (he : flatD e = true) : ∀ {vs : List V} {ds : List D}, RelL K G vs ds → ds.all flatD = true → inV w vs = L3.inD e ds
  | _, _, .nil, _ => rfl
  | _, _, .cons (v := v) (d := d) r t, h => by
    rw [List.all_cons, Bool.and_eq_true] at h
    unfold inV L3.inD
    rw [List.any_cons, List.any_cons, r.eqD s h.1 he]
    have := RelL.inD s he t h.2
    unfold inV L3.inD at this
    rw [this]
def seqAny (S : Sto) : D → Option (List D)
  | .tup ds => some ds
  | .key ds => some ds
  | x => seqOf S x
theorem seqAny_rel {K : PySem.W.Frag} {Γ : KG K} {F : Addr → Bool} {S : Sto} {H : Hp} {v : V} {d : D} {ds : List D} (sm : Sim Γ F S H) (r : Rel K (fz F S H) v d) (h : seqAny S d = some ds) : ∃ a vs, v = .ref a ∧ (SqL K H a vs ∨ SqT K H a vs) ∧ RelL K (fz F S H) vs ds := by
  by_cases z : ∃ es, d = .tup es ∨ d = .key es
  · obtain ⟨es, rfl | rfl⟩ := z
    · cases h
      cases r with
      | tup hs rl => exact ⟨_, _, rfl, .inr (sqT_mono (fz_same F S H) hs), rl⟩
    · cases h
      cases r with
      | key hs rl => exact ⟨_, _, rfl, .inr (.of (fz_same F S H _ _ hs)), rl⟩
  · have e : seqAny S d = seqOf S d := by
      cases d <;> first | rfl | exact absurd ⟨_, .inl rfl⟩ z | exact absurd ⟨_, .inr rfl⟩ z
    rw [e] at h
    obtain ⟨a, vs, h1, h2, h3⟩ := seqOf_rel sm r h
    exact ⟨a, vs, h1, .inl h2, h3⟩
def vInS (neg : Bool) (x : D) (ds : List D) (S : Sto) (Q : DK) : Prop := flatD x = true ∧ ds.all flatD = true ∧ Q (.bl (if neg then !inD x ds else inD x ds)) S
def vInO (neg : Bool) (x : D) (S : Sto) (Q : DK) : Option (List D) → Prop
  | some ds => vInS neg x ds S Q
  | none => False
def vIn (neg : Bool) (x y : D) (S : Sto) (Q : DK) : Prop := vInO neg x S Q (seqAny S y)
theorem dop_inAny (neg : Bool) {f : Value → Value → Sem Value} (h : OpR X f (rIn X.K neg)) : DOp X f (vIn neg) := by
  refine ⟨_, h, fun x y dx dy F S H P Q sm rx ry q c => ?_⟩
  unfold vIn at q
  cases e : seqAny S dy with
  | none => rw [e] at q; exact q.elim
  | some ds =>
    rw [e] at q
    obtain ⟨h1, h2, h3⟩ := q
    obtain ⟨a, vs, rfl, hs, rl⟩ := seqAny_rel sm ry e
    refine ⟨a, vs, rfl, hs, rx.flat h1, rl.flat h2, ?_⟩
    rw [rl.inD rx h1 h2]
    exact c.use sm (.bl _) h3
theorem dop_in : DOp X (compareOp .In) (vIn false) := dop_inAny false op_in_seq
theorem dop_notin : DOp X (compareOp .NotIn) (vIn true) := dop_inAny true op_notIn_seq
end
/-! ### methods of lists -/
section
variable {X : Cx} {Γ : KG X.K}
/-- xs.pop(i) -/
def vPopAt : D → List D → Sto → DK → Prop
  | .ref a, [.int i], S, Q => match S a with
    | some (.lst ds) => -(2 ^ 62) ≤ i ∧ i < 2 ^ 62 ∧ match ixN ds.length i with | some k => ∃ d, ds[k]? = some d ∧ Q d (sup S a (.lst (ds.eraseIdx k))) | none => False
    | _ => False
  | _, _, _, _ => False
theorem RelL.erase {K : PySem.W.Frag} {G : Hp} : ∀ {xs : List V} {ds : List D} (k : Nat), RelL K G xs ds → RelL K G (xs.eraseIdx k) (ds.eraseIdx k)
  | _, _, _, .nil => .nil
  | _, _, 0, .cons _ t => t
  | _, _, k + 1, .cons r t => .cons r (RelL.erase k t)
theorem lr_popAt : LRM X.K rPopAt vPopAt := fun x xs dx ds F S H P Q sm rx rxs q c => by
  cases rx <;> first | exact (q : False).elim | skip
  rcases ds with _ | ⟨d, _ | ⟨_, _⟩⟩ <;> first | exact (q : False).elim | skip
  · cases d <;> first | exact (q : False).elim | skip
    cases rxs with
    | cons r1 r2 =>
    cases r2; cases r1
    simp only [vPopAt] at q
    split at q
    · rename_i es e
      obtain ⟨vs, e1, rv⟩ := sm.lst e
      obtain ⟨b0, b1, q⟩ := q
      split at q
      · rename_i k ek
        obtain ⟨d, e2, q⟩ := q
        obtain ⟨v, e3, r3⟩ := rv.get e2
        refine ⟨_, vs, _, k, v, rfl, rfl, e1, by omega, by omega, by rw [rv.length]; exact (ixN_seq ek).1, e3, c.put (o := .lst (vs.eraseIdx k)) (u' := .lst (es.eraseIdx k)) sm e ⟨_, rfl, rv.erase k⟩ r3 q⟩
      · exact q.elim
    · exact q.elim
  · cases d <;> exact (q : False).elim
/-- xs.insert(i, x) -/
def vInsert : D → List D → Sto → DK → Prop
  | .ref a, [.int i, d], S, Q => match S a with
    | some (.lst ds) => ds.length < sizeLine ∧ 0 ≤ i ∧ i < 2 ^ 62 ∧ Q .non (sup S a (.lst (ds.take i.toNat ++ [d] ++ ds.drop i.toNat)))
    | _ => False
  | _, _, _, _ => False
theorem lr_insert : LRM X.K (fun x vs H Q => ∃ (l : Addr) (xs : List V) (i : Int) (y : V), x = .ref l ∧ vs = [.int i, y] ∧ H l = some (.lst xs) ∧ xs.length < sizeLine ∧ 0 ≤ i ∧ i < 2 ^ 63 ∧ Q .non (upd H l (.lst (xs.take i.toNat ++ [y] ++ xs.drop i.toNat)))) vInsert := fun x xs dx ds F S H P Q sm rx rxs q c => by
  cases rx <;> first | exact (q : False).elim | skip
  rcases ds with _ | ⟨d, _ | ⟨d2, _ | ⟨_, _⟩⟩⟩ <;> first | exact (q : False).elim | (cases d <;> exact (q : False).elim) | skip
  cases d <;> first | exact (q : False).elim | skip
  cases rxs with
  | cons r1 r2 =>
  cases r2 with
  | cons r2 r3 =>
  cases r3; cases r1
  simp only [vInsert] at q
  split at q
  · rename_i es e
    obtain ⟨vs, e1, rv⟩ := sm.lst e
    obtain ⟨b0, b1, b2, q⟩ := q
    exact ⟨_, vs, _, _, rfl, rfl, e1, by rw [rv.length]; exact b0, b1, by omega, c.put (o := .lst (vs.take _ ++ [_] ++ vs.drop _)) (u' := .lst (es.take _ ++ [_] ++ es.drop _)) sm e ⟨_, rfl, ((rv.take _).append (.cons r2 .nil)).append (rv.drop _)⟩ .non q⟩
  · exact q.elim
/-- xs.extend(ys) -/
def vExtend : D → List D → Sto → DK → Prop
  | .ref a, [.lst es], S, Q => match S a with
    | some (.lst ds) => ds.length + es.length ≤ sizeLine ∧ Q .non (sup S a (.lst (ds ++ es)))
    | _ => False
  | _, _, _, _ => False
theorem lr_extend : LRM X.K rExtend vExtend := fun x xs dx ds F S H P Q sm rx rxs q c => by
  cases rx <;> first | exact (q : False).elim | skip
  rcases ds with _ | ⟨d, _ | ⟨_, _⟩⟩ <;> first | exact (q : False).elim | (cases d <;> exact (q : False).elim) | skip
  cases d <;> first | exact (q : False).elim | skip
  cases rxs with
  | cons r1 r2 =>
  cases r2
  cases r1 with
  | lst hb rb =>
  simp only [vExtend] at q
  split at q
  · rename_i es e
    obtain ⟨vs, e1, rv⟩ := sm.lst e
    obtain ⟨b0, q⟩ := q
    exact ⟨_, _, vs, _, rfl, rfl, e1, fz_same F S H _ _ hb, by rw [rv.length, rb.length]; exact b0, c.put (o := .lst (vs ++ _)) (u' := .lst (es ++ _)) sm e ⟨_, rfl, rv.append rb⟩ .non q⟩
  · exact q.elim
/-! ### sorted, of ints -/
def vSortedI : List D → Sto → DK → Prop
  | [x], S, Q => match (seqOf S x).bind asInts with | some ns => ∀ ns' : List Int, ns'.Perm ns → ns'.Pairwise (· ≤ ·) → Q (.lst (ns'.map .int)) S | none => False
  | _, _, _ => False
theorem dcall_sortedI : DCall X (.builtin "sorted") vSortedI := by
  refine ⟨_, cr_sortedI, fun xs ds F S H P Q sm rx q c => ?_⟩
  rcases ds with _ | ⟨d1, _ | ⟨d2, ds⟩⟩ <;> first | exact (q : False).elim | skip
  cases rx with
  | cons r1 r2 =>
  cases r2
  have q : match (seqOf S d1).bind asInts with | some ns => ∀ ns' : List Int, ns'.Perm ns → ns'.Pairwise (· ≤ ·) → P (.lst (ns'.map .int)) S | none => False := q
  split at q
  · rename_i bs e
    obtain ⟨ds, e1, e2⟩ := Option.bind_eq_some_iff.mp e
    obtain ⟨a, vs, rfl, hs, rl⟩ := seqOf_rel sm r1 e1
    rw [asInts_eq e2] at rl
    exact ⟨a, bs, rfl, by rw [← rl.ints]; exact hs, fun ns' p h1 h2 hp => c.new sm hp (fz_newL sm hp (RelL.ofInts ns')) (q ns' h1 h2)⟩
  · exact q.elim
end
/-! ### dicts -/
def keyOf : D → Option Key
  | .int i => some (Sum.inl i)
  | .str s => some (Sum.inr s)
  | _ => none
def keysOf : List D → Option (List Key)
  | [] => some []
  | d :: r => match keyOf d, keysOf r with
    | some k, some ks => some (k :: ks)
    | _, _ => none
section
variable {κ : Type} [DecidableEq κ]
def valD (kvs : List (κ × D)) (k : κ) : Option D := (kvs.find? fun kv => decide (kv.1 = k)).map (·.2)
def putD (kvs : List (κ × D)) (k : κ) (v : D) : List (κ × D) := if (kvs.any fun kv => decide (kv.1 = k)) = true then kvs.map fun kv => if kv.1 = k then (kv.1, v) else kv else kvs ++ [(k, v)]
theorem RelF.val {K : PySem.W.Frag} {G : Hp} {k : κ} : ∀ {vs : List (κ × V)} {ds : List (κ × D)}, RelF K G vs ds → (valV vs k).isSome = (valD ds k).isSome ∧ ∀ d, valD ds k = some d → ∃ v, valV vs k = some v ∧ Rel K G v d
  | _, _, .nil => ⟨rfl, fun d h => by cases h⟩
  | _, _, .cons (k := j) r t => by
    obtain ⟨h1, h2⟩ := RelF.val (k := k) t
    by_cases e : j = k
    · subst e
      simp only [valV, valD, List.find?_cons, decide_true, Option.map_some]
      exact ⟨rfl, fun d h => by cases h; exact ⟨_, rfl, r⟩⟩
    · simp only [valV, valD, List.find?_cons, decide_eq_false e] at h1 h2 ⊢
      exact ⟨h1, h2⟩
theorem RelF.any {K : PySem.W.Frag} {G : Hp} {k : κ} : ∀ {vs : List (κ × V)} {ds : List (κ × D)}, RelF K G vs ds → (vs.any fun kv => decide (kv.1 = k)) = ds.any fun kv => decide (kv.1 = k)
  | _, _, .nil => rfl
  | _, _, .cons r t => by rw [List.any_cons, List.any_cons, RelF.any t]
theorem RelF.mapPut {K : PySem.W.Frag} {G : Hp} {k : κ} {v : V} {d : D} (q : Rel K G v d) : ∀ {vs : List (κ × V)} {ds : List (κ × D)}, RelF K G vs ds → RelF K G (vs.map fun kv => if kv.1 = k then (kv.1, v) else kv) (ds.map fun kv => if kv.1 = k then (kv.1, d) else kv)
  | _, _, .nil => .nil
  | _, _, .cons (k := j) r t => by
    rw [List.map_cons, List.map_cons]
    by_cases e : j = k
    · rw [if_pos e, if_pos e]
      exact .cons q (RelF.mapPut q t)
    · rw [if_neg e, if_neg e]
      exact .cons r (RelF.mapPut q t)
theorem RelF.put {K : PySem.W.Frag} {G : Hp} {k : κ} {v : V} {d : D} (q : Rel K G v d) {vs : List (κ × V)} {ds : List (κ × D)} (r : RelF K G vs ds) : RelF K G (putK vs k v) (putD ds k d) := by
  unfold putK putD
  rw [r.any]
  split
  · exact r.mapPut q
  · exact r.append (.cons q .nil)
end
theorem Rel.key1 {K : PySem.W.Frag} {G : Hp} {v : V} {d : D} {k : Key} (r : Rel K G v d) (h : keyOf d = some k) : v = kV k := by
  cases r <;> first | (cases h; done) | skip
  all_goals (cases h; rfl)
theorem RelL.keys {K : PySem.W.Frag} {G : Hp} : ∀ {vs : List V} {ds : List D} {ks : List Key}, RelL K G vs ds → keysOf ds = some ks → vs = ks.map kV
  | _, _, _, .nil, h => by cases h; rfl
  | _, _, _, .cons r t, h => by
    unfold keysOf at h
    split at h
    · rename_i k ks e1 e2
      cases h
      rw [r.key1 e1, RelL.keys t e2]
      rfl
    · cases h
/-- what a key finds: of a dict some answer -/
def dGetD (S : Sto) : D → D → Option (Option D)
  | .ref a, y => match S a with
    | some (.dK kvs) => (keyOf y).map (valD kvs)
    | some (.dT kvs) => match y with | .key ds => (keysOf ds).map (valD kvs) | _ => none
    | _ => none
  | .dct ks ds, y => (keyOf y).map (valD (ks.zip ds))
  | _, _ => none
theorem relF_zip {K : PySem.W.Frag} {G : Hp} {κ : Type} : ∀ {vs : List (κ × V)} {ds : List D}, RelL K G (vs.map (·.2)) ds → RelF K G vs ((vs.map (·.1)).zip ds)
  | [], _, h => by cases h; exact .nil
  | (k, v) :: vs, _, h => by
    cases h with
    | cons r t => exact .cons r (relF_zip t)
theorem dGetD_rel {K : PySem.W.Frag} {Γ : KG K} {F : Addr → Bool} {S : Sto} {H : Hp} {v w : V} {x y : D} {o : Option D} (sm : Sim Γ F S H) (rx : Rel K (fz F S H) v x) (ry : Rel K (fz F S H) w y) (h : dGetD S x y = some o) :
    ∃ a r, v = .ref a ∧ DGet H a w r ∧ r.isSome = o.isSome ∧ ∀ d, o = some d → ∃ u, r = some u ∧ Rel K (fz F S H) u d := by
  cases x <;> first | (cases h; done) | skip
  rotate_left
  · cases rx with
    | dct hs rl =>
    simp only [dGetD] at h
    obtain ⟨k, e1, rfl⟩ := Option.map_eq_some_iff.mp h
    obtain ⟨h1, h2⟩ := (relF_zip rl).val (k := k)
    rw [ry.key1 e1]
    exact ⟨_, _, rfl, .inl ⟨_, k, .inr ⟨_, fz_same F S H _ _ hs⟩, rfl, rfl⟩, h1, h2⟩
  rename_i a
  cases rx
  simp only [dGetD] at h
  split at h
  · rename_i kvs e
    obtain ⟨k, e1, rfl⟩ := Option.map_eq_some_iff.mp h
    obtain ⟨vs, e2, r2⟩ := (sm.at_ _ _ e).2
    obtain ⟨h1, h2⟩ := r2.val (k := k)
    rw [ry.key1 e1]
    exact ⟨a, _, rfl, .k e2, h1, h2⟩
  · rename_i kvs e
    split at h
    · rename_i ds
      obtain ⟨k, e1, rfl⟩ := Option.map_eq_some_iff.mp h
      obtain ⟨vs, e2, r2⟩ := (sm.at_ _ _ e).2
      obtain ⟨h1, h2⟩ := r2.val (k := k)
      cases ry with
      | key hs rl =>
      rw [rl.keys e1] at hs
      exact ⟨a, _, rfl, .t e2 (fz_same F S H _ _ hs), h1, h2⟩
    · cases h
  · cases h
abbrev dDGet (to ti : DTE) : DTE := fun δ S Q => to δ S fun x S1 => ti δ S1 fun y S2 => ∃ d, dGetD S2 x y = some (some d) ∧ Q d S2
abbrev dDIn (ti to : DTE) : DTE := fun δ S Q => ti δ S fun y S1 => to δ S1 fun x S2 => ∃ o, dGetD S2 x y = some o ∧ Q (.bl o.isSome) S2
abbrev dDNotIn (ti to : DTE) : DTE := fun δ S Q => ti δ S fun y S1 => to δ S1 fun x S2 => ∃ o, dGetD S2 x y = some o ∧ Q (.bl (!o.isSome)) S2
/-- what the store is behind a[y] = v -/
def dPutD (S : Sto) (v : D) : D → D → Option Sto
  | .ref a, y => match S a with
    | some (.dK kvs) => match keyOf y with | some k => if kvs.length < sizeLine then some (sup S a (.dK (putD kvs k v))) else none | none => none
    | some (.dT kvs) => match y with
      | .key ds => match keysOf ds with | some k => if kvs.length < sizeLine then some (sup S a (.dT (putD kvs k v))) else none | none => none
      | _ => none
    | _ => none
  | _, _ => none
abbrev dDPut (to ti tv : DTE) : DTS := fun D δ S => tv δ S fun v S1 => to δ S1 fun x S2 => ti δ S2 fun y S3 => ∃ S4, dPutD S3 v x y = some S4 ∧ D.nx δ S4
theorem dPutD_rel {K : PySem.W.Frag} {Γ : KG K} {F : Addr → Bool} {S S4 : Sto} {H : Hp} {v w u : V} {x y d : D} (sm : Sim Γ F S H) (rx : Rel K (fz F S H) v x) (ry : Rel K (fz F S H) w y) (rd : Rel K (fz F S H) u d) (h : dPutD S d x y = some S4) :
    ∃ a H4, v = .ref a ∧ DPut H a w u H4 ∧ Go Γ F S H S4 H4 := by
  cases x <;> first | (cases h; done) | skip
  rename_i a
  cases rx
  simp only [dPutD] at h
  split at h
  · rename_i kvs e
    split at h
    · rename_i k e1
      split at h
      · rename_i hl
        cases h
        obtain ⟨vs, e2, r2⟩ := (sm.at_ _ _ e).2
        rw [ry.key1 e1]
        exact ⟨a, _, rfl, .k e2 (by rw [r2.length]; exact hl), sm.put e ⟨_, rfl, r2.put rd⟩⟩
      · cases h
    · cases h
  · rename_i kvs e
    split at h
    · rename_i ds
      split at h
      · rename_i k e1
        split at h
        · rename_i hl
          cases h
          obtain ⟨vs, e2, r2⟩ := (sm.at_ _ _ e).2
          cases ry with
          | key hs rl =>
          rw [rl.keys e1] at hs
          exact ⟨a, _, rfl, .t e2 (fz_same F S H _ _ hs) (by rw [r2.length]; exact hl), sm.put e ⟨_, rfl, r2.put rd⟩⟩
        · cases h
      · cases h
    · cases h
  · cases h
section
variable {X : Cx} {Γ : KG X.K} {a b o e i value : Expr} {ta tb to te ti tv : DTE} {t : DTA} {es : List Expr} {pos apos cpos p tpos : Pos}
theorem dpe_dget (hu : X.A.units + 1 < cLine) (ho : DPE X Γ o to) (hi : DPE X Γ i ti) (hs : NoSl i := by intro _ _; rfl) : DPE X Γ (.Subscript o i pos) (dDGet to ti) :=
  PEw (pe_dget hu ho hi hs) fun σ H Q ⟨F, δ, S, P, sm, rs, h, c⟩ => ⟨F, δ, S, _, sm, rs, h, fun dx S1 h1 x H1 g1 rx => ⟨F, δ, S1, _, g1.sim, rs.mono g1.same, h1, fun dy S2 ⟨d, h2, h3⟩ y H2 g2 ry => by
    obtain ⟨a, r, rfl, g, _, k⟩ := dGetD_rel g2.sim (rx.mono g2.same) ry h2
    obtain ⟨u, rfl, ru⟩ := k d rfl
    exact ⟨a, u, rfl, g, (c.mono (g1.trans g2)).use g2.sim ru h3⟩⟩⟩
theorem lf_din {Q : VK} {σ : L2.St} {H : Hp} (h : lf Γ (dDIn ti to) σ H Q) : tDIn (lf Γ ti) (lf Γ to) σ H Q := by
  obtain ⟨F, δ, S, P, sm, rs, h, c⟩ := h
  refine ⟨F, δ, S, _, sm, rs, h, fun dy S1 h1 y H1 g1 ry => ⟨F, δ, S1, _, g1.sim, rs.mono g1.same, h1, fun dx S2 ⟨d, h2, h3⟩ x H2 g2 rx => ?_⟩⟩
  obtain ⟨a, r, rfl, g, e, k⟩ := dGetD_rel g2.sim rx (ry.mono g2.same) h2
  exact ⟨a, r, rfl, g, (c.mono (g1.trans g2)).use g2.sim (by rw [e]; exact .bl _) h3⟩
theorem lf_dnotin {Q : VK} {σ : L2.St} {H : Hp} (h : lf Γ (dDNotIn ti to) σ H Q) : tDNotIn (lf Γ ti) (lf Γ to) σ H Q := by
  obtain ⟨F, δ, S, P, sm, rs, h, c⟩ := h
  refine ⟨F, δ, S, _, sm, rs, h, fun dy S1 h1 y H1 g1 ry => ⟨F, δ, S1, _, g1.sim, rs.mono g1.same, h1, fun dx S2 ⟨d, h2, h3⟩ x H2 g2 rx => ?_⟩⟩
  obtain ⟨a, r, rfl, g, e, k⟩ := dGetD_rel g2.sim rx (ry.mono g2.same) h2
  exact ⟨a, r, rfl, g, (c.mono (g1.trans g2)).use g2.sim (by rw [e]; exact .bl _) h3⟩
theorem dpe_din (hu : X.A.units + 1 < cLine) (hi : DPE X Γ i ti) (ho : DPE X Γ o to) (hm : behindInMarks .In o = false := by rfl) : DPE X Γ (.Compare i [.In] [o] pos) (dDIn ti to) := PEw (pe_cmp (pc_din hu hi ho) hm) fun σ H Q h => lf_din h
theorem dpe_dnotin (hu : X.A.units + 1 < cLine) (hi : DPE X Γ i ti) (ho : DPE X Γ o to) (hm : behindInMarks .NotIn o = false := by rfl) : DPE X Γ (.Compare i [.NotIn] [o] pos) (dDNotIn ti to) := PEw (pe_cmp (pc_dnotin hu hi ho) hm) fun σ H Q h => lf_dnotin h
theorem dpt_din (hu : X.A.units + 1 < cLine) (hi : DPE X Γ i ti) (ho : DPE X Γ o to) (hm : behindInMarks .In o = false := by rfl) : DPT X Γ (.Compare i [.In] [o] pos) (dTest (dDIn ti to)) := PTw (pt_cmp (pc_din hu hi ho) hm) fun σ H Q h => lf_din (lf_test σ H Q h)
theorem dpt_dnotin (hu : X.A.units + 1 < cLine) (hi : DPE X Γ i ti) (ho : DPE X Γ o to) (hm : behindInMarks .NotIn o = false := by rfl) : DPT X Γ (.Compare i [.NotIn] [o] pos) (dTest (dDNotIn ti to)) := PTw (pt_cmp (pc_dnotin hu hi ho) hm) fun σ H Q h => lf_dnotin (lf_test σ H Q h)
theorem dps_dput (hu : X.A.units + 1 < cLine) (ho : DPE X Γ o to) (hi : DPE X Γ i ti) (hv : DPE X Γ value tv) (hs : swapsWith value (some (.Subscript o i tpos)) pos.line X.env = pure false := by rfl) : DPS X Γ (.Assign [.Subscript o i tpos] value pos) (dDPut to ti tv) :=
  PSw (ps_dput hu ho hi hv hs) fun D σ H ⟨F, δ, S, P, sm, rs, h, c⟩ => ⟨F, δ, S, _, sm, rs, h, fun dv S1 h1 v H1 g1 rv => ⟨F, δ, S1, _, g1.sim, rs.mono g1.same, h1, fun dx S2 h2 x H2 g2 rx =>
    ⟨F, δ, S2, _, g2.sim, (rs.mono g1.same).mono g2.same, h2, fun dy S3 ⟨S4, h3, h4⟩ y H3 g3 ry => by
      have g13 := (g1.trans g2).trans g3
      obtain ⟨a, H4, rfl, dp, g4⟩ := dPutD_rel g3.sim (rx.mono g3.same) ry (rv.mono (g2.trans g3).same) h3
      exact ⟨a, H4, rfl, dp, c.nx _ _ h4 _ _ (g13.trans g4) ((rs.mono g13.same).mono g4.same)⟩⟩⟩⟩
/-- a new dict -/
abbrev dNewK : DTE := fun _ S Q => ∀ p, S p = none → Q (.ref p) (sup S p (.dK []))
abbrev dNewT : DTE := fun _ S Q => ∀ p, S p = none → Q (.ref p) (sup S p (.dT []))
theorem dpe_dnewK : DPE X Γ (.Dict [] [] pos) dNewK := PEw pe_dnewK fun σ H Q ⟨F, δ, S, P, sm, rs, h, c⟩ p hp => c.newM (o := .dK []) (u := .dK []) sm hp ⟨[], rfl, .nil⟩ (.ref p) (h p (sm.none hp).2)
theorem dpe_dnewT : DPE X Γ (.Dict [] [] pos) dNewT := PEw pe_dnewT fun σ H Q ⟨F, δ, S, P, sm, rs, h, c⟩ p hp => c.newM (o := .dT []) (u := .dT []) sm hp ⟨[], rfl, .nil⟩ (.ref p) (h p (sm.none hp).2)
end
/-! ### displays of dicts -/
def dArgs : List DTE → DTA
  | [] => dNil
  | t :: r => dCons t (dArgs r)
abbrev tKey (k : Key) : TE := fun _ H Q => Q (kV k) H
def prs {K : PySem.W.Frag} (Γ : KG K) : List Key → List DTE → List (TE × TE)
  | k :: ks, t :: ts => (tKey k, lf Γ t) :: prs Γ ks ts
  | _, _ => []
def zipK {α : Type} : List Key → List α → List (Key × α)
  | k :: ks, x :: xs => (k, x) :: zipK ks xs
  | _, _ => []
theorem prs_ok {K : PySem.W.Frag} {Γ : KG K} {F : Addr → Bool} : ∀ (ks : List Key) (ts : List DTE), ks.length = ts.length → ∀ {σ : L2.St} {δ : DSt} {S : Sto} {H : Hp} {P : List D → Sto → Prop} {R : List (V × V) → Hp → Prop}, Sim Γ F S H → RelS K (fz F S H) σ δ → dArgs ts δ S P →
    (∀ ds S' vs H', P ds S' → Go Γ F S H S' H' → RelL K (fz F S' H') vs ds → vs.length = ks.length → R ((zipK ks vs).map fun kv => (kV kv.1, kv.2)) H') → tPairs (prs Γ ks ts) σ H R
  | [], [], _, σ, δ, S, H, P, R, sm, rs, h, c => c [] S [] H h (Go.refl sm) .nil rfl
  | k :: ks, t :: ts, hl, σ, δ, S, H, P, R, sm, rs, h, c => by
    refine ⟨F, δ, S, _, sm, rs, h, fun d S1 h1 v H1 g1 r1 => ?_⟩
    exact prs_ok ks ts (by simpa using hl) g1.sim (rs.mono g1.same) h1 fun ds S' vs H' p g r l => c (d :: ds) S' (v :: vs) H' p (g1.trans g) (.cons (r1.mono g.same) r) (by simp [l])
theorem zipK_rel {K : PySem.W.Frag} {G : Hp} : ∀ {ks : List Key} {vs : List V} {ds : List D}, RelL K G vs ds → RelF K G (zipK ks vs) (zipK ks ds)
  | [], _, _, _ => .nil
  | _ :: _, _, _, .nil => .nil
  | _ :: _, _, _, .cons r t => .cons r (zipK_rel t)
theorem zipK_keys {α : Type} : ∀ {ks : List Key} {vs : List α}, ∀ k v, (k, v) ∈ zipK ks vs → k ∈ ks
  | [], _, _, _, h => by cases h
  | _ :: _, [], _, _, h => by cases h
  | j :: ks, x :: xs, k, v, h => by
    rcases List.mem_cons.mp h with h | h
    · cases h; exact List.mem_cons_self
    · exact List.mem_cons_of_mem _ (zipK_keys k v h)
theorem merge_nodup : ∀ (ks : List Key) (vs : List V) (acc : List (Key × V)), ks.Nodup → (∀ k v, (k, v) ∈ acc → k ∉ ks) → mergeK acc (zipK ks vs) = acc ++ zipK ks vs
  | [], _, acc, _, _ => by simp [zipK, mergeK]
  | _ :: _, [], acc, _, _ => by simp [zipK, mergeK]
  | k :: ks, v :: vs, acc, hn, ha => by
    obtain ⟨hk, hn⟩ := List.nodup_cons.mp hn
    have e : putK acc k v = acc ++ [(k, v)] := by
      refine putK_new v ?_
      unfold valV
      rw [List.find?_eq_none.mpr fun x hx => by
        simp only [decide_eq_true_eq]
        intro z
        obtain ⟨a, b⟩ := x
        exact ha a b hx (by rw [show a = k from z]; exact List.mem_cons_self)]
      rfl
    show mergeK (putK acc k v) (zipK ks vs) = acc ++ (k, v) :: zipK ks vs
    rw [e, merge_nodup ks vs _ hn fun a b hx => ?_, List.append_assoc]
    · rfl
    · rcases List.mem_append.mp hx with hx | hx
      · exact fun z => ha a b hx (List.mem_cons_of_mem _ z)
      · cases List.mem_singleton.mp hx
        exact hk
theorem zipK_len {α : Type} : ∀ (ks : List Key) (vs : List α), (zipK ks vs).length ≤ ks.length
  | [], _ => Nat.le_refl _
  | _ :: _, [] => Nat.zero_le _
  | _ :: ks, _ :: vs => Nat.succ_le_succ (zipK_len ks vs)
abbrev dDisp (ks : List Key) (t : DTA) : DTE := fun δ S Q => t δ S fun ds S1 => ∀ p, S1 p = none → Q (.ref p) (sup S1 p (.dK (zipK ks ds)))
theorem dpe_disp {X : Cx} {Γ : KG X.K} {keys : List (Option Expr)} {values : List Expr} {pos : Pos} {ks : List Key} {ts : List DTE} (h : PPs X pos keys values (prs Γ ks ts)) (hn : ks.Nodup) (h15 : ks.length ≤ 15) (hks : ks.length = ts.length) (hall : keys.all (·.isSome) = true := by rfl) (hl : keys.length = values.length := by rfl) (h0 : keys ≠ [] := by simp) (hk15 : keys.length ≤ 15 := by decide) :
    DPE X Γ (.Dict keys values pos) (dDisp ks (dArgs ts)) := PEw (pe_disp h hall hl h0 hk15) fun σ H Q ⟨F, δ, S, P, sm, rs, q, c⟩ p hp => by
  have fp := (sm.none hp).1
  have s1 : Sim Γ (hide F p) S (upd H p (.dK [])) := sm.hideNew hp
  refine prs_ok ks ts hks s1 (rs.mono (fz_hide_new hp)) q fun ds S' vs H' q2 g r l => ?_
  have e2 : H' p = some (.dK []) := (g.hid p (by simp [hide])).trans upd_same
  have np : S' p = none := by
    cases z : S' p with
    | none => rfl
    | some u =>
      have q := (g.sim.at_ p u z).1
      simp [hide] at q
  have zl : (zipK ks vs).length ≤ 15 := Nat.le_trans (zipK_len ks vs) h15
  refine ⟨e2, zipK ks vs, rfl, zl, ?_⟩
  rw [merge_nodup ks vs [] hn (fun _ _ hx => by cases hx), List.nil_append]
  have same2 : Same (fz (hide F p) S' H') (fz F (sup S' p (.dK (zipK ks ds))) (upd H' p (.dK (zipK ks vs)))) := fun b x e => by
    obtain ⟨h0, h1, h2⟩ := fz_of e
    have nb : b ≠ p := fun z => by subst z; simp [hide] at h0
    rw [fz_none (by simpa [hide, nb] using h0) (by rw [sup_ne nb]; exact h1), upd_ne nb]
    exact h2
  have gb : GoB X.K F S H (sup S' p (.dK (zipK ks ds))) (upd H' p (.dK (zipK ks vs))) := by
    refine ⟨fun b x e => same2 _ _ (g.same _ _ (fz_hide_new hp _ _ e)), fun a f => ?_, ⟨fun a u e => ?_, fun a f => ?_⟩⟩
    · have na : a ≠ p := fun z => by subst z; rw [fp] at f; cases f
      rw [upd_ne na, g.hid a (by simp [hide, na, f]), upd_ne na]
    · by_cases na : a = p
      · subst na
        rw [sup_same] at e; cases e
        rw [upd_same]
        exact ⟨fp, _, rfl, zipK_rel (r.mono same2)⟩
      · rw [sup_ne na] at e
        rw [upd_ne na]
        have q := g.sim.at_ a u e
        exact ⟨by simpa [hide, na] using q.1, q.2.mono same2⟩
    · have na : a ≠ p := fun z => by subst z; rw [fp] at f; cases f
      obtain ⟨x, q⟩ := g.sim.hid a (by simp [hide, na, f])
      exact ⟨x, by rw [upd_ne na]; exact q⟩
  exact c _ _ (q2 p np) _ _ (.of sm gb) (.ref p)
end L3

set_option Elab.async false
set_option maxRecDepth 100000
set_option linter.all false
set_option maxHeartbeats 2000000
namespace L3
open PySem PySem.Spec PyProof.Rows L2
/-! ### len, of dicts with tuples as keys too -/
def vLenT : List D → Sto → DK → Prop
  | [.ref a], S, Q => match S a with
    | some (.dT kvs) => Q (.int kvs.length) S
    | _ => False
  | _, _, _ => False
section
variable {X : Cx} {Γ : KG X.K}
theorem dcall_lenT : DCall X (.builtin "len") vLenT := by
  refine ⟨_, call_len_dT, fun xs ds F S H P Q sm rx q c => ?_⟩
  cases rx with
  | nil => exact (q : False).elim
  | cons r1 r2 =>
  cases r2 with
  | cons _ _ => cases r1 <;> exact (q : False).elim
  | nil =>
  cases r1 <;> first | exact (q : False).elim | skip
  simp only [vLenT] at q
  split at q
  · rename_i e
    obtain ⟨vs, e1, r1⟩ := (sm.at_ _ _ e).2
    exact ⟨_, _, rfl, e1, c.use sm (by rw [r1.length]; exact .int _) q⟩
  · exact q.elim
end
/-! ### range(a, b, -1) -/
def downD (hi : Int) (n : Nat) : List D := (List.range n).map fun i => .int (hi - (i : Nat))
abbrev iDown (ta tb tz : DTE) : DTI := fun δ S Q => ta δ S fun x S1 => tb δ S1 fun y S2 => tz δ S2 fun z S3 => match x, y, z with
  | .int i, .int j, .int k => k = -1 ∧ (-(2 ^ 62) ≤ i ∧ i < 2 ^ 62 ∧ -(2 ^ 62) ≤ j ∧ j < 2 ^ 62) ∧ Q (fun _ => True) (downD i (i - j).toNat) S3
  | _, _, _ => False
theorem walk_down {K : PySem.W.Frag} {Γ : KG K} {F : Addr → Bool} {S : Sto} {H : Hp} {hi : Int} {n : Nat} : WalkD Γ F S H (fun _ => True) (downD hi n) (Itc hi (-1) n) := fun F' S' H' g s _ => by
  have hl : (downD hi n).length = n := by simp [downD]
  rw [hl]
  refine ⟨fun i h => h, Nat.le_refl _, fun i x H2 h y => ?_⟩
  obtain ⟨rfl, rfl⟩ := y
  refine ⟨.int (hi - i), ?_, Go.refl s, ?_⟩
  · unfold downD
    rw [List.getElem?_map, List.getElem?_range h]
    rfl
  · rw [show hi - (i : Int) = hi + i * -1 by omega]
    exact .int _
section
variable {X : Cx} {Γ : KG X.K} {tg a b c e : Expr} {ta tb te tz : DTE} {p pos p1 p2 : Pos} {k : Nat}
theorem dpi_down (hg : Gl X "range") (hm : X.mg "range" = none) (h : DPE X Γ a ta) (h' : DPE X Γ b tb) (hc : DPE X Γ c tz) (hs : starEach [a, b, c] X.env = (false, eval a X.env) :: starEach [b, c] X.env := by rfl) (hpl : (backTo pos (starEach [b, c] X.env)).any (·.1) = false := by rfl)
    (hs1 : starEach [b, c] X.env = (false, eval b X.env) :: starEach [c] X.env := by rfl) (hs2 : starEach [c] X.env = (false, eval c X.env) :: starEach [] X.env := by rfl) : DPI X Γ tg (.Call (.Name "range" p) [a, b, c] [] pos) (iDown ta tb tz) :=
  PIw (pi_range3 hg hm (dpa_cons h (dpa_cons h' (dpa_cons hc dpa_nil hs2) hs1) hs) hs hpl) fun σ H R ⟨F, δ, S, P, sm, rs, h, c⟩ => ⟨F, δ, S, fun ds S1 => match ds with
  | [x, y, z] => (match x, y, z with
    | .int i, .int j, .int k => k = -1 ∧ (-(2 ^ 62) ≤ i ∧ i < 2 ^ 62 ∧ -(2 ^ 62) ≤ j ∧ j < 2 ^ 62) ∧ P (fun _ => True) (downD i (i - j).toNat) S1
    | _, _, _ => False)
  | _ => False, sm, rs, h, fun ds S1 h1 vs H1 g1 r1 => by
    rcases ds with _ | ⟨x, _ | ⟨y, _ | ⟨z, _ | ⟨_, _⟩⟩⟩⟩ <;> first | exact (h1 : False).elim | skip
    cases x <;> first | exact (h1 : False).elim | skip
    cases y <;> first | exact (h1 : False).elim | skip
    cases z <;> first | exact (h1 : False).elim | skip
    cases r1 with
    | cons r1 r2 =>
    cases r2 with
    | cons r2 r3 =>
    cases r3 with
    | cons r3 r4 =>
    cases r4
    cases r1; cases r2; cases r3
    obtain ⟨rfl, ⟨b0, b1, b2, b3⟩, h3⟩ := h1
    exact ⟨_, _, _, _, rfl, .neg b0 b1 b2 b3, c _ _ _ h3 _ _ g1 walk_down⟩⟩
/-! ### zip -/
/-- two lists, or two tuples -/
abbrev iZipA (ta tb : DTE) : DTI := fun δ S Q => ta δ S fun x S1 => tb δ S1 fun y S2 => match itAll S2 x, itAll S2 y with
  | some p, some q => p.2.2 = q.2.2 ∧ Q (fun S' => p.1 S' ∧ q.1 S') ((p.2.1.zip q.2.1).map fun z => .key [z.1, z.2]) S2
  | _, _ => False
theorem zip_get {xs ys : List D} {i : Nat} {x y : D} (h : xs[i]? = some x) (h' : ys[i]? = some y) : ((xs.zip ys).map fun z => D.key [z.1, z.2])[i]? = some (.key [x, y]) := by
  have e : (xs.zip ys)[i]? = some (x, y) := List.getElem?_zip_eq_some.mpr ⟨h, h'⟩
  rw [List.getElem?_map, e]
  rfl
theorem walk_zipL {K : PySem.W.Frag} {Γ : KG K} {F : Addr → Bool} {S : Sto} {H : Hp} {a b : Addr} {ds es : List D} {kp kq : Sto → Prop} (h1 : HeldB Γ F S H kp a ds true) (h2 : HeldB Γ F S H kq b es true) : WalkD Γ F S H (fun S' => kp S' ∧ kq S') ((ds.zip es).map fun z => .key [z.1, z.2]) (Itz K a b) := fun F' S' H' g s k => by
  obtain ⟨xs, a1, a2⟩ := h1 F' S' H' g s k.1
  obtain ⟨ys, b1, b2⟩ := h2 F' S' H' g s k.2
  have hl : ((ds.zip es).map fun z => D.key [z.1, z.2]).length = min ds.length es.length := by simp
  rw [hl]
  refine ⟨fun i hi => ?_, ⟨xs, ys, a1, b1, ?_⟩, fun i x H2 hi y => ?_⟩
  · obtain ⟨v, e1, _⟩ := a2.get (List.getElem?_eq_getElem (show i < ds.length by omega))
    obtain ⟨w, e2, _⟩ := b2.get (List.getElem?_eq_getElem (show i < es.length by omega))
    exact ⟨xs, ys, v, w, a1, b1, e1, e2⟩
  · rw [a2.length, b2.length]
    omega
  · obtain ⟨T, u, w, rfl, hT, rfl, e1, e2⟩ := y
    obtain ⟨d, e3, r3⟩ := a2.get' (e1 xs a1)
    obtain ⟨e, e4, r4⟩ := b2.get' (e2 ys b1)
    exact ⟨_, zip_get e3 e4, s.new hT, .key (fz_new s hT) (.cons (r3.mono (same_new hT)) (.cons (r4.mono (same_new hT)) .nil))⟩
theorem walk_zipT {K : PySem.W.Frag} {Γ : KG K} {F : Addr → Bool} {S : Sto} {H : Hp} {a b : Addr} {ds es : List D} {kp kq : Sto → Prop} (h1 : HeldB Γ F S H kp a ds false) (h2 : HeldB Γ F S H kq b es false) : WalkD Γ F S H (fun S' => kp S' ∧ kq S') ((ds.zip es).map fun z => .key [z.1, z.2]) (RZ.ItzT K a b) := fun F' S' H' g s k => by
  obtain ⟨xs, a1, a2⟩ := h1 F' S' H' g s k.1
  obtain ⟨ys, b1, b2⟩ := h2 F' S' H' g s k.2
  have hl : ((ds.zip es).map fun z => D.key [z.1, z.2]).length = min ds.length es.length := by simp
  rw [hl]
  refine ⟨fun i hi => ?_, ⟨xs, ys, a1, b1, ?_⟩, fun i x H2 hi y => ?_⟩
  · obtain ⟨v, e1, _⟩ := a2.get (List.getElem?_eq_getElem (show i < ds.length by omega))
    obtain ⟨w, e2, _⟩ := b2.get (List.getElem?_eq_getElem (show i < es.length by omega))
    exact ⟨xs, ys, v, w, a1, b1, e1, e2⟩
  · rw [a2.length, b2.length]
    omega
  · obtain ⟨T, u, w, rfl, hT, rfl, e1, e2⟩ := y
    obtain ⟨d, e3, r3⟩ := a2.get' (e1 xs a1)
    obtain ⟨e, e4, r4⟩ := b2.get' (e2 ys b1)
    exact ⟨_, zip_get e3 e4, s.new hT, .key (fz_new s hT) (.cons (r3.mono (same_new hT)) (.cons (r4.mono (same_new hT)) .nil))⟩
theorem HeldB.mono {K : PySem.W.Frag} {Γ : KG K} {F : Addr → Bool} {S S1 : Sto} {H H1 : Hp} {kp : Sto → Prop} {a : Addr} {ds : List D} {b : Bool} (h : HeldB Γ F S H kp a ds b) (e : Same (fz F S H) (fz F S1 H1)) : HeldB Γ F S1 H1 kp a ds b := fun F' S' H' g s k => h F' S' H' (e.trans g) s k
variable {e2 : Expr} {elts : List Expr} {kk : Nat} {tpos : Pos}
theorem dpi_zip (hg : Gl X "zip") (hm : X.mg "zip" = none) (h : DPE X Γ e ta) (h' : DPE X Γ e2 tb) (hs : starEach [e, e2] X.env = (false, eval e X.env) :: starEach [e2] X.env := by rfl) (hs2 : starEach [e2] X.env = (false, eval e2 X.env) :: starEach [] X.env := by rfl) (hpl : (backTo pos (starEach [e2] X.env)).any (·.1) = false := by rfl) :
    DPI X Γ (.Tuple elts kk tpos) (.Call (.Name "zip" p) [e, e2] [] pos) (iZipA ta tb) :=
  PIw (RZ.pi_zipA hg hm (dpa_cons h (dpa_cons h' dpa_nil hs2) hs) hs hpl) fun σ H R ⟨F, δ, S, P, sm, rs, h, c⟩ => ⟨F, δ, S, fun ds S1 => match ds with
  | [x, y] => (match itAll S1 x, itAll S1 y with
    | some p, some q => p.2.2 = q.2.2 ∧ P (fun S' => p.1 S' ∧ q.1 S') ((p.2.1.zip q.2.1).map fun z => .key [z.1, z.2]) S1
    | _, _ => False)
  | _ => False, sm, rs, h, fun ds S1 h1 vs H1 g1 r1 => by
    rcases ds with _ | ⟨x, _ | ⟨y, _ | ⟨_, _⟩⟩⟩ <;> first | exact (h1 : False).elim | skip
    cases r1 with
    | cons r1 r2 =>
    cases r2 with
    | cons r2 r3 =>
    cases r3
    have h1 : match itAll S1 x, itAll S1 y with
      | some p, some q => p.2.2 = q.2.2 ∧ P (fun S' => p.1 S' ∧ q.1 S') ((p.2.1.zip q.2.1).map fun z => .key [z.1, z.2]) S1
      | _, _ => False := h1
    split at h1
    · rename_i p q e1 e2
      obtain ⟨a, vs, rfl, s1, _, w1⟩ := itAll_rel g1.sim r1 e1
      obtain ⟨b, ws, rfl, s2, _, w2⟩ := itAll_rel g1.sim r2 e2
      obtain ⟨eb, h1⟩ := h1
      obtain ⟨kp, ds, pb⟩ := p
      obtain ⟨kq, es, qb⟩ := q
      have eb : pb = qb := eb
      subst eb
      cases pb with
      | true => exact ⟨a, b, vs, ws, rfl, .inl ⟨s1, s2, c _ _ _ h1 _ _ g1 (walk_zipL w1 w2)⟩⟩
      | false => exact ⟨a, b, vs, ws, rfl, .inr ⟨s1, s2, c _ _ _ h1 _ _ g1 (walk_zipT w1 w2)⟩⟩
    · exact h1.elim⟩
end
/-! ### calls with keywords -/
def perm {α : Type} (p : List Nat) (xs : List α) : List α := p.filterMap fun i => xs[i]?
theorem Vals.perm {vs : List V} {us : List Value} (r : Vals vs us) : ∀ p : List Nat, Vals (L3.perm p vs) (L3.perm p us)
  | [] => .nil
  | i :: p => by
    unfold L3.perm
    rw [List.filterMap_cons, List.filterMap_cons]
    by_cases h : i < vs.length
    · obtain ⟨u, e, ru⟩ := r.get (List.getElem?_eq_getElem h)
      rw [List.getElem?_eq_getElem h, e]
      exact .cons ru (Vals.perm r p)
    · rw [List.getElem?_eq_none (by omega), List.getElem?_eq_none (by rw [← r.length]; omega)]
      exact Vals.perm r p
theorem RelL.perm {K : PySem.W.Frag} {G : Hp} {vs : List V} {ds : List D} (r : RelL K G vs ds) : ∀ p : List Nat, RelL K G (L3.perm p vs) (L3.perm p ds)
  | [] => .nil
  | i :: p => by
    unfold L3.perm
    rw [List.filterMap_cons, List.filterMap_cons]
    by_cases h : i < ds.length
    · obtain ⟨u, e, ru⟩ := r.get (List.getElem?_eq_getElem h)
      rw [List.getElem?_eq_getElem h, e]
      exact .cons ru (RelL.perm r p)
    · have hl := r.length
      rw [List.getElem?_eq_none (show vs.length ≤ i by omega), List.getElem?_eq_none (show ds.length ≤ i by omega)]
      exact RelL.perm r p
/-- how a call binds: nu values by position, those of ks by name; p says which goes where -/
structure KwB (fd : FuncData) (ps ks : List Str) (nu : Nat) (p : List Nat) : Prop where
  to : ∀ (us ws : List Value), us.length = nu → ws.length = ks.length → bindArgs fd ⟨us, ks.zip ws⟩ = pure (ps.zip (perm p (us ++ ws)))
theorem kwB_of {K : PySem.W.Frag} {x qual : Str} {st : Stmt} {f : Addr} {fd : FuncData} {ps ks : List Str} {nu : Nat} {p : List Nat} (F : Fun K x qual st f fd)
    (h : ∀ (kV doc pm : Value) (an : Option Addr) (cdv ct : Value) (us ws : List Value), us.length = nu → ws.length = ks.length → bindArgs (PySem.W.fnOf x qual (defArgs st) (defBody st) (defScope st) .none kV doc pm an cdv ct) ⟨us, ks.zip ws⟩ = pure (ps.zip (perm p (us ++ ws)))) : KwB fd ps ks nu p := by
  obtain ⟨oc, od, kV, doc, pm, an, cdv, ct, osl, rfl, lk, hcd⟩ := F.ex
  exact ⟨h kV doc pm an cdv ct⟩
section
variable {X : Cx} {CX : CXT} {k nu : Nat} {f : Addr} {fd : FuncData} {ps ks : List Str} {pm : List Nat} {sp : Sp} {E : L2.St → XK} {x : Str} {p pos : Pos} {e : Expr} {es : List Expr} {kws : List Keyword} {t tk : TA}
abbrev tKw (sp : Sp) (pm : List Nat) (nu nk : Nat) (E : L2.St → XK) (t tk : TA) : TE := fun σ H Q => t σ H fun vs H1 => tk σ H1 fun zs H2 => vs.length = nu ∧ zs.length = nk ∧ sp (perm pm (vs ++ zs)) H2 Q (E σ)
theorem run_kw {pins : List (Addr × Obj)} {σ : L2.St} {H : Hp} {s : Shared} {Q : VK} {us ws : List Value} {vs zs : List V} (F : FnOk X.prog X.w X.K X.mg X.base CX k f fd ps sp) (hr : Room k X.A) (hb : KwB fd ps ks nu pm) (hx : PassesAt CX X σ (E σ))
    (I : Inv X pins σ H s) (r : Vals vs us) (rz : Vals zs ws) (h1 : vs.length = nu) (h2 : zs.length = ks.length) (h : sp (perm pm (vs ++ zs)) H Q (E σ)) : wpAny (model X.prog X.w) X.A (call (.ref f) us (ks.zip ws)) (EP X pins σ Q) X.xe s := by
  have r2 : Vals (perm pm (vs ++ zs)) (perm pm (us ++ ws)) := Vals.perm (r.append rz) pm
  refine wpAny_call (codeAny_mono (F.run X.A X.stack s H ⟨us, ks.zip ws⟩ _ _ Q (E σ) hr I.env0 (.of_eq (hb.to us ws (by rw [← r.length]; exact h1) (by rw [← rz.length]; exact h2))) r2 h) fun r s' hq => ?_)
  rcases r with e | fl
  · exact hx pins H s e s' I hq
  · cases fl <;> first | exact hq.elim | exact I.after hq
theorem pe_kw (F : FnOk X.prog X.w X.K X.mg X.base CX k f fd ps sp) (hr : Room k X.A) (hg : Gl X x) (hm : X.mg x = some (.ref f)) (hk : PySem.W.keepIn X.K (.ref f) = true) (hb : KwB fd ps ks nu pm) (hx : ∀ σ, PassesAt CX X σ (E σ))
    (ha : PA X (e :: es) t) (hkw : PK X kws tk) (hall : (backToKw pos (keywordEach kws X.env)).all (·.1.isSome) = true) (hks : (backToKw pos (keywordEach kws X.env)).filterMap (·.1) = ks)
    (hdb : (x == ("__debug__" : Str)) = false) (he : starEach (e :: es) X.env = (false, eval e X.env) :: starEach es X.env) (hpl : ((backTo pos (starEach (e :: es) X.env)).any (·.1) || (backToKw pos (keywordEach kws X.env)).any (·.1.isNone)) = false) :
    PE X (.Call (.Name x p) (e :: es) kws pos) (tKw sp pm nu ks.length E t tk) := by
  refine ⟨fun pins s σ H Q I h => wpAny_Call_Name_kw (ld_glob I hg hm ?_ hdb)⟩
  refine PySem.W.callWith_KW (h₀ := X.base) I.ok.mod.kin hk hall (thn (ha.run pos pins s σ H _ I h) fun us s1 ⟨vs, H1, I1, r, q⟩ => ?_) hpl he
  refine thn (hkw.run pos pins s1 σ H1 _ I1 q) fun ws s2 ⟨zs, H2, I2, rz, q1, q2, q3⟩ => ⟨I2.kIn, ?_⟩
  rw [hks]
  exact run_kw F hr hb (hx σ) I2 r rz q1 q2 q3
theorem pe_kw0 (F : FnOk X.prog X.w X.K X.mg X.base CX k f fd ps sp) (hr : Room k X.A) (hg : Gl X x) (hm : X.mg x = some (.ref f)) (hk : PySem.W.keepIn X.K (.ref f) = true) (hb : KwB fd ps ks nu pm) (hx : ∀ σ, PassesAt CX X σ (E σ))
    (hkw : PK X kws tk) (hall : (backToKw pos (keywordEach kws X.env)).all (·.1.isSome) = true) (hks : (backToKw pos (keywordEach kws X.env)).filterMap (·.1) = ks)
    (hdb : (x == ("__debug__" : Str)) = false) (hpl : ((backTo pos (starEach [] X.env)).any (·.1) || (backToKw pos (keywordEach kws X.env)).any (·.1.isNone)) = false) :
    PE X (.Call (.Name x p) [] kws pos) (tKw sp pm nu ks.length E tNil tk) := by
  refine ⟨fun pins s σ H Q I h => wpAny_Call_Name_kw (ld_glob I hg hm ?_ hdb)⟩
  refine PySem.W.callWith_KW0 (h₀ := X.base) I.ok.mod.kin hk hall (thn (hkw.run pos pins s σ H _ I h) fun ws s2 ⟨zs, H2, I2, rz, q1, q2, q3⟩ => ⟨I2.kIn, ?_⟩) hpl
  rw [hks]
  exact run_kw (vs := []) (us := []) F hr hb (hx σ) I2 .nil rz q1 q2 q3
end
theorem dArgs_app : ∀ (as ks : List DTE) (δ : DSt) (S : Sto) (Q : List D → Sto → Prop), dArgs (as ++ ks) δ S Q = dArgs as δ S (fun ds S1 => dArgs ks δ S1 (fun es S2 => Q (ds ++ es) S2))
  | [], ks, δ, S, Q => rfl
  | a :: as, ks, δ, S, Q => by
    show a δ S (fun x S1 => dArgs (as ++ ks) δ S1 fun ds S2 => Q (x :: ds) S2) = a δ S (fun x S1 => dArgs as δ S1 fun ds S2 => dArgs ks δ S2 fun es S3 => Q (x :: ds ++ es) S3)
    congr 1
    funext x S1
    exact dArgs_app as ks δ S1 _
theorem lf_args {K : PySem.W.Frag} {Γ : KG K} : ∀ (ts : List DTE) {σ : L2.St} {H : Hp} {F : Addr → Bool} {δ : DSt} {S : Sto} {P : List D → Sto → Prop} {R : List V → Hp → Prop}, Sim Γ F S H → RelS K (fz F S H) σ δ → dArgs ts δ S P →
    (∀ ds S' vs H', P ds S' → Go Γ F S H S' H' → RelL K (fz F S' H') vs ds → ds.length = ts.length → R vs H') → lfA Γ (dArgs ts) σ H R
  | ts, σ, H, F, δ, S, P, R, sm, rs, h, c => by
    refine ⟨F, δ, S, fun ds S' => ds.length = ts.length ∧ P ds S', sm, rs, ?_, fun ds S' ⟨l, p⟩ vs H' g r => c ds S' vs H' p g r l⟩
    have e : ∀ (ts : List DTE) (S : Sto) (Q : List D → Sto → Prop), dArgs ts δ S Q = dArgs ts δ S fun ds S' => ds.length = ts.length ∧ Q ds S' := fun ts => by
      induction ts with
      | nil => intro S Q; show Q [] S = (([] : List D).length = 0 ∧ Q [] S); simp
      | cons t ts ih =>
        intro S Q
        show t δ S (fun x S1 => dArgs ts δ S1 fun ds S2 => Q (x :: ds) S2) = t δ S (fun x S1 => dArgs ts δ S1 fun ds S2 => (x :: ds).length = (t :: ts).length ∧ Q (x :: ds) S2)
        congr 1
        funext x S1
        rw [ih S1 fun ds S2 => Q (x :: ds) S2]
        simp
    rw [e] at h
    exact h
abbrev kw1 (f : D → List D) (sp : DSp) : DSp := fun ds S Q => match ds with | [a] => sp (f a) S Q | _ => False
abbrev kw2 (f : D → D → List D) (sp : DSp) : DSp := fun ds S Q => match ds with | [a, b] => sp (f a b) S Q | _ => False
abbrev kw3 (f : D → D → D → List D) (sp : DSp) : DSp := fun ds S Q => match ds with | [a, b, c] => sp (f a b c) S Q | _ => False
abbrev kw4 (f : D → D → D → D → List D) (sp : DSp) : DSp := fun ds S Q => match ds with | [a, b, c, d] => sp (f a b c d) S Q | _ => False
theorem kw1_ok {f : D → List D} {sp : DSp} {p : List Nat} (h : ∀ a, perm p [a] = f a := by intro _; rfl) : ∀ ds S Q, kw1 f sp ds S Q → sp (perm p ds) S Q
  | [a], S, Q, q => by rw [h]; exact q
  | [], _, _, q | _ :: _ :: _, _, _, q => (q : False).elim
theorem kw2_ok {f : D → D → List D} {sp : DSp} {p : List Nat} (h : ∀ a b, perm p [a, b] = f a b := by intro _ _; rfl) : ∀ ds S Q, kw2 f sp ds S Q → sp (perm p ds) S Q
  | [a, b], S, Q, q => by rw [h]; exact q
  | [], _, _, q | [_], _, _, q | _ :: _ :: _ :: _, _, _, q => (q : False).elim
theorem kw3_ok {f : D → D → D → List D} {sp : DSp} {p : List Nat} (h : ∀ a b c, perm p [a, b, c] = f a b c := by intro _ _ _; rfl) : ∀ ds S Q, kw3 f sp ds S Q → sp (perm p ds) S Q
  | [a, b, c], S, Q, q => by rw [h]; exact q
  | [], _, _, q | [_], _, _, q | [_, _], _, _, q | _ :: _ :: _ :: _ :: _, _, _, q => (q : False).elim
theorem kw4_ok {f : D → D → D → D → List D} {sp : DSp} {p : List Nat} (h : ∀ a b c d, perm p [a, b, c, d] = f a b c d := by intro _ _ _ _; rfl) : ∀ ds S Q, kw4 f sp ds S Q → sp (perm p ds) S Q
  | [a, b, c, d], S, Q, q => by rw [h]; exact q
  | [], _, _, q | [_], _, _, q | [_, _], _, _, q | [_, _, _], _, _, q | _ :: _ :: _ :: _ :: _ :: _, _, _, q => (q : False).elim
section
variable {X : Cx} {Γ : KG X.K} {k nu : Nat} {f : Addr} {fd : FuncData} {ps ks : List Str} {pm : List Nat} {sp sp' : DSp} {x : Str} {p pos : Pos} {e : Expr} {es : List Expr} {kws : List Keyword} {ta tk : List DTE}
theorem dpk_nil : PK X [] (lfA Γ (dArgs [])) := ⟨fun pos pins s σ H Q I ⟨F, δ, S, P, sm, rs, h, c⟩ => pk_nil.run pos pins s σ H Q I (c _ _ h _ _ (Go.refl sm) .nil)⟩
theorem dpk_cons {te : DTE} {nm : Option Str} {kpos : Pos} (ha : DPE X Γ e te) (hr : PK X kws (lfA Γ (dArgs tk))) : PK X (⟨nm, e, kpos⟩ :: kws) (lfA Γ (dArgs (te :: tk))) := ⟨fun pos pins s σ H Q I ⟨F, δ, S, P, sm, rs, h, c⟩ =>
  (pk_cons ha hr).run pos pins s σ H Q I ⟨F, δ, S, _, sm, rs, h, fun d S1 h1 v H1 g1 r1 => ⟨F, δ, S1, _, g1.sim, rs.mono g1.same, h1, fun ds S2 h2 vs H2 g2 r2 => c _ _ h2 _ _ (g1.trans g2) (.cons (r1.mono g2.same) r2)⟩⟩⟩
theorem pass0At {σ : L2.St} : PassesAt CX0 X σ E0 := fun pins H s e s' I h => pass0 pins σ H s e s' I h
theorem lf_kw {σ : L2.St} {H : Hp} {Q : VK} (hsp : ∀ ds S Q, sp' ds S Q → sp (perm pm ds) S Q) (h1 : ta.length = nu) (h2 : tk.length = ks.length) (h : lf Γ (dCall sp' (dArgs (ta ++ tk))) σ H Q) : tKw (lfSp X.K sp) pm nu ks.length (fun _ => E0) (lfA Γ (dArgs ta)) (lfA Γ (dArgs tk)) σ H Q := by
  obtain ⟨F, δ, S, P, sm, rs, h, c⟩ := h
  rw [show dCall sp' (dArgs (ta ++ tk)) δ S P = dArgs (ta ++ tk) δ S fun ds S1 => sp' ds S1 P from rfl, dArgs_app] at h
  refine lf_args ta sm rs h fun ds S1 vs H1 q1 g1 r1 l1 => lf_args tk g1.sim (rs.mono g1.same) q1 fun es S2 zs H2 q2 g2 r2 l2 => ⟨by rw [r1.length, l1, h1], by rw [r2.length, l2, h2], ?_⟩
  have r : RelL X.K (fz F S2 H2) (vs ++ zs) (ds ++ es) := (r1.mono g2.same).append r2
  exact ⟨F, _, S2, P, g2.sim.top, r.perm pm, hsp _ _ _ q2, (c.mono (g1.trans g2)).top g2.sim⟩
theorem dpe_kw (F : FnD X.prog X.w X.K X.mg X.base k f fd ps sp) (hr : Room k X.A) (hg : Gl X x) (hm : X.mg x = some (.ref f)) (hk : PySem.W.keepIn X.K (.ref f) = true) (hb : KwB fd ps ks nu pm) (hsp : ∀ ds S Q, sp' ds S Q → sp (perm pm ds) S Q) (h1 : ta.length = nu) (h2 : tk.length = ks.length)
    (ha : DPA X Γ (e :: es) (dArgs ta)) (hkw : PK X kws (lfA Γ (dArgs tk))) (hall : (backToKw pos (keywordEach kws X.env)).all (·.1.isSome) = true := by rfl) (hks : (backToKw pos (keywordEach kws X.env)).filterMap (·.1) = ks := by rfl)
    (hdb : (x == ("__debug__" : Str)) = false := by decide) (he : starEach (e :: es) X.env = (false, eval e X.env) :: starEach es X.env := by rfl) (hpl : ((backTo pos (starEach (e :: es) X.env)).any (·.1) || (backToKw pos (keywordEach kws X.env)).any (·.1.isNone)) = false := by rfl) :
    DPE X Γ (.Call (.Name x p) (e :: es) kws pos) (dCall sp' (dArgs (ta ++ tk))) := PEw (pe_kw (E := fun _ => E0) F hr hg hm hk hb (fun _ => pass0At) ha hkw hall hks hdb he hpl) fun σ H Q h => lf_kw hsp h1 h2 h
theorem dpe_kw0 (F : FnD X.prog X.w X.K X.mg X.base k f fd ps sp) (hr : Room k X.A) (hg : Gl X x) (hm : X.mg x = some (.ref f)) (hk : PySem.W.keepIn X.K (.ref f) = true) (hb : KwB fd ps ks 0 pm) (hsp : ∀ ds S Q, sp' ds S Q → sp (perm pm ds) S Q) (h2 : tk.length = ks.length)
    (hkw : PK X kws (lfA Γ (dArgs tk))) (hall : (backToKw pos (keywordEach kws X.env)).all (·.1.isSome) = true := by rfl) (hks : (backToKw pos (keywordEach kws X.env)).filterMap (·.1) = ks := by rfl)
    (hdb : (x == ("__debug__" : Str)) = false := by decide) (hpl : ((backTo pos (starEach [] X.env)).any (·.1) || (backToKw pos (keywordEach kws X.env)).any (·.1.isNone)) = false := by rfl) :
    DPE X Γ (.Call (.Name x p) [] kws pos) (dCall sp' (dArgs tk)) := PEw (pe_kw0 (E := fun _ => E0) F hr hg hm hk hb (fun _ => pass0At) hkw hall hks hdb hpl) fun σ H Q ⟨F, δ, S, P, sm, rs, h, c⟩ =>
  lf_args tk sm rs h fun es S2 zs H2 q2 g2 r2 l2 => ⟨rfl, by rw [r2.length, l2, h2], ⟨F, _, S2, P, g2.sim.top, r2.perm pm, hsp _ _ _ q2, (c.mono g2).top g2.sim⟩⟩
end
/-! ### a tuple that is a key -/
abbrev dKeyT (t : DTA) : DTE := fun δ S Q => t δ S fun ds S1 => ds.length ≤ 1000 ∧ Q (.key ds) S1
theorem dpe_key {X : Cx} {Γ : KG X.K} {es : List Expr} {t : DTA} {pos : Pos} {x1} (h : DPA X Γ es t) : DPE X Γ (.Tuple es x1 pos) (dKeyT t) :=
  PEw (pe_tup h) fun σ H Q ⟨F, δ, S, P, sm, rs, h, c⟩ => ⟨F, δ, S, _, sm, rs, h, fun ds S1 ⟨hn, h1⟩ xs H1 g1 rx => ⟨by rw [rx.length, sizeLine_eq]; omega, fun p hp =>
    (c.mono g1).new g1.sim hp (.key (fz_new g1.sim hp) (rx.mono (same_new hp))) h1⟩⟩
end L3

set_option Elab.async false
set_option maxRecDepth 100000
set_option linter.all false
set_option maxHeartbeats 2000000
namespace L3
open PySem PySem.Spec PyProof.Rows L2
/-! ### a list that is changed no more -/
def sdel (S : Sto) (a : Addr) : Sto := fun b => if b = a then none else S b
theorem sdel_ne {S : Sto} {a b : Addr} (h : b ≠ a) : sdel S a b = S b := by unfold sdel; rw [if_neg h]
theorem sdel_same {S : Sto} {a : Addr} : sdel S a a = none := by unfold sdel; rw [if_pos rfl]
theorem sdel_sup {S : Sto} {a : Addr} {o : SO} (h : S a = none) : sdel (sup S a o) a = S := by
  funext b
  by_cases e : b = a
  · subst e; rw [sdel_same, h]
  · rw [sdel_ne e, sup_ne e]
theorem sdel_some {S : Sto} {a b : Addr} {o : SO} (h : sdel S a b = some o) : S b = some o := by
  by_cases e : b = a
  · subst e; rw [sdel_same] at h; cases h
  · rwa [sdel_ne e] at h
abbrev dFrz (i : Nat) (t : DTS) : DTS := fun D δ S => ∃ a ds, slot δ i = some (.ref a) ∧ S a = some (.lst ds) ∧ t D (dset δ i (some (.lst ds))) (sdel S a)
theorem RelS.setSame {K : PySem.W.Frag} {G : Hp} : ∀ {σ : L2.St} {δ : DSt} {i : Nat} {v : V} {d : D}, RelS K G σ δ → σ[i]? = some (some v) → Rel K G v d → RelS K G σ (L3.dset δ i (some d)) := fun {σ δ i v d} r e q => by
  have h := r.dset q i
  have e2 : σ.set i (some v) = σ := by
    obtain ⟨hl, e⟩ := List.getElem?_eq_some_iff.mp e
    rw [← e]
    exact List.set_getElem_self hl
  rw [e2] at h
  exact h
theorem dpss_frz {X : Cx} {Γ : KG X.K} {sts : List Stmt} {t : DTS} (i : Nat) (h : DPSs X Γ sts t) : DPSs X Γ sts (dFrz i t) := PSsw h fun D σ H ⟨F, δ, S, P, sm, rs, ⟨a, ds, e1, e2, q⟩, c⟩ => by
  have g : Go Γ F S H (sdel S a) H := Go.drop sm (Go.refl sm) fun b o => sdel_some
  obtain ⟨vs, h1, r1⟩ := sm.lst e2
  obtain ⟨v, h2, r2⟩ := rs.get (slot_get e1)
  cases r2
  have r3 : Rel X.K (fz F (sdel S a) H) (.ref a) (.lst ds) := .lst (by rw [fz_none (sm.at_ _ _ e2).1 sdel_same]; exact h1) (r1.mono g.same)
  exact ⟨F, _, sdel S a, P, g.sim, (rs.mono g.same).setSame h2 r3, q, c.mono g⟩
end L3

set_option Elab.async false
set_option maxRecDepth 100000
set_option linter.all false
set_option maxHeartbeats 2000000
namespace L3
open PySem L2
/-! ### more steps -/
theorem sizeLine_val : sizeLine = 16777216 := sizeLine_eq
abbrev iD (n : Nat) : D := .int (n : Int)
section
variable {a b c d e f g x y z : D} {i j : Int} {xs ys ds : List D} {p q : List Int} {s t : Str} {u v : Bool} {S : Sto} {Q : DK} {n : String} {A : Addr} {lo hi : Option Int} {so : SO} {X Y : Prop} {k : Nat} {R : Bool → Sto → Prop}
theorem st_tru_bl (h : R u S) : vTru (.bl u) S R := h
theorem st_tru_non (h : R false S) : vTru .non S R := h
theorem st_tru_int (h : R (i != 0) S) : vTru (.int i) S R := h
theorem st_tru_tup (h : R (!ds.isEmpty) S) : vTru (.tup ds) S R := h
theorem st_tru_lst (h : R (!ds.isEmpty) S) : vTru (.lst ds) S R := h
theorem st_tru_ref (e : S A = some (.lst ds)) (h : R (!ds.isEmpty) S) : vTru (.ref A) S R := by simp only [vTru, e]; exact h
theorem st_at (e : ds[k]? = some d) (h : Q d S) : vIx (.tup ds) (.int (k : Int)) S Q := by
  rw [vIx_tup, atI_int (Int.natCast_nonneg k), Int.toNat_natCast, e]
  exact h
theorem st_atl (e : ds[k]? = some d) (h : Q d S) : vIx (.lst ds) (.int (k : Int)) S Q := by
  rw [vIx_lst, atI_int (Int.natCast_nonneg k), Int.toNat_natCast, e]
  exact h
theorem st_atr (e0 : S A = some (.lst ds)) (e : ds[k]? = some d) (h : Q d S) : vIx (.ref A) (.int (k : Int)) S Q := by
  simp only [vIx, e0, atI_int (Int.natCast_nonneg k), Int.toNat_natCast, e]
  exact h
theorem st_len_r (e : S A = some (.lst ds)) (h : Q (.int (ds.length : Nat)) S) : vLen [.ref A] S Q := by simp only [vLen, e]; exact h
theorem st_tup_r (e : S A = some (.lst ds)) (h : Q (.tup ds) S) : vTuple [.ref A] S Q := by simp only [vTuple, e]; exact h
theorem st_append {A : Addr} {d : D} {xs : List D} {S : Sto} {Q : DK} (hS : S A = some (.lst xs)) (h1 : xs.length < sizeLine) (h : Q .non (sup S A (.lst (xs ++ [d])))) : vAppend (.ref A) [d] S Q := by
  simp only [vAppend, hS]
  exact ⟨h1, h⟩
theorem inD_nat {x : Nat} : ∀ {l : List Nat}, inD (iD x) (l.map iD) = decide (x ∈ l)
  | [] => by simp [inD]
  | y :: l => by
    have h := inD_nat (x := x) (l := l)
    unfold inD at h ⊢
    rw [List.map_cons, List.any_cons, h]
    have e : eqD (iD y) (iD x) = decide (x = y) := by
      show ((y : Int) == (x : Int)) = _
      by_cases z : x = y
      · subst z; simp
      · rw [decide_eq_false z]
        simp only [beq_eq_false_iff_ne, ne_eq]
        omega
    rw [e]
    simp [List.mem_cons]
theorem flat_nat (l : List Nat) : (l.map iD).all flatD = true := by
  rw [List.all_map]
  exact List.all_eq_true.mpr fun _ _ => rfl
theorem st_in_r {x : Nat} {l : List Nat} (e : S A = some (.lst (l.map iD))) (h : Q (.bl (decide (x ∈ l))) S) : vIn false (iD x) (.ref A) S Q := by
  show vInO false (iD x) S Q (seqOf S (.ref A))
  simp only [seqOf, e, vInO, vInS, flat_nat, inD_nat]
  exact ⟨rfl, trivial, h⟩
theorem st_notin_r {x : Nat} {l : List Nat} (e : S A = some (.lst (l.map iD))) (h : Q (.bl (decide (x ∉ l))) S) : vIn true (iD x) (.ref A) S Q := by
  show vInO true (iD x) S Q (seqOf S (.ref A))
  simp only [seqOf, e, vInO, vInS, flat_nat, inD_nat]
  refine ⟨rfl, trivial, ?_⟩
  simpa using h
end
/-! ### list comprehensions, item by item -/
theorem lcL_idx {kp : Sto → Prop} {g : DTG} {tt : DTT} {te : DTE} {vs : List Nat} {δ : DSt} {S : Sto} {Q : DK} (hk : kp S) (o : Nat → Option D) : ∀ (L acc : List D) (k : Nat), acc.length + L.length ≤ sizeLine →
    (∀ j d, L[j]? = some d → ∀ (P : DK) (N : Sto → Prop), (match o (k + j) with | some y => P y S | none => N S) → g d (dwipe δ vs) S fun δ2 S2 => tt δ2 S2 fun b S3 => if b = true then te δ2 S3 fun y S4 => P y S4 else N S3) →
    Q (.lst (acc ++ (List.range' k L.length).filterMap o)) S → lcL kp g tt te vs δ L acc S Q
  | [], acc, k, _, _, q => ⟨hk, by simpa using q⟩
  | d :: L, acc, k, hz, h, q => by
    have hz' : acc.length + 1 + L.length ≤ sizeLine := by simpa [Nat.add_assoc, Nat.add_comm 1] using hz
    have hn : ∀ j d', L[j]? = some d' → ∀ (P : DK) (N : Sto → Prop), (match o (k + 1 + j) with | some y => P y S | none => N S) → g d' (dwipe δ vs) S fun δ2 S2 => tt δ2 S2 fun b S3 => if b = true then te δ2 S3 fun y S4 => P y S4 else N S3 := fun j d' e P N z => h (j + 1) d' (by simpa using e) P N (by rw [show k + (j + 1) = k + 1 + j by omega]; exact z)
    refine ⟨hk, by omega, h 0 d rfl _ _ ?_⟩
    rw [Nat.add_zero]
    rw [List.length_cons, List.range'_succ, List.filterMap_cons] at q
    split
    · rename_i y e
      rw [e] at q
      refine lcL_idx hk o L (acc ++ [y]) (k + 1) (by simp only [List.length_append, List.length_cons, List.length_nil]; omega) hn ?_
      rw [List.append_assoc]
      exact q
    · rename_i e
      rw [e] at q
      exact lcL_idx hk o L acc (k + 1) (by omega) hn q
theorem lcL_0 {kp : Sto → Prop} {g : DTG} {tt : DTT} {te : DTE} {vs : List Nat} {δ : DSt} {S : Sto} {Q : DK} {L : List D} (hk : kp S) (o : Nat → Option D) (hz : L.length ≤ sizeLine)
    (h : ∀ j d, L[j]? = some d → ∀ (P : DK) (N : Sto → Prop), (match o j with | some y => P y S | none => N S) → g d (dwipe δ vs) S fun δ2 S2 => tt δ2 S2 fun b S3 => if b = true then te δ2 S3 fun y S4 => P y S4 else N S3)
    (q : Q (.lst ((List.range L.length).filterMap o)) S) : lcL kp g tt te vs δ L [] S Q :=
  lcL_idx hk o L [] 0 (by simpa using hz) (fun j d e P N z => h j d e P N (by rw [Nat.zero_add] at z; exact z)) (by rw [List.nil_append, ← List.range_eq_range']; exact q)
theorem fm_congr {α : Type} {f g : α → Option D} : ∀ {l : List α}, (∀ x ∈ l, f x = g x) → l.filterMap f = l.filterMap g
  | [], _ => rfl
  | x :: l, h => by rw [List.filterMap_cons, List.filterMap_cons, h x List.mem_cons_self, fm_congr fun y hy => h y (List.mem_cons_of_mem _ hy)]
theorem fm_all {n : Nat} {o : Nat → Option D} {f : Nat → D} (h : ∀ j, j < n → o j = some (f j)) : (List.range n).filterMap o = (List.range n).map f := by
  rw [← List.filterMap_eq_map]
  exact fm_congr fun j hj => h j (List.mem_range.mp hj)
theorem fm_if {n : Nat} {o : Nat → Option D} {p : Nat → Bool} {f : Nat → D} (h : ∀ j, j < n → o j = if p j = true then some (f j) else none) : (List.range n).filterMap o = ((List.range n).filter p).map f := by
  rw [fm_congr (g := fun j => if p j = true then some (f j) else none) fun j hj => h j (List.mem_range.mp hj)]
  induction List.range n with
  | nil => rfl
  | cons x l ih =>
    rw [List.filterMap_cons, List.filter_cons, ih]
    by_cases e : p x = true
    · simp [e]
    · simp [e]
theorem range_map {α β : Type} (xs : List α) (f : α → β) : (List.range xs.length).map (fun j => (xs[j]?).map f) = xs.map fun x => some (f x) := by
  apply List.ext_getElem
  · simp
  · intro i h1 h2
    simp only [List.getElem_map, List.getElem_range]
    rw [List.getElem?_eq_getElem (by simpa using h2)]
    rfl
/-- of a list item by item its image -/
theorem fm_list {α : Type} (xs : List α) (f : α → D) : (List.range xs.length).filterMap (fun j => (xs[j]?).map f) = xs.map f := by
  rw [show (List.range xs.length).filterMap (fun j => (xs[j]?).map f) = ((List.range xs.length).map (fun j => (xs[j]?).map f)).filterMap id by rw [List.filterMap_map]; rfl, range_map, List.filterMap_map]
  induction xs with
  | nil => rfl
  | cons x xs ih => rw [List.filterMap_cons, ih]; rfl
end L3

set_option Elab.async false
set_option maxRecDepth 100000
set_option linter.all false
set_option maxHeartbeats 2000000
namespace L3
open PySem PySem.Spec PyProof.Rows L2
/-! ### a dict that is changed no more -/
def keyD : Key → D
  | .inl i => .int i
  | .inr s => .str s
theorem keyD_rel {K : PySem.W.Frag} {G : Hp} : ∀ k : Key, Rel K G (kV k) (keyD k)
  | .inl i => .int i
  | .inr s => .str s
abbrev tFrzP (t : TS) : TS := fun D σ H => ∃ d u, H d = some u ∧ Mut (some u) ∧ ∀ od, t D σ (upd H d (.frz od u))
theorem pss_frzP {X : Cx} {sts : List Stmt} {t : TS} (h : PSs X sts t) : PSs X sts (tFrzP t) := ⟨fun pins s σ H D I ⟨d, u, hd, mu, q⟩ => by
  obtain ⟨od, I1⟩ := I.lock hd mu
  exact h.run pins s σ _ D I1 (q od)⟩
theorem RelF.parts {K : PySem.W.Frag} {G : Hp} {κ : Type} : ∀ {vs : List (κ × V)} {kvs : List (κ × D)}, RelF K G vs kvs → kvs.map (·.1) = vs.map (·.1) ∧ RelL K G (vs.map (·.2)) (kvs.map (·.2))
  | _, _, .nil => ⟨rfl, .nil⟩
  | _, _, .cons h r => by
    obtain ⟨h1, h2⟩ := RelF.parts r
    exact ⟨by simp [h1], .cons h h2⟩
theorem SimB.frz {K : PySem.W.Frag} {F : Addr → Bool} {S : Sto} {H : Hp} {a : Addr} {u : SO} {o : HO} (s : SimB K F S H) (h : S a = some u) : GoB K F S H (sdel S a) (upd H a o) := by
  have e : Same (fz F S H) (fz F (sdel S a) (upd H a o)) := fun b x e => by
    obtain ⟨h0, h1, h2⟩ := fz_of e
    have np : b ≠ a := fun z => by subst z; rw [h] at h1; cases h1
    rw [fz_none h0 (by rw [sdel_ne np]; exact h1), upd_ne np]
    exact h2
  refine ⟨e, fun b f => ?_, fun b x q => ?_, fun b f => ?_⟩
  · rw [upd_ne fun z => by subst z; rw [(s.at_ _ _ h).1] at f; cases f]
  · have np : b ≠ a := fun z => by subst z; rw [sdel_same] at q; cases q
    rw [sdel_ne np] at q
    rw [upd_ne np]
    exact ⟨(s.at_ b x q).1, (s.at_ b x q).2.mono e⟩
  · obtain ⟨x, q⟩ := s.hid b f
    exact ⟨x, by rw [upd_ne fun z => by subst z; rw [(s.at_ _ _ h).1] at f; cases f]; exact q⟩
abbrev dctOf (kvs : List (Key × D)) : D := .dct (kvs.map (·.1)) (kvs.map (·.2))
abbrev dFrzD (i : Nat) (t : DTS) : DTS := fun D δ S => ∃ a kvs, slot δ i = some (.ref a) ∧ S a = some (.dK kvs) ∧ t D (dset δ i (some (dctOf kvs))) (sdel S a)
theorem dpss_frzD {X : Cx} {Γ : KG X.K} {sts : List Stmt} {t : DTS} (i : Nat) (h : DPSs X Γ sts t) : DPSs X Γ sts (dFrzD i t) := PSsw (pss_frzP h) fun D σ H ⟨F, δ, S, P, sm, rs, ⟨a, kvs, e1, e2, q⟩, c⟩ => by
  obtain ⟨vs, h1, r1⟩ := (sm.at_ _ _ e2).2
  refine ⟨a, .dK vs, h1, True.intro, fun od => ?_⟩
  have g : Go Γ F S H (sdel S a) (upd H a (.frz od (.dK vs))) := Go.of sm (sm.toSimB.frz e2)
  obtain ⟨v, h2, r2⟩ := rs.get (slot_get e1)
  cases r2
  obtain ⟨p1, p2⟩ := r1.parts
  have r3 : Rel X.K (fz F (sdel S a) (upd H a (.frz od (.dK vs)))) (.ref a) (dctOf kvs) := by
    unfold dctOf
    rw [p1]
    exact .dct (by rw [fz_none (sm.at_ _ _ e2).1 sdel_same, upd_same]) (p2.mono g.same)
  exact ⟨F, _, sdel S a, P, g.sim, (rs.mono g.same).setSame h2 r3, q, c.mono g⟩
/-! ### for k in d -/
abbrev iKeysD (te : DTE) : DTI := fun δ S Q => te δ S fun x S1 => match x with
  | .dct ks _ => Q (fun _ => True) (ks.map keyD) S1
  | _ => False
section
variable {X : Cx} {Γ : KG X.K} {tg e : Expr} {te : DTE}
theorem dpi_keys (h : DPE X Γ e te) : DPI X Γ tg e (iKeysD te) := PIw (pi_keys h) fun σ H R ⟨F, δ, S, P, sm, rs, h, c⟩ => ⟨F, δ, S, _, sm, rs, h, fun d S1 h1 v H1 g1 r1 => by
  cases r1 <;> first | exact (h1 : False).elim | skip
  rename_i a od vs ds hs rl
  refine ⟨a, od, rfl, .inl ⟨vs, fz_same F S1 H1 _ _ hs, c _ _ _ h1 _ _ g1 fun F' S' H' g' s' _ => ?_⟩⟩
  have hs' : H' a = some (.frz od (.dK vs)) := fz_same F' S' H' _ _ (g' _ _ hs)
  have hl : ((vs.map (·.1)).map keyD).length = vs.length := by simp
  rw [hl]
  refine ⟨fun i hi => ⟨hs', hi⟩, ⟨hs', Nat.le_refl _⟩, fun i x H2 hi y => ?_⟩
  obtain ⟨rfl, k, v, e, rfl⟩ := y
  refine ⟨keyD k, ?_, Go.refl s', keyD_rel k⟩
  rw [List.getElem?_map, List.getElem?_map, e]
  rfl⟩
end
/-! ### len(set(t)) -/
def tLenSetT (K : PySem.W.Frag) (ta : TE) : TE := fun σ H Q => ta σ H fun x H1 => ∃ (l : Addr) (ns : List Int), x = .ref l ∧ SqT K H1 l (ns.map V.int) ∧ ns.length ≤ 1000 ∧ ∀ out : List Int, out.Nodup → (∀ k, k ∈ out ↔ k ∈ ns) → Q (.int (out.length : Nat)) H1
theorem pe_lenSetT {X : Cx} {a : Expr} {ta : TE} {p p2 q pos : Pos} (hg : Gl X "len") (hm : X.mg "len" = none) (hg2 : Gl X "set") (hm2 : X.mg "set" = none) (ha : PE X a ta) (hc : X.calm = true := by rfl)
    (na : starEach [a] X.env = (false, eval a X.env) :: starEach [] X.env := by rfl) : PE X (.Call (.Name "len" p) [.Call (.Name "set" p2) [a] [] q] [] pos) (tLenSetT X.K ta) := by
  refine ⟨fun pins s σ H Q I h => ?_⟩
  refine Call_ (ld_blt I hg hm PySem.boot_len ?_)
  refine PyProof.Rows.callWith_builtin1 (PyProof.Rows.args_cons ?_ rfl) rfl rfl
  refine Call_ (ld_blt I hg2 hm2 PyProof.Rows.boot_set ?_)
  refine PyProof.Rows.callWith_type1 (PyProof.Rows.args_cons (thn (ha.run pins s σ H _ I h) fun v s1 ⟨x, H1, I1, r1, q1⟩ => PyProof.Rows.args_nil ?_) na) na rfl
  obtain ⟨l, ns, rfl, hq, hl, q1⟩ := q1
  cases r1
  obtain ⟨its, rv, pt, hz⟩ := I1.tuple hq
  have hi : IntsAre its.toArray.toList ns := ints_of_vals rv
  refine call_set_tupI ns (I1.ok.hd hc) (show s1.heap.IsTuple l its.toArray from pt) hi (by unfold scanBound; omega) fun h' tk c R1 hcn k => ?_
  refine PyProof.Rows.args_nil ?_
  obtain ⟨o, es, ep, t, ho, hex, hd, g, nd, hm2, hb, hf, hn, hr, hl2⟩ := R1
  have I2 : Inv X pins σ H1 { s1 with heap := h', toks := tk } := I1.kept k
  have q2 := q1 _ nd fun k => by rw [← hm2 k, decide_eq_true_eq]
  rw [List.length_map, Array.length_toList] at q2
  exact call_len_set ho hex hd hf (by omega) ⟨.int es.size, H1, I2.tok _, ⟨_, rfl⟩, q2⟩
abbrev dLenSet (te : DTE) : DTE := fun δ S Q => te δ S fun x S1 => match x with
  | .tup ds => match asInts ds with
    | some ns => ns.length ≤ 1000 ∧ ∀ out : List Int, out.Nodup → (∀ k, k ∈ out ↔ k ∈ ns) → Q (.int (out.length : Nat)) S1
    | none => False
  | _ => False
section
variable {X : Cx} {Γ : KG X.K} {a e : Expr} {te : DTE} {p p2 q pos pos2 : Pos}
theorem dpe_lenSet (hg : Gl X "len") (hm : X.mg "len" = none) (hg2 : Gl X "set") (hm2 : X.mg "set" = none) (ha : DPE X Γ a te) (hc : X.calm = true := by rfl)
    (na : starEach [a] X.env = (false, eval a X.env) :: starEach [] X.env := by rfl) : DPE X Γ (.Call (.Name "len" p) [.Call (.Name "set" p2) [a] [] q] [] pos) (dLenSet te) :=
  PEw (pe_lenSetT hg hm hg2 hm2 ha hc na) fun σ H Q ⟨F, δ, S, P, sm, rs, h, c⟩ => ⟨F, δ, S, _, sm, rs, h, fun d S1 h1 v H1 g1 r1 => by
    cases r1 <;> first | exact (h1 : False).elim | skip
    rename_i l vs ds hs rl
    have h1 : match asInts ds with
      | some ns => ns.length ≤ 1000 ∧ ∀ out : List Int, out.Nodup → (∀ k, k ∈ out ↔ k ∈ ns) → P (.int (out.length : Nat)) S1
      | none => False := h1
    split at h1
    · rename_i ns e
      rw [asInts_eq e] at rl
      obtain ⟨h2, h3⟩ := h1
      exact ⟨l, ns, rfl, by rw [← rl.ints]; exact sqT_mono (fz_same F S1 H1) hs, h2, fun out n m => (c.mono g1).use g1.sim (.int _) (h3 out n m)⟩
    · exact h1.elim⟩
/-! ### tuple(reversed(x)) -/
def tTupRevX (K : PySem.W.Frag) (te : TE) : TE := fun σ H Q => te σ H fun v H1 => ∃ (a : Addr) (xs : List V), v = .ref a ∧ SqL K H1 a xs ∧ NewT Q H1 xs.reverse
theorem pe_tupRevX {e : Expr} {te : TE} {p p2 pos pos2 : Pos} (hg : Gl X "tuple") (hm : X.mg "tuple" = none) (hg2 : Gl X "reversed") (hm2 : X.mg "reversed" = none) (he : PE X e te) (hc : X.calm = true := by rfl)
    (hs : starEach [e] X.env = (false, eval e X.env) :: starEach [] X.env := by rfl)
    (hs2 : starEach [.Call (.Name "reversed" p2) [e] [] pos2] X.env = (false, eval (.Call (.Name "reversed" p2) [e] [] pos2) X.env) :: starEach [] X.env := by rfl) :
    PE X (.Call (.Name "tuple" p) [.Call (.Name "reversed" p2) [e] [] pos2] [] pos) (tTupRevX X.K te) := by
  refine ⟨fun pins s σ H Q I h => ?_⟩
  refine Call_ (ld_blt I hg hm boot_tuple (PyProof.Rows.callWith_type1 (args_cons (Call_ (ld_blt I hg2 hm2 PyProof.Rows.boot_reversed (PyProof.Rows.callWith_type1 (args_cons (thn (he.run pins s σ H _ I h) fun u s1 ⟨v, H1, I1, r1, q1⟩ => args_nil ?_) hs) hs rfl))) hs2) hs2 rfl))
  obtain ⟨a, xs, ev, hq, q⟩ := q1
  subst ev
  obtain rfl : u = Value.ref a := r1
  obtain ⟨its, rv, p', hz⟩ := I1.list hq
  refine call_reversed_list p'.isList (args_nil ?_)
  have k0 : ∀ b o, s1.heap.get? b = some o → (s1.heap.push (revObj a ((its.toArray.size : Int) - 1))).get? b = some o := fun b o e => Heap.get?_push_of_some _ e
  have I2 : Inv X pins σ H1 { s1 with heap := s1.heap.push (revObj a ((its.toArray.size : Int) - 1)) } := I1.kept (t' := s1.toks) k0
  obtain ⟨f0, f1, f2, f3, f4, f5⟩ := I1.fpOk (H' := H1) (b := s1.heap.objs.size) (Nat.le_refl _) (I1.hok.fresh (Nat.le_refl _))
  have hl := p'.isList
  obtain ⟨ol, hol, _⟩ := id hl
  have hne : a ≠ s1.heap.objs.size := Nat.ne_of_lt (Heap.lt_size hol)
  have hn : its.toArray.size ≤ sizeLine := by rw [List.size_toArray, ← rv.length]; exact hz
  refine RT.call_tuple_rev (s := { s1 with heap := s1.heap.push (revObj a ((its.toArray.size : Int) - 1)) }) (I1.ok.hd hc) ⟨_, Heap.get?_push_size _ rfl, rfl, rfl⟩ (hl.push _) hne hn fun h' tk acc hk hi => ?_
  have I3 : Inv X pins σ H1 { s1 with heap := h', toks := tk } := I2.turned (t' := tk) (fun b o hb e => hk b o hb e) f0 f1 f3 f4 f5
  have z := pushT I3 tk (RT.vals_rev rv hi) (by rw [List.length_reverse]; exact hz) q
  rw [Array.toArray_toList] at z
  exact z
abbrev dTupRev (te : DTE) : DTE := fun δ S Q => te δ S fun x S1 => match seqOf S1 x with
  | some ds => Q (.tup ds.reverse) S1
  | none => False
theorem dpe_tupRev (hg : Gl X "tuple") (hm : X.mg "tuple" = none) (hg2 : Gl X "reversed") (hm2 : X.mg "reversed" = none) (ha : DPE X Γ e te) (hc : X.calm = true := by rfl)
    (hs : starEach [e] X.env = (false, eval e X.env) :: starEach [] X.env := by rfl)
    (hs2 : starEach [.Call (.Name "reversed" p2) [e] [] pos2] X.env = (false, eval (.Call (.Name "reversed" p2) [e] [] pos2) X.env) :: starEach [] X.env := by rfl) :
    DPE X Γ (.Call (.Name "tuple" p) [.Call (.Name "reversed" p2) [e] [] pos2] [] pos) (dTupRev te) :=
  PEw (pe_tupRevX hg hm hg2 hm2 ha hc hs hs2) fun σ H Q ⟨F, δ, S, P, sm, rs, h, c⟩ => ⟨F, δ, S, _, sm, rs, h, fun d S1 h1 v H1 g1 r1 => by
    split at h1
    · rename_i ds e
      obtain ⟨a, vs, rfl, hs, rl⟩ := seqOf_rel g1.sim r1 e
      exact ⟨a, vs, rfl, hs, fun p o hp hd => (c.mono g1).new g1.sim hp (fz_newT g1.sim hp hd rl.reverse) h1⟩
    · exact h1.elim⟩
/-! ### list(range(n)), to be changed -/
abbrev dLstRgM (te : DTE) : DTE := fun δ S Q => te δ S fun x S1 => match x with
  | .int n => -(2 ^ 62) ≤ n ∧ n ≤ 16777216 ∧ ∀ p, S1 p = none → Q (.ref p) (sup S1 p (.lst (rngD 0 n.toNat)))
  | _ => False
theorem rgV_rngD {K : PySem.W.Frag} {G : Hp} (n : Int) : RelL K G (rgV 0 n) (rngD 0 n.toNat) := by
  unfold rgV rngD
  rw [show (n - 0).toNat = n.toNat by rw [Int.sub_zero]]
  induction List.range n.toNat with
  | nil => exact .nil
  | cons i l ih => exact .cons (.int _) ih
theorem dpe_lstRgM (hg : Gl X "list") (hm : X.mg "list" = none) (hg2 : Gl X "range") (hm2 : X.mg "range" = none) (ha : DPE X Γ a te) (hc : X.calm = true := by rfl)
    (na : starEach [a] X.env = (false, eval a X.env) :: starEach [] X.env := by rfl) (na2 : starEach [.Call (.Name "range" p2) [a] [] pos2] X.env = (false, eval (.Call (.Name "range" p2) [a] [] pos2) X.env) :: starEach [] X.env := by rfl) :
    DPE X Γ (.Call (.Name "list" p) [.Call (.Name "range" p2) [a] [] pos2] [] pos) (dLstRgM te) :=
  PEw (pe_listRg hc hg hm (prg_1 hg2 hm2 ha na) na2) fun σ H Q ⟨F, δ, S, P, sm, rs, h, c⟩ => ⟨F, δ, S, _, sm, rs, h, fun d S1 h1 v H1 g1 r1 => by
    cases r1 <;> first | exact (h1 : False).elim | skip
    obtain ⟨b1, b2, h1⟩ := h1
    exact ⟨_, rfl, ⟨by omega, by omega, by omega, by omega, by omega⟩, fun q hq => (c.mono g1).newM (o := .lst (rgV 0 _)) (u := .lst (rngD 0 _)) g1.sim hq ⟨_, rfl, rgV_rngD _⟩ (.ref q) (h1 q (g1.sim.none hq).2)⟩⟩
/-! ### str(i) -/
def vStr : List D → Sto → DK → Prop
  | [.int i], S, Q => i.natAbs.log2 < 1920 ∧ Q (.str (toString i)) S
  | _, _, _ => False
theorem dcall_str : DCall X (.type "str") vStr := by
  refine ⟨_, call_str_int, fun xs ds F S H P Q sm rx q c => ?_⟩
  cases rx with
  | nil => exact (q : False).elim
  | cons r1 r2 =>
  cases r2 with
  | cons _ _ => cases r1 <;> exact (q : False).elim
  | nil =>
  cases r1 <;> first | exact (q : False).elim | skip
  exact ⟨_, rfl, q.1, c.use sm (.str _) q.2⟩
end
end L3

set_option Elab.async false
set_option maxRecDepth 100000
set_option linter.all false
set_option maxHeartbeats 2000000
namespace L3
open PySem PySem.Spec PyProof.Rows L2
/-! ### lists made by + and *, to be changed -/
def lstOf (S : Sto) : D → Option (List D)
  | .lst ds => some ds
  | .ref a => match S a with | some (.lst ds) => some ds | _ => none
  | _ => none
theorem lstOf_rel {K : PySem.W.Frag} {Γ : KG K} {F : Addr → Bool} {S : Sto} {H : Hp} {v : V} {d : D} {ds : List D} (sm : Sim Γ F S H) (r : Rel K (fz F S H) v d) (h : lstOf S d = some ds) : ∃ a vs, v = .ref a ∧ H a = some (.lst vs) ∧ RelL K (fz F S H) vs ds := by
  cases r <;> first | (cases h; done) | skip
  · simp only [lstOf] at h
    split at h
    · rename_i e
      cases h
      obtain ⟨vs, e1, r1⟩ := sm.lst e
      exact ⟨_, vs, rfl, e1, r1⟩
    · cases h
  · cases h
    rename_i hs rl
    exact ⟨_, _, rfl, fz_same F S H _ _ hs, rl⟩
def vAddM (x y : D) (S : Sto) (Q : DK) : Prop := ∃ ds es, lstOf S x = some ds ∧ lstOf S y = some es ∧ ds.length + es.length ≤ sizeLine ∧ ∀ p, S p = none → Q (.ref p) (sup S p (.lst (ds ++ es)))
def vMulM (x y : D) (S : Sto) (Q : DK) : Prop := ∃ ds k, lstOf S x = some ds ∧ y = .int k ∧ -(2 ^ 63) ≤ k ∧ k < 2 ^ 63 ∧ ds.length * k.toNat ≤ sizeLine ∧ ∀ p, S p = none → Q (.ref p) (sup S p (.lst (List.replicate k.toNat ds).flatten))
section
variable {X : Cx} {Γ : KG X.K}
theorem dop_addM : DOp X (binaryOp .Add) vAddM := by
  refine ⟨_, op_cat, fun x y dx dy F S H P Q sm rx ry ⟨ds, es, h1, h2, hl, q⟩ c => ?_⟩
  obtain ⟨a, vs, rfl, e1, r1⟩ := lstOf_rel sm rx h1
  obtain ⟨b, us, rfl, e2, r2⟩ := lstOf_rel sm ry h2
  exact ⟨_, _, _, _, rfl, rfl, e1, e2, by rw [r1.length, r2.length]; exact hl, fun p hp => c.newM (o := .lst (vs ++ us)) (u := .lst (ds ++ es)) sm hp ⟨_, rfl, r1.append r2⟩ (.ref p) (q p (sm.none hp).2)⟩
theorem dop_mulM : DOp X (binaryOp .Mult) vMulM := by
  refine ⟨_, op_rep, fun x y dx dy F S H P Q sm rx ry ⟨ds, k, h1, h2, k0, k1, hl, q⟩ c => ?_⟩
  subst h2
  cases ry
  obtain ⟨a, vs, rfl, e1, r1⟩ := lstOf_rel sm rx h1
  exact ⟨_, _, _, rfl, rfl, e1, k0, k1, by rw [r1.length]; exact hl, fun p hp => c.newM (o := .lst (List.replicate k.toNat vs).flatten) (u := .lst (List.replicate k.toNat ds).flatten) sm hp ⟨_, rfl, r1.rep _⟩ (.ref p) (q p (sm.none hp).2)⟩
end
/-! ### a comprehension whose list is to be changed -/
abbrev thaw (Q : DK) : DK := fun d S => match d with
  | .lst acc => ∀ p, S p = none → Q (.ref p) (sup S p (.lst acc))
  | _ => False
abbrev dLcM (ti : DTI) (g : DTG) (tt : DTT) (te : DTE) (vs : List Nat) : DTE := fun δ S Q => dLc ti g tt te vs δ S (thaw Q)
section
variable {X : Cx} {Γ : KG X.K}
theorem lf_lcM {K : PySem.W.Frag} {Γ : KG K} {wi : DTI} {tg : Tg} {tt : DTT} {te : DTE} {vs : List Nat} (hv : ∀ i ∈ tg.slots, i ∈ vs) (σ : L2.St) (H : Hp) (Q : VK) (h : lf Γ (dLcM wi (dTg tg) tt te vs) σ H Q) : tLc (lfI Γ wi) (gTg K tg) (lfT Γ tt) (lf Γ te) vs σ H Q := by
  obtain ⟨F, δ, S, P, sm, rs, h, c⟩ := h
  refine ⟨F, δ, S, _, sm, rs, h, fun kp items S1 h1 J H1 g1 wk => ?_⟩
  intro Dp hD
  have c1 := c.mono g1
  have s1 := g1.sim.hideNew (o := .lst []) hD
  have fD := (g1.sim.none hD).1
  -- the states of the loop
  refine ⟨fun i m H' => m = items.length - i ∧ i ≤ items.length ∧ ∃ S' vs' acc, Go Γ (hide F Dp) S1 (upd H1 Dp (.lst [])) S' (upd H' Dp (.lst [])) ∧ H' Dp = some (.lst vs') ∧ RelL K (fz (hide F Dp) S' H') vs' acc ∧ lcL kp (dTg tg) tt te vs δ (items.drop i) acc S' (thaw P),
    ⟨items.length, by simp, Nat.zero_le _, S1, [], [], by rw [upd_upd]; exact Go.refl s1, upd_same, .nil, h1⟩, ?_⟩
  rintro i m H2 ⟨rfl, hi, S2, vs2, acc, g2, e2, r2, h2⟩
  have s2 : Sim Γ (hide F Dp) S2 H2 := by
    have q := Sim.hidePut g1.sim fD g2.sim (o := .lst vs2)
    rw [upd_upd] at q
    have e : upd H2 Dp (.lst vs2) = H2 := by
      funext b
      by_cases z : b = Dp
      · subst z; rw [upd_same, e2]
      · rw [upd_ne z]
    rw [e] at q
    exact q
  -- from the loop's entry to here, all shown
  have go2 : Go Γ F S1 H1 S2 H2 := by
    refine .of g1.sim ⟨fun b x e => ?_, fun a f => ?_, s2.toSimB.show_ fD⟩
    · have q := g2.same b x (fz_hide_new hD b x e)
      rw [fz_hide_upd] at q
      exact fz_hide_same b x q
    · have np : a ≠ Dp := fun z => by subst z; rw [fD] at f; cases f
      have q := g2.hid a (by simp [hide, np, f])
      rw [upd_ne np, upd_ne np] at q
      exact q
  have rs2 : RelS K (fz (hide F Dp) S2 H2) σ δ := by
    have q : RelS K (fz (hide F Dp) S2 (upd H2 Dp (.lst []))) σ δ := ((rs.mono g1.same).mono (fz_hide_new hD)).mono g2.same
    rw [fz_hide_upd] at q
    exact q
  have sm2 : Same (fz F S1 H1) (fz (hide F Dp) S2 H2) := fun b x e => by
    have q := g2.same b x (fz_hide_new hD b x e)
    rw [fz_hide_upd] at q
    exact q
  obtain ⟨w1, w2, w3⟩ := wk (hide F Dp) S2 H2 sm2 s2 (lcL_kp h2)
  by_cases hlt : i < items.length
  · refine .inr ⟨w1 i hlt, fun H' => ∃ S' vs' acc, Go Γ (hide F Dp) S1 (upd H1 Dp (.lst [])) S' (upd H' Dp (.lst [])) ∧ H' Dp = some (.lst vs') ∧ RelL K (fz (hide F Dp) S' H') vs' acc ∧ lcL kp (dTg tg) tt te vs δ (items.drop (i + 1)) acc S' (thaw P),
      fun H' q => ⟨items.length - (i + 1), by omega, rfl, hlt, q⟩, fun x H3 y => ?_⟩
    obtain ⟨d, e, g3, rx⟩ := w3 i x H3 hlt y
    have ed : items.drop i = d :: items.drop (i + 1) := by
      rw [List.drop_eq_getElem_cons hlt]
      rw [List.getElem?_eq_getElem hlt] at e
      cases e
      rfl
    rw [ed] at h2
    obtain ⟨_, hacc, h2⟩ := h2
    -- later states, D behind them
    have later : ∀ {S4 : Sto} {H4 : Hp}, Go Γ (hide F Dp) S2 H2 S4 H4 → Go Γ (hide F Dp) S1 (upd H1 Dp (.lst [])) S4 (upd H4 Dp (.lst [])) := fun {S4 H4} g => by
      refine g2.trans ⟨?_, fun a f => ?_, Sim.hidePut g1.sim fD g.sim⟩
      · rw [fz_hide_upd, fz_hide_upd]
        exact g.same
      · by_cases z : a = Dp
        · subst z; rw [upd_same, upd_same]
        · rw [upd_ne z, upd_ne z]; exact g.hid a f
    refine gTg_ok tg rx ((rs2.wipe vs).mono g3.same) h2 fun σ4 δ4 rs4 h4 hw => ⟨?_, ?_⟩
    · rw [hw vs hv]
      exact lf_lc.wipe_wipe σ vs
    refine ⟨hide F Dp, δ4, S2, _, g3.sim, rs4, h4, fun b S5 h5 H5 g5 => ?_⟩
    have g25 := g3.trans g5
    cases b with
    | false => exact ⟨S5, vs2, acc, later g25, (g25.hid Dp (by simp [hide])).trans e2, r2.mono g25.same, h5⟩
    | true =>
      refine ⟨hide F Dp, δ4, S5, _, g5.sim, rs4.mono g5.same, h5, fun dy S6 h6 vy H6 g6 r6 => ?_⟩
      have g26 := g25.trans g6
      have e6 : H6 Dp = some (.lst vs2) := (g26.hid Dp (by simp [hide])).trans e2
      refine ⟨vs2, e6, by rw [r2.length]; exact hacc, S6, vs2 ++ [vy], acc ++ [dy], ?_, upd_same, ?_, h6⟩
      · rw [upd_upd]
        exact later g26
      · rw [fz_hide_upd]
        exact (r2.mono g26.same).append (.cons r6 .nil)
  · have e : i = items.length := by omega
    subst e
    rw [List.drop_length] at h2
    refine .inl ⟨w2, ?_⟩
    have z : S2 Dp = none := by
      cases z : S2 Dp with
      | none => rfl
      | some u =>
        have := (s2.at_ Dp u z).1
        simp [hide] at this
    have h3 : P (.ref Dp) (sup S2 Dp (.lst acc)) := h2.2 Dp z
    have e3 : Same (fz (hide F Dp) S2 H2) (fz F (sup S2 Dp (.lst acc)) H2) := fun b x e => by
      obtain ⟨a0, a1, a2⟩ := fz_of e
      have np : b ≠ Dp := fun y => by subst y; simp [hide] at a0
      rw [fz_none (by simpa [hide, np] using a0) (by rw [sup_ne np]; exact a1)]
      exact a2
    have go3 : Go Γ F S1 H1 (sup S2 Dp (.lst acc)) H2 := by
      refine .of g1.sim ⟨sm2.trans e3, go2.hid, fun b u q => ?_, fun a f => s2.hid a (by by_cases np : a = Dp <;> simp [hide, np, f])⟩
      by_cases np : b = Dp
      · subst np
        rw [sup_same] at q
        cases q
        exact ⟨fD, vs2, e2, r2.mono e3⟩
      · rw [sup_ne np] at q
        have q2 := s2.at_ b u q
        exact ⟨by simpa [hide, np] using q2.1, q2.2.mono e3⟩
    exact c1 _ _ h3 _ _ go3 (.ref Dp)
theorem dpe_lcM {elt tge iter : Expr} {ifs : List Expr} {scope : Scope} {own : List (Str × Nat)} {pos : Pos} {wi : DTI} {tg : Tg} {tt : DTT} {te : DTE} (hN : X.N.Nodup) (hi : DPI X Γ tge iter wi) (ok : BlkOk X.N X.env.scope scope own)
    (hg : ∀ (s : Shared) (H : Hp) (C : Addr) (cl : List (Str × Addr)) (fp : List Addr), PG (X.blk s H scope (compEnvC scope cl C X.env) fp) tge (gTg X.K tg)) (ht : ∀ (s : Shared) (H : Hp) (C : Addr) (cl : List (Str × Addr)) (fp : List Addr), PTs (X.blk s H scope (compEnvC scope cl C X.env) fp) ifs (lfT Γ tt))
    (he : ∀ (s : Shared) (H : Hp) (C : Addr) (cl : List (Str × Addr)) (fp : List Addr), DPE (X.blk s H scope (compEnvC scope cl C X.env) fp) Γ elt te) (hv : ∀ i ∈ tg.slots, i ∈ own.map (·.2) := by decide) (hc : X.calm = true := by rfl) (hs : ∀ x, foldedSetIterable iter X.env x = pure x := by intro _; rfl) :
    DPE X Γ (.ListComp elt [⟨tge, iter, ifs, 0⟩] scope pos) (dLcM wi (dTg tg) tt te (own.map (·.2))) :=
  PEw (pe_lc (te := lf Γ te) hc hN hi ok hg ht (fun s H C cl fp => he s H C cl fp) hs) (lf_lcM hv)
theorem dps_setLcM {i : Nat} {y : Str} {py : Pos} {elt tge iter : Expr} {ifs : List Expr} {scope : Scope} {own : List (Str × Nat)} {pos spos : Pos} {wi : DTI} {tg : Tg} {tt : DTT} {te : DTE} (hN : X.N.Nodup) (hy : X.N[i]? = some y) (hyl : X.env.scope.names.lookup y = some .local)
    (hsw : swapsWith (.ListComp elt [⟨tge, iter, ifs, 0⟩] scope pos) (some (.Name y py)) spos.line X.env = pure true) (hi : DPI X Γ tge iter wi) (ok : BlkOk X.N X.env.scope scope own)
    (hg : ∀ (s : Shared) (H : Hp) (C : Addr) (cl : List (Str × Addr)) (fp : List Addr), PG (X.blk s H scope (compEnvC scope cl C X.env) fp) tge (gTg X.K tg)) (ht : ∀ (s : Shared) (H : Hp) (C : Addr) (cl : List (Str × Addr)) (fp : List Addr), PTs (X.blk s H scope (compEnvC scope cl C X.env) fp) ifs (lfT Γ tt))
    (he : ∀ (s : Shared) (H : Hp) (C : Addr) (cl : List (Str × Addr)) (fp : List Addr), DPE (X.blk s H scope (compEnvC scope cl C X.env) fp) Γ elt te) (hv : ∀ i ∈ tg.slots, i ∈ own.map (·.2) := by decide) (hc : X.calm = true := by rfl) (hs : ∀ x, foldedSetIterable iter X.env x = pure x := by intro _; rfl) :
    DPS X Γ (.Assign [.Name y py] (.ListComp elt [⟨tge, iter, ifs, 0⟩] scope pos) spos) (dAsg (dLcM wi (dTg tg) tt te (own.map (·.2))) (dTg (.nm i))) := by
  refine PSw (ps_setLc (te := lf Γ te) hc hN hy hyl hsw hi ok hg ht (fun s H C cl fp => he s H C cl fp) hs) fun D σ H ⟨F, δ, S, P, sm, rs, h, c⟩ => ?_
  refine lf_lcM hv σ H _ ⟨F, δ, S, _, sm, rs, h, fun d S1 h1 v H1 g1 r1 => ?_⟩
  exact c.nx _ _ h1 _ _ g1 ((rs.mono g1.same).dset r1 i)
end
/-! ### list(x), to be changed -/
def vListM : List D → Sto → DK → Prop
  | [x], S, Q => match seqOf S x with
    | some ds => ∀ p, S p = none → Q (.ref p) (sup S p (.lst ds))
    | none => match x with
      | .tup ds => ∀ p, S p = none → Q (.ref p) (sup S p (.lst ds))
      | _ => False
  | _, _, _ => False
theorem dcall_listM {X : Cx} : DCall X (.type "list") vListM := by
  refine ⟨_, call_list_of, fun xs ds F S H P Q sm rx q c => ?_⟩
  rcases ds with _ | ⟨d, _ | ⟨_, _⟩⟩ <;> first | exact (q : False).elim | skip
  cases rx with
  | cons r1 r2 =>
  cases r2
  simp only [vListM] at q
  split at q
  · rename_i ds e
    obtain ⟨a, vs, rfl, hs, rl⟩ := seqOf_rel sm r1 e
    exact ⟨a, vs, rfl, .inl hs, fun l hl => c.newM (o := .lst vs) (u := .lst ds) sm hl ⟨_, rfl, rl⟩ (.ref l) (q l (sm.none hl).2)⟩
  · split at q
    · rename_i ds _
      cases r1 with
      | tup hs rl => exact ⟨_, _, rfl, .inr (sqT_mono (fz_same F S H) hs), fun l hl => c.newM (o := .lst _) (u := .lst ds) sm hl ⟨_, rfl, rl⟩ (.ref l) (q l (sm.none hl).2)⟩
    · exact q.elim
end L3

set_option Elab.async false
set_option maxRecDepth 100000
set_option linter.all false
set_option maxHeartbeats 2000000
namespace L3
open PySem PySem.Spec PyProof.Rows L2
/-! ### x in a tuple of data of any depth -/
def rInT (K : PySem.W.Frag) (neg : Bool) : R2 := fun x y H Q => ∃ d ds, Dp K H x d ∧ Dp K H y (.tuple ds) ∧ SeqAt.shaped d = true ∧ SeqAt.shaped (.tuple ds) = true ∧ Q (.bl (if neg then !ds.any fun z => PyData.eqv z d else ds.any fun z => PyData.eqv z d)) H
section
variable {X : Cx} {Γ : KG X.K}
theorem op_inT (hu : X.A.units + 65 < cLine) : OpR X (compareOp .In) (rInT X.K false) := by
  intro pins s σ H x y v u Q I rx ry h
  obtain ⟨d, ds, hd, he, sd, se, q⟩ := h
  obtain ⟨as, r1⟩ := Dp.reads I d x v hd rx
  obtain ⟨bs, r2⟩ := Dp.reads I (.tuple ds) y u he ry
  exact SeqAt.in_tuple_reads r2 r1 (SeqAt.canLay_of_shaped se) (SeqAt.canLay_of_shaped sd) (room_in_shaped sd hu) ⟨.bl _, H, I, rfl, q⟩
theorem op_notinT (hu : X.A.units + 65 < cLine) : OpR X (compareOp .NotIn) (rInT X.K true) := by
  intro pins s σ H x y v u Q I rx ry h
  obtain ⟨d, ds, hd, he, sd, se, q⟩ := h
  obtain ⟨as, r1⟩ := Dp.reads I d x v hd rx
  obtain ⟨bs, r2⟩ := Dp.reads I (.tuple ds) y u he ry
  exact SeqAt.notIn_tuple_reads r2 r1 (SeqAt.canLay_of_shaped se) (SeqAt.canLay_of_shaped sd) (room_in_shaped sd hu) ⟨.bl _, H, I, rfl, q⟩
theorem units65 {k : Nat} {A : Around} (r : Room k A) : A.units + 65 < cLine := by have := r.un; omega
def vInT (neg : Bool) (x y : D) (S : Sto) (Q : DK) : Prop := match y with
  | .tup ds => okE x = true ∧ okEs ds = true ∧ dep x ≤ 64 ∧ deps ds ≤ 63 ∧ Q (.bl (if neg then !ds.any fun z => eqv z x else ds.any fun z => eqv z x)) S
  | _ => False
theorem any_toPs (p : PyData → Bool) : ∀ ds : List D, (toPs ds).any p = ds.any fun z => p (toP z)
  | [] => rfl
  | d :: ds => by simp only [toPs, List.any_cons, any_toPs p ds]
theorem dop_inAnyT (neg : Bool) {f : Value → Value → Sem Value} (h : OpR X f (rInT X.K neg)) : DOp X f (vInT neg) := by
  refine ⟨_, h, fun x y dx dy F S H P Q sm rx ry q c => ?_⟩
  cases dy <;> first | exact (q : False).elim | skip
  rename_i ds
  obtain ⟨h1, h2, h3, h4, h5⟩ := q
  have e1 : okE (.tup ds) = true := by simp only [okE]; exact h2
  have e2 : dep (.tup ds) ≤ 64 := by simp only [dep]; omega
  refine ⟨toP dx, toPs ds, (rx.mono (fz_same F S H)).dp h1, ?_, shaped_of h1 h3, ?_, ?_⟩
  · have := (ry.mono (fz_same F S H)).dp e1
    simpa only [toP] using this
  · have := shaped_of e1 e2
    simpa only [toP] using this
  · rw [any_toPs]
    exact c.use sm (.bl _) h5
theorem dop_inT (hu : X.A.units + 65 < cLine) : DOp X (compareOp .In) (vInT false) := dop_inAnyT false (op_inT hu)
theorem dop_notinT (hu : X.A.units + 65 < cLine) : DOp X (compareOp .NotIn) (vInT true) := dop_inAnyT true (op_notinT hu)
end
end L3

set_option Elab.async false
set_option maxRecDepth 100000
set_option linter.all false
set_option maxHeartbeats 2000000
namespace L3
open PySem PySem.Spec PyProof.Rows L2
/-! ### objects of own classes -/
def putG (f : Str) (v : D) : List (Str × D) → List (Str × D)
  | [] => [(f, v)]
  | (g, x) :: r => if g = f then (g, v) :: r else (g, x) :: putG f v r
theorem RelF.puF {K : PySem.W.Frag} {G : Hp} {f : Str} {v : V} {d : D} (h : Rel K G v d) : ∀ {vs : List (Str × V)} {ds : List (Str × D)}, RelF K G vs ds → RelF K G (putF f v vs) (putG f d ds)
  | _, _, .nil => .cons h .nil
  | _, _, .cons (k := k) r t => by
    unfold putF putG
    by_cases e : k = f
    · rw [if_pos e, if_pos e]; exact .cons h t
    · rw [if_neg e, if_neg e]; exact .cons r (RelF.puF h t)
theorem RelF.look {K : PySem.W.Frag} {G : Hp} {f : Str} {d : D} : ∀ {vs : List (Str × V)} {ds : List (Str × D)}, RelF K G vs ds → ds.lookup f = some d → ∃ v, vs.lookup f = some v ∧ Rel K G v d
  | _, _, .nil, h => by cases h
  | _, _, .cons (k := k) r t, h => by
    rw [List.lookup_cons] at h ⊢
    cases e : f == k with
    | true => rw [e] at h; cases h; exact ⟨_, rfl, r⟩
    | false => rw [e] at h; exact RelF.look t h
theorem RelF.noLook {K : PySem.W.Frag} {G : Hp} {f : Str} : ∀ {vs : List (Str × V)} {ds : List (Str × D)}, RelF K G vs ds → ds.lookup f = none → vs.lookup f = none
  | _, _, .nil, _ => rfl
  | _, _, .cons (k := k) r t, h => by
    rw [List.lookup_cons] at h ⊢
    cases e : f == k with
    | true => rw [e] at h; cases h
    | false => rw [e] at h; exact RelF.noLook t h
theorem RelF.len {K : PySem.W.Frag} {G : Hp} {κ : Type} : ∀ {vs : List (κ × V)} {ds : List (κ × D)}, RelF K G vs ds → vs.length = ds.length
  | _, _, .nil => rfl
  | _, _, .cons _ t => by simp [RelF.len t]
theorem SimB.ins {K : PySem.W.Frag} {F : Addr → Bool} {S : Sto} {H : Hp} {a C : Addr} {fs : List (Str × D)} (s : SimB K F S H) (h : S a = some (.ins C fs)) : ∃ dx vs, H a = some (.ins C dx vs) ∧ RelF K (fz F S H) vs fs := (s.at_ a _ h).2
/-- e.f -/
def vFld (C : Addr) (f : Str) : D → Sto → DK → Prop
  | .ref a, S, Q => match S a with
    | some (.ins C' fs) => C' = C ∧ ∃ d, fs.lookup f = some d ∧ Q d S
    | _ => False
  | _, _, _ => False
theorem st_fld {C a : Addr} {f : Str} {fs : List (Str × D)} {d : D} {S : Sto} {Q : DK} (e : S a = some (.ins C fs)) (l : fs.lookup f = some d) (h : Q d S) : vFld C f (.ref a) S Q := by
  simp only [vFld, e]
  exact ⟨trivial, d, l, h⟩
/-- e.f = value -/
def vPutF (C : Addr) (f : Str) (y : D) : D → Sto → (Sto → Prop) → Prop
  | .ref a, S, Q => match S a with
    | some (.ins C' fs) => C' = C ∧ fs.length < 1000 ∧ Q (sup S a (.ins C (putG f y fs)))
    | _ => False
  | _, _, _ => False
theorem st_putf {C a : Addr} {f : Str} {y : D} {fs : List (Str × D)} {S : Sto} {Q : Sto → Prop} (e : S a = some (.ins C fs)) (l : fs.length < 1000) (h : Q (sup S a (.ins C (putG f y fs)))) : vPutF C f y (.ref a) S Q := by
  simp only [vPutF, e]
  exact ⟨trivial, l, h⟩
/-- an object of the class, no attribute of it has the method's name -/
def vIsO (C : Addr) (m : Str) : D → Sto → Prop
  | .ref a, S => match S a with
    | some (.ins C' fs) => C' = C ∧ fs.lookup m = none
    | _ => False
  | _, _ => False
theorem st_iso {C a : Addr} {m : Str} {fs : List (Str × D)} {S : Sto} {Q : Prop} (e : S a = some (.ins C fs)) (l : fs.lookup m = none) (h : Q) : vIsO C m (.ref a) S ∧ Q := by
  refine ⟨?_, h⟩
  simp only [vIsO, e]
  exact ⟨trivial, l⟩
abbrev dFld (C : Addr) (f : Str) (te : DTE) : DTE := fun δ S Q => te δ S fun x S1 => vFld C f x S1 Q
abbrev dPutF (C : Addr) (f : Str) (to tv : DTE) : DTS := fun D δ S => tv δ S fun y S1 => to δ S1 fun x S2 => vPutF C f y x S2 fun S3 => D.nx δ S3
abbrev dAugF (C : Addr) (f : Str) (r : D → D → Sto → DK → Prop) (to tv : DTE) : DTS := fun D δ S => to δ S fun x S1 => vFld C f x S1 fun v S2 => tv δ S2 fun y S3 => r v y S3 fun z S4 => vPutF C f z x S4 fun S5 => D.nx δ S5
abbrev dMeth (C : Addr) (m : Str) (sp : DSp) (te : DTE) (t : DTA) : DTE := fun δ S Q => te δ S fun x S1 => vIsO C m x S1 ∧ t δ S1 fun ds S2 => sp (x :: ds) S2 Q
abbrev dMake (C : Addr) (sp : DSp) (t : DTA) : DTE := fun δ S Q => t δ S fun ds S1 => ∀ p, S1 p = none → sp (.ref p :: ds) (sup S1 p (.ins C [])) fun v S2 => v = .non ∧ Q (.ref p) S2
section
variable {X : Cx} {Γ : KG X.K} {a b c e o value : Expr} {ta tb tc te to tv : DTE} {t : DTA} {pos pos' tpos apos p : Pos} {es : List Expr} {f x m : Str} {C : Addr}
theorem dpe_fld (c : Cls X.K C) (n : NoAttr X.K C f) (he : DPE X Γ e te) (hb : attributeBase e f X.env (eval e X.env) = eval e X.env := by rfl) : DPE X Γ (.Attribute e f pos) (dFld C f te) :=
  PEw (pe_fld he hb) fun σ H Q ⟨F, δ, S, P, sm, rs, h, c'⟩ => ⟨F, δ, S, _, sm, rs, h, fun d S1 h1 v H1 g1 r1 => by
    cases d <;> first | exact (h1 : False).elim | skip
    cases r1
    simp only [vFld] at h1
    split at h1
    · rename_i C' fs e1
      obtain ⟨rfl, d, l, q⟩ := h1
      obtain ⟨dx, vs, e2, r2⟩ := g1.sim.toSimB.ins e1
      obtain ⟨v, l2, rv⟩ := r2.look l
      exact ⟨_, _, dx, vs, v, rfl, e2, c, n, l2, (c'.mono g1).use g1.sim rv q⟩
    · exact h1.elim⟩
theorem dps_fld (c : Cls X.K C) (n : NoAttr X.K C f) (ho : DPE X Γ o to) (hv : DPE X Γ value tv) (hs : swapsWith value (some (.Attribute o f pos')) pos.line X.env = pure false := by rfl) : DPS X Γ (.Assign [.Attribute o f pos'] value pos) (dPutF C f to tv) :=
  PSw (ps_fld ho hv hs) fun D σ H ⟨F, δ, S, P, sm, rs, h, c'⟩ => ⟨F, δ, S, _, sm, rs, h, fun dy S1 h1 y H1 g1 ry => ⟨F, δ, S1, _, g1.sim, rs.mono g1.same, h1, fun d S2 h2 v H2 g2 r2 => by
    cases d <;> first | exact (h2 : False).elim | skip
    cases r2
    simp only [vPutF] at h2
    split at h2
    · rename_i C' fs e1
      obtain ⟨rfl, l, q⟩ := h2
      obtain ⟨dx, vs, e2, r3⟩ := g2.sim.toSimB.ins e1
      have g3 := g2.sim.put (o := .ins C' dx (putF f y vs)) (u' := .ins C' (putG f dy fs)) e1 ⟨dx, _, rfl, r3.puF (ry.mono g2.same)⟩
      exact ⟨_, _, dx, vs, rfl, e2, c, n, by rw [r3.len]; exact l, c'.nx _ _ q _ _ ((g1.trans g2).trans g3) (rs.mono ((g1.trans g2).trans g3).same)⟩
    · exact h2.elim⟩⟩
theorem dps_fldaug {op : Operator} {r : D → D → Sto → DK → Prop} (c : Cls X.K C) (n : NoAttr X.K C f) (hop : DOp X (inplaceOp op) r) (ho : DPE X Γ o to) (hv : DPE X Γ value tv) : DPS X Γ (.AugAssign (.Attribute o f tpos) op value pos) (dAugF C f r to tv) := by
  obtain ⟨q, k1, k2⟩ := hop.ex
  refine PSw (ps_fldaug (rd := q) ho hv (fun pins s σ H x y u v Q I rx ry h => k1 pins s σ H x y u v Q I rx ry h)) fun D σ H ⟨F, δ, S, P, sm, rs, h, c'⟩ => ⟨F, δ, S, _, sm, rs, h, fun d S1 h1 v H1 g1 r1 => ?_⟩
  cases d <;> first | exact (h1 : False).elim | skip
  cases r1
  rename_i a
  simp only [vFld] at h1
  split at h1
  · rename_i C' fs e1
    obtain ⟨rfl, d, l, h1⟩ := h1
    obtain ⟨dx, vs, e2, r2⟩ := g1.sim.toSimB.ins e1
    obtain ⟨v, l2, rv⟩ := r2.look l
    refine ⟨_, _, dx, vs, v, rfl, e2, c, n, l2, F, δ, S1, _, g1.sim, rs.mono g1.same, h1, fun dy S2 h2 y H2 g2 ry => ?_⟩
    refine k2 v y d dy F S2 H2 _ _ g2.sim (rv.mono g2.same) ry h2 fun dz S3 h3 z H3 g3 rz => ?_
    simp only [vPutF] at h3
    split at h3
    · rename_i C2 fs2 e3
      obtain ⟨rfl, l3, h3⟩ := h3
      obtain ⟨dx2, vs2, e4, r4⟩ := g3.sim.toSimB.ins e3
      have g4 := g3.sim.put (o := .ins C2 dx2 (putF f z vs2)) (u' := .ins C2 (putG f dz fs2)) e3 ⟨dx2, _, rfl, r4.puF rz⟩
      have g14 := ((g1.trans g2).trans g3).trans g4
      exact ⟨dx2, vs2, e4, by rw [r4.len]; exact l3, c'.nx _ _ h3 _ _ g14 (rs.mono g14.same)⟩
    · exact h3.elim
  · exact h1.elim
variable {k : Nat} {fa : Addr} {fd : FuncData} {ps : List Str} {sp : DSp}
theorem dpe_meth {pl : Sem Bool} (c : Cls X.K C) (hm : Meth X.K C m fa) (F : FnD X.prog X.w X.K X.mg X.base k fa fd ps sp) (hr : Room k X.A) (hb : Binds X.K fd ps []) (ho : DPE X Γ o to) (ha : DPA X Γ (e :: es) t)
    (hst : starEach (e :: es) X.env = (false, eval e X.env) :: starEach es X.env := by rfl) (hpl : (backTo pos (starEach es X.env)).any (·.1) = false := by rfl)
    (ht : eval (.Call (.Attribute o m apos) (e :: es) [] pos) X.env = (do
      let ov ← eval o X.env
      standAt apos.atName
      let (f, first) ← holding [ov] (getMethod ov m pl)
      callWith pos f first (backTo pos (starEach (e :: es) X.env)) (backToKw pos (keywordEach [] X.env))) := by rfl) :
    DPE X Γ (.Call (.Attribute o m apos) (e :: es) [] pos) (dMeth C m sp to t) :=
  PEw (pe_meth (pl := pl) ho c hm F hr hb .nil pass0 ha hst hpl ht) fun σ H Q ⟨F, δ, S, P, sm, rs, h, c'⟩ => ⟨F, δ, S, _, sm, rs, h, fun d S1 h1 v H1 g1 r1 => by
    obtain ⟨h0, h1⟩ := h1
    cases d <;> first | exact (h0 : False).elim | skip
    cases r1
    rename_i a
    simp only [vIsO] at h0
    split at h0
    · rename_i C' fs e1
      obtain ⟨rfl, l⟩ := h0
      obtain ⟨dx, vs, e2, r2⟩ := g1.sim.toSimB.ins e1
      refine ⟨_, dx, vs, rfl, e2, r2.noLook l, F, δ, S1, _, g1.sim, rs.mono g1.same, h1, fun ds S2 h2 vs2 H2 g2 r3 => ?_⟩
      show lfSp X.K sp (.ref a :: (vs2 ++ [])) H2 Q E0
      rw [List.append_nil]
      exact ⟨F, .ref a :: ds, S2, P, g2.sim.top, .cons (.ref a) r3, h2, (c'.mono (g1.trans g2)).top g2.sim⟩
    · exact h0.elim⟩
theorem dpe_meth0 {pl : Sem Bool} (c : Cls X.K C) (hm : Meth X.K C m fa) (F : FnD X.prog X.w X.K X.mg X.base k fa fd ps sp) (hr : Room k X.A) (hb : Binds X.K fd ps []) (ho : DPE X Γ o to)
    (ht : eval (.Call (.Attribute o m apos) [] [] pos) X.env = (do
      let ov ← eval o X.env
      standAt apos.atName
      let (f, first) ← holding [ov] (getMethod ov m pl)
      callWith pos f first (backTo pos (starEach [] X.env)) (backToKw pos (keywordEach [] X.env))) := by rfl) :
    DPE X Γ (.Call (.Attribute o m apos) [] [] pos) (dMeth C m sp to dNil) :=
  PEw (pe_meth0 (pl := pl) ho c hm F hr hb .nil pass0 ht) fun σ H Q ⟨F, δ, S, P, sm, rs, h, c'⟩ => ⟨F, δ, S, _, sm, rs, h, fun d S1 h1 v H1 g1 r1 => by
    obtain ⟨h0, h1⟩ := h1
    cases d <;> first | exact (h0 : False).elim | skip
    cases r1
    rename_i a
    simp only [vIsO] at h0
    split at h0
    · rename_i C' fs e1
      obtain ⟨rfl, l⟩ := h0
      obtain ⟨dx, vs, e2, r2⟩ := g1.sim.toSimB.ins e1
      refine ⟨_, dx, vs, rfl, e2, r2.noLook l, ?_⟩
      show lfSp X.K sp [.ref a] H1 Q E0
      exact ⟨F, [.ref a], S1, P, g1.sim.top, .cons (.ref a) .nil, h1, (c'.mono g1).top g1.sim⟩
    · exact h0.elim⟩
theorem mk_go {K : PySem.W.Frag} {Γ : KG K} {F : Addr → Bool} {S : Sto} {H : Hp} {x dx : Addr} (sm : Sim Γ F S H) (h1 : H x = none) (h2 : H dx = none) (h3 : dx ≠ x) : Go Γ F S H (sup S x (.ins C [])) (upd (upd H dx (.own x)) x (.ins C dx [])) := by
  have g1 := sm.new (o := .own x) h2
  have h4 : upd H dx (.own x) x = none := by rw [upd_ne (Ne.symm h3)]; exact h1
  exact g1.trans (g1.sim.newM (o := .ins C dx []) (u := .ins C []) h4 ⟨dx, [], rfl, .nil⟩)
theorem dpe_make (M : Mk X.K C fa) (F : FnD X.prog X.w X.K X.mg X.base k fa fd ps sp) (hr : Room (k + 1) X.A) (hg : Gl X x) (hm : X.mg x = some (.ref C)) (hb : Binds X.K fd ps []) (ha : DPA X Γ (e :: es) t)
    (hdb : (x == ("__debug__" : Str)) = false := by decide) (he : starEach (e :: es) X.env = (false, eval e X.env) :: starEach es X.env := by rfl) (hpl : (backTo pos (starEach es X.env)).any (·.1) = false := by rfl) :
    DPE X Γ (.Call (.Name x p) (e :: es) [] pos) (dMake C sp t) :=
  PEw (pe_make M F hr hg hm hb .nil pass0 ha hdb he hpl) fun σ H Q ⟨F, δ, S, P, sm, rs, h, c'⟩ => ⟨F, δ, S, _, sm, rs, h, fun ds S1 h1 vs H1 g1 r1 x dx n1 n2 n3 => by
    have g2 := mk_go (C := C) g1.sim n1 n2 n3
    have g12 := g1.trans g2
    show lfSp X.K sp (.ref x :: (vs ++ [])) _ _ E0
    rw [List.append_nil]
    refine ⟨F, .ref x :: ds, _, _, g2.sim.top, .cons (.ref x) (r1.mono g2.same), h1 x (g1.sim.none n1).2, fun d S3 h3 v H3 g3 r3 => ?_⟩
    obtain ⟨rfl, h3⟩ := h3
    cases r3
    have g3' : Go Γ F _ _ S3 H3 := .of g2.sim g3.b
    exact ⟨rfl, c' _ _ h3 _ _ (g12.trans g3') (.ref x)⟩⟩
theorem dpe_make0 (M : Mk X.K C fa) (F : FnD X.prog X.w X.K X.mg X.base k fa fd ps sp) (hr : Room (k + 1) X.A) (hg : Gl X x) (hm : X.mg x = some (.ref C)) (hb : Binds X.K fd ps [])
    (hdb : (x == ("__debug__" : Str)) = false := by decide) : DPE X Γ (.Call (.Name x p) [] [] pos) (dMake C sp dNil) :=
  PEw (pe_make0 M F hr hg hm hb .nil pass0 hdb) fun σ H Q ⟨F, δ, S, P, sm, rs, h, c'⟩ => fun x dx n1 n2 n3 => by
    have g2 := mk_go (C := C) sm n1 n2 n3
    show lfSp X.K sp [.ref x] _ _ E0
    refine ⟨F, [.ref x], _, _, g2.sim.top, .cons (.ref x) .nil, h x (sm.none n1).2, fun d S3 h3 v H3 g3 r3 => ?_⟩
    obtain ⟨rfl, h3⟩ := h3
    cases r3
    have g3' : Go Γ F _ _ S3 H3 := .of g2.sim g3.b
    exact ⟨rfl, c' _ _ h3 _ _ (g2.trans g3') (.ref x)⟩
end
end L3

set_option Elab.async false
set_option maxRecDepth 100000
set_option linter.all false
set_option maxHeartbeats 2000000
namespace L3
open PySem PySem.Spec PyProof.Rows L2
/-! ### max of a list, list.index of an int, bool(list), xs[::-1] -/
def vMaxL : List D → Sto → DK → Prop
  | [x], S, Q => ∃ ns : List Int, seqOf S x = some (ns.map .int) ∧ 0 < ns.length ∧ ∀ m, m ∈ ns → (∀ y, y ∈ ns → y ≤ m) → Q (.int m) S
  | _, _, _ => False
def vBoolL : List D → Sto → DK → Prop
  | [x], S, Q => ∃ ds, seqOf S x = some ds ∧ Q (.bl (!ds.isEmpty)) S
  | _, _, _ => False
def vIndexI : D → List D → Sto → DK → Prop
  | x, [.int i], S, Q => ∃ (ns : List Int) (j : Nat), seqOf S x = some (ns.map .int) ∧ ns[j]? = some i ∧ (∀ m z, m < j → ns[m]? = some z → z ≠ i) ∧ Q (.int (j : Nat)) S
  | _, _, _, _ => False
abbrev dRevM (te : DTE) : DTE := fun δ S Q => te δ S fun x S1 => ∃ ds, seqOf S1 x = some ds ∧ ∀ p, S1 p = none → Q (.ref p) (sup S1 p (.lst ds.reverse))
abbrev dRevL (te : DTE) : DTE := fun δ S Q => te δ S fun x S1 => ∃ ds, seqOf S1 x = some ds ∧ Q (.lst ds.reverse) S1
section
variable {X : Cx} {Γ : KG X.K}
theorem dcall_maxL (hc : X.calm = true) : DCall X (.builtin "max") vMaxL := by
  refine ⟨_, cr_max hc, fun xs ds F S H P Q sm rx q c => ?_⟩
  rcases ds with _ | ⟨d1, _ | ⟨d2, ds⟩⟩ <;> first | exact (q : False).elim | skip
  cases rx with
  | cons r1 r2 =>
  cases r2
  obtain ⟨ns, e, h0, q⟩ := (q : ∃ ns : List Int, seqOf S d1 = some (ns.map .int) ∧ 0 < ns.length ∧ ∀ m, m ∈ ns → (∀ y, y ∈ ns → y ≤ m) → P (.int m) S)
  obtain ⟨a, vs, rfl, hs, rl⟩ := seqOf_rel sm r1 e
  exact ⟨a, ns, rfl, by rw [← rl.ints]; exact hs, h0, fun m h1 h2 => c.use sm (.int m) (q m h1 h2)⟩
theorem dcall_boolL : DCall X (.type "bool") vBoolL := by
  refine ⟨_, call_boolL, fun xs ds F S H P Q sm rx q c => ?_⟩
  rcases ds with _ | ⟨d1, _ | ⟨d2, ds⟩⟩ <;> first | exact (q : False).elim | skip
  cases rx with
  | cons r1 r2 =>
  cases r2
  obtain ⟨ds, e, q⟩ := (q : ∃ ds, seqOf S d1 = some ds ∧ P (.bl (!ds.isEmpty)) S)
  obtain ⟨a, vs, rfl, hs, rl⟩ := seqOf_rel sm r1 e
  refine ⟨a, vs, rfl, hs, ?_⟩
  have : vs.isEmpty = ds.isEmpty := by cases rl <;> rfl
  rw [this]
  exact c.use sm (.bl _) q
theorem lr_indexI : LRM X.K (rIndex X.K) vIndexI := fun x xs dx ds F S H P Q sm rx rxs q c => by
  rcases ds with _ | ⟨d1, _ | ⟨d2, ds⟩⟩ <;> first | exact (q : False).elim | (cases d1 <;> exact (q : False).elim) | skip
  cases d1 <;> first | exact (q : False).elim | skip
  cases rxs with
  | cons r1 r2 =>
  cases r2
  cases r1
  rename_i i
  obtain ⟨ns, j, e, e1, hno, q⟩ := (q : ∃ (ns : List Int) (j : Nat), seqOf S dx = some (ns.map .int) ∧ ns[j]? = some i ∧ (∀ m z, m < j → ns[m]? = some z → z ≠ i) ∧ P (.int (j : Nat)) S)
  obtain ⟨a, vs, rfl, hs, rl⟩ := seqOf_rel sm rx e
  rw [rl.ints] at hs
  refine ⟨a, ns.map V.int, .int i, j, .int i, rfl, rfl, hs, rfl, ?_, by rw [List.getElem?_map, e1]; rfl, by show (i == i) = true; simp, fun m z' hm hz => ?_, c.use sm (.int _) q⟩
  · exact List.all_eq_true.mpr fun v hv => by obtain ⟨n, _, rfl⟩ := List.mem_map.mp hv; rfl
  · rw [List.getElem?_map] at hz
    obtain ⟨z, hz2, rfl⟩ := Option.map_eq_some_iff.mp hz
    have := hno m z hm hz2
    show (z == i) = false
    simpa using this
theorem dpe_revM {e : Expr} {te : DTE} {k : Nat} {p1 p2 p3 pos : Pos} (he : DPE X Γ e te) : DPE X Γ (.Subscript e (.Slice none none (some (.UnaryOp .USub (.Constant (.int 1) k p1) p2)) p3) pos) (dRevM te) :=
  PEw (pe_revL he) fun σ H Q ⟨F, δ, S, P, sm, rs, h, c⟩ => ⟨F, δ, S, _, sm, rs, h, fun d S1 ⟨ds, e, h1⟩ v H1 g1 r1 => by
    obtain ⟨a, vs, rfl, hs, rl⟩ := seqOf_rel g1.sim r1 e
    exact ⟨a, vs, rfl, hs, fun p hp => (c.mono g1).newM (o := .lst vs.reverse) (u := .lst ds.reverse) g1.sim hp ⟨_, rfl, rl.reverse⟩ (.ref p) (h1 p (g1.sim.none hp).2)⟩⟩
theorem dpe_revL {e : Expr} {te : DTE} {k : Nat} {p1 p2 p3 pos : Pos} (he : DPE X Γ e te) : DPE X Γ (.Subscript e (.Slice none none (some (.UnaryOp .USub (.Constant (.int 1) k p1) p2)) p3) pos) (dRevL te) :=
  PEw (pe_revL he) fun σ H Q ⟨F, δ, S, P, sm, rs, h, c⟩ => ⟨F, δ, S, _, sm, rs, h, fun d S1 ⟨ds, e, h1⟩ v H1 g1 r1 => by
    obtain ⟨a, vs, rfl, hs, rl⟩ := seqOf_rel g1.sim r1 e
    exact ⟨a, vs, rfl, hs, fun p hp => (c.mono g1).new g1.sim hp (fz_newL g1.sim hp rl.reverse) h1⟩⟩
end
end L3

set_option Elab.async false
set_option maxRecDepth 100000
set_option linter.all false
set_option maxHeartbeats 2000000
namespace L3
open PySem L2
/-! ### steps that many readings want -/
theorem sizeLine_v : sizeLine = 16777216 := sizeLine_val
theorem st_slT {ds : List D} {lo hi : Option Int} {S : Sto} {Q : DK} (h : Q (.tup (cut ds lo hi)) S) : vSl (.tup ds) lo hi S Q := h
theorem st_slL {ds : List D} {lo hi : Option Int} {S : Sto} {Q : DK} (h : Q (.lst (cut ds lo hi)) S) : vSl (.lst ds) lo hi S Q := h
theorem it_l {ds : List D} {S : Sto} : itOf S (.lst ds) = some (fun _ => True, ds) := rfl
theorem it_r {A : Addr} {ds : List D} {S : Sto} (e : S A = some (.lst ds)) : itOf S (.ref A) = some (fun S' => S' A = some (.lst ds), ds) := by simp only [itOf, e]
theorem seq_r {A : Addr} {ds : List D} {S : Sto} (e : S A = some (.lst ds)) : seqOf S (.ref A) = some ds := by simp only [seqOf, e]
theorem sup_self {S : Sto} {b : Addr} {so : SO} (h : S b = some so) : sup S b so = S := by
  funext a
  unfold sup
  split
  · rename_i e; rw [e, h]
  · rfl
theorem st_setr {A : Addr} {d : D} {ds : List D} {b : Nat} {S : Sto} {Q : Sto → Prop} (e : S A = some (.lst ds)) (h : b < ds.length) (q : Q (sup S A (.lst (ds.set b d)))) : vSet (.ref A) (.int (b : Int)) d S Q := by
  have i : ixN ds.length (b : Int) = some b := by
    unfold ixN
    rw [if_pos (by omega), if_pos (by omega)]
    simp
  simp only [vSet, e, i]
  exact q
theorem st_popr {A : Addr} {d : D} {ds : List D} {S : Sto} {Q : DK} (e : S A = some (.lst (ds ++ [d]))) (q : Q d (sup S A (.lst ds))) : vPop (.ref A) [] S Q := by
  have e1 : (ds ++ [d])[(ds ++ [d]).length - 1]? = some d := by simp
  have e2 : (ds ++ [d]).dropLast = ds := by simp
  simp only [vPop, e, e1, e2]
  exact q
theorem st_tru_r {A : Addr} {ds : List D} {S : Sto} {Q : Bool → Sto → Prop} (e : S A = some (.lst ds)) (h : Q (!ds.isEmpty) S) : vTru (.ref A) S Q := by
  simp only [vTru, e]
  exact h
theorem rng_at {n j : Nat} {d : D} (h : (rngD 0 n)[j]? = some d) : j < n ∧ d = iD j := by
  unfold rngD at h
  rw [List.getElem?_map] at h
  obtain ⟨i, e, rfl⟩ := Option.map_eq_some_iff.mp h
  obtain ⟨h1, h2⟩ := List.getElem?_eq_some_iff.mp e
  rw [List.length_range] at h1
  rw [List.getElem_range] at h2
  subst h2
  exact ⟨h1, by rw [Int.zero_add]⟩
theorem rng_len (n : Nat) : (rngD 0 n).length = n := by simp [rngD]
theorem st_pow {i j : Int} {S : Sto} {Q : DK} (h1 : CPow i j) (h : Q (.int (i ^ j.toNat)) S) : vPow (.int i) (.int j) S Q := ⟨h1, h⟩
theorem st_shl {i j : Int} {S : Sto} {Q : DK} (h1 : CPow i j) (h : Q (.int (i * 2 ^ j.toNat)) S) : vShl (.int i) (.int j) S Q := ⟨h1, h⟩
/-! ### dicts -/
theorem dget_eq {A : Addr} {kvs : List (Key × D)} {k : Key} {y d : D} {S : Sto} (e : S A = some (.dK kvs)) (hk : keyOf y = some k) (h : valD kvs k = some d) : dGetD S (.ref A) y = some (some d) := by
  simp only [dGetD, e, hk, Option.map_some, h]
theorem st_dput {A : Addr} {kvs : List (Key × D)} {k : Key} {y v : D} {S : Sto} {Q : Sto → Prop} (e : S A = some (.dK kvs)) (hk : keyOf y = some k) (h : kvs.length < sizeLine) (q : Q (sup S A (.dK (putD kvs k v)))) : ∃ S4, dPutD S v (.ref A) y = some S4 ∧ Q S4 := by
  refine ⟨_, ?_, q⟩
  simp only [dPutD, e, hk]
  rw [if_pos h]
section
variable {β : Type}
def nput (l : List (Nat × β)) (b : Nat) (i : β) : List (Nat × β) := if (l.any fun q => q.1 == b) = true then l.map fun q => if q.1 = b then (b, i) else q else l ++ [(b, i)]
def nlk (l : List (Nat × β)) (v : Nat) : Option β := (l.find? fun q => q.1 == v).map (·.2)
theorem nlk_put (b : Nat) (i : β) (v : Nat) : ∀ l : List (Nat × β), nlk (nput l b i) v = if v = b then some i else nlk l v := fun l => by
  unfold nput nlk
  by_cases h : (l.any fun q => q.1 == b) = true
  · rw [if_pos h]
    induction l with
    | nil => simp at h
    | cons q l ih =>
      rw [List.map_cons, List.find?_cons, List.find?_cons]
      by_cases e : q.1 = b
      · rw [if_pos e]
        by_cases z : v = b
        · subst z; simp
        · rw [show (b == v) = false from beq_eq_false_iff_ne.mpr (Ne.symm z), if_neg z]
          rw [show (q.1 == v) = false from beq_eq_false_iff_ne.mpr (by rw [e]; exact Ne.symm z)]
          have : ∀ l : List (Nat × β), (l.map fun q => if q.1 = b then (b, i) else q).find? (fun q => q.1 == v) = l.find? fun q => q.1 == v := fun l => by
            induction l with
            | nil => rfl
            | cons p l ih =>
              rw [List.map_cons, List.find?_cons, List.find?_cons]
              by_cases e2 : p.1 = b
              · rw [if_pos e2, show (b == v) = false from beq_eq_false_iff_ne.mpr (Ne.symm z), show (p.1 == v) = false from beq_eq_false_iff_ne.mpr (by rw [e2]; exact Ne.symm z)]
                exact ih
              · rw [if_neg e2, ih]
          simp only [this]
      · rw [if_neg e]
        cases hv : q.1 == v with
        | true =>
          have z : v ≠ b := by
            have := beq_iff_eq.mp hv
            omega
          rw [if_neg z]
        | false =>
          refine ih ?_
          rw [List.any_cons, show (q.1 == b) = false from beq_eq_false_iff_ne.mpr e, Bool.false_or] at h
          exact h
  · rw [if_neg h, List.find?_append]
    have hn : ∀ q ∈ l, q.1 ≠ b := fun q hq e => h (List.any_eq_true.mpr ⟨q, hq, by simpa using e⟩)
    by_cases z : v = b
    · subst z
      rw [if_pos rfl, List.find?_eq_none.mpr fun q hq => by simpa using hn q hq]
      simp
    · rw [if_neg z]
      have : List.find? (fun q : Nat × β => q.1 == v) [(b, i)] = none := by
        rw [List.find?_cons, show ((b, i).1 == v) = false from beq_eq_false_iff_ne.mpr (Ne.symm z)]
        rfl
      rw [this, Option.or_none]
abbrev nD (f : β → D) (l : List (Nat × β)) : List (Key × D) := l.map fun q => (Sum.inl (q.1 : Int), f q.2)
theorem inl_nat {a b : Nat} : ((Sum.inl (a : Int) : Key) = Sum.inl (b : Int)) ↔ a = b := by
  rw [Sum.inl.injEq]
  omega
theorem val_nD (f : β → D) (v : Nat) : ∀ l : List (Nat × β), valD (nD f l) (Sum.inl (v : Int)) = (nlk l v).map f
  | [] => rfl
  | (a, i) :: l => by
    have ih := val_nD f v l
    unfold valD nlk at ih ⊢
    rw [show nD f ((a, i) :: l) = (Sum.inl (a : Int), f i) :: nD f l from rfl, List.find?_cons, List.find?_cons]
    by_cases h : a = v
    · subst h
      simp
    · rw [decide_eq_false fun z => h (inl_nat.mp z), show (a == v) = false from beq_eq_false_iff_ne.mpr h]
      exact ih
theorem put_nD (f : β → D) (b : Nat) (i : β) (l : List (Nat × β)) : putD (nD f l) (Sum.inl (b : Int)) (f i) = nD f (nput l b i) := by
  have any_ : ∀ l : List (Nat × β), ((nD f l).any fun kv => decide (kv.1 = (Sum.inl (b : Int) : Key))) = l.any fun q => q.1 == b := fun l => by
    induction l with
    | nil => rfl
    | cons q l ih =>
      rw [show nD f (q :: l) = (Sum.inl (q.1 : Int), f q.2) :: nD f l from rfl, List.any_cons, List.any_cons, ih]
      by_cases h : q.1 = b
      · rw [decide_eq_true (show (Sum.inl (q.1 : Int) : Key) = Sum.inl (b : Int) from inl_nat.mpr h), show (q.1 == b) = true from by simpa using h]
      · rw [decide_eq_false fun z => h (inl_nat.mp z), show (q.1 == b) = false from beq_eq_false_iff_ne.mpr h]
  unfold putD nput
  rw [any_]
  by_cases h : (l.any fun q => q.1 == b) = true
  · rw [if_pos h, if_pos h, List.map_map, show nD f (l.map fun q => if q.1 = b then (b, i) else q) = (l.map fun q => if q.1 = b then (b, i) else q).map (fun q => ((Sum.inl (q.1 : Int) : Key), f q.2)) from rfl, List.map_map]
    apply List.map_congr_left
    intro q _
    show (if (Sum.inl (q.1 : Int) : Key) = Sum.inl (b : Int) then ((Sum.inl (q.1 : Int) : Key), f i) else (Sum.inl (q.1 : Int), f q.2)) = (Sum.inl ((if q.1 = b then (b, i) else q).1 : Int), f (if q.1 = b then (b, i) else q).2)
    by_cases e : q.1 = b
    · rw [if_pos (inl_nat.mpr e), if_pos e, ← e]
    · rw [if_neg fun z => e (inl_nat.mp z), if_neg e]
  · rw [if_neg h, if_neg h, show nD f (l ++ [(b, i)]) = (l ++ [(b, i)]).map (fun q => ((Sum.inl (q.1 : Int) : Key), f q.2)) from rfl, List.map_append]
    rfl
theorem nput_keys (l : List (Nat × β)) (b : Nat) (i : β) : (nput l b i).map (·.1) = if b ∈ l.map (·.1) then l.map (·.1) else l.map (·.1) ++ [b] := by
  unfold nput
  have hm : (l.any fun q => q.1 == b) = true ↔ b ∈ l.map (·.1) := by
    rw [List.any_eq_true, List.mem_map]
    constructor
    · rintro ⟨q, h1, h2⟩; exact ⟨q, h1, by simpa using h2⟩
    · rintro ⟨q, h1, h2⟩; exact ⟨q, h1, by simpa using h2⟩
  by_cases h : (l.any fun q => q.1 == b) = true
  · rw [if_pos h, if_pos (hm.mp h), List.map_map]
    apply List.map_congr_left
    intro q _
    show (if q.1 = b then (b, i) else q).1 = q.1
    by_cases e : q.1 = b
    · rw [if_pos e, e]
    · rw [if_neg e]
  · rw [if_neg h, if_neg fun z => h (hm.mpr z), List.map_append]
    rfl
/-- the keys: each once, below N -/
def KOk (l : List (Nat × β)) (N : Nat) : Prop := (l.map (·.1)).Nodup ∧ ∀ k ∈ l.map (·.1), k < N
theorem KOk.put {l : List (Nat × β)} {N b : Nat} (h : KOk l N) (hb : b < N) (i : β) : KOk (nput l b i) N := by
  unfold KOk
  rw [nput_keys]
  split
  · exact h
  · rename_i z
    refine ⟨List.nodup_append.mpr ⟨h.1, by simp, fun x hx y hy => ?_⟩, fun k hk => ?_⟩
    · rw [List.mem_singleton.mp hy]
      intro e
      subst e
      exact z hx
    · rcases List.mem_append.mp hk with hk | hk
      · exact h.2 k hk
      · rw [List.mem_singleton.mp hk]; exact hb
theorem nodup_below : ∀ (n : Nat) {l : List Nat}, l.Nodup → (∀ x ∈ l, x < n) → l.length ≤ n
  | 0, l, _, h => by
    cases l with
    | nil => exact Nat.le_refl _
    | cons x l => exact absurd (h x List.mem_cons_self) (Nat.not_lt_zero _)
  | n + 1, l, hd, h => by
    have h1 := nodup_below n (l := l.filter fun x => x != n) (hd.filter _) fun x hx => by
      obtain ⟨h2, h3⟩ := List.mem_filter.mp hx
      have := h x h2
      have : x ≠ n := by simpa using h3
      omega
    have h2 : l.length ≤ (l.filter fun x => x != n).length + 1 := by
      have h3 : l.length = (l.filter fun x => x != n).length + (l.filter fun x => !(x != n)).length := by
        rw [← List.length_append]
        exact (List.filter_append_perm (fun x => x != n) l).length_eq.symm
      have h4 : (l.filter fun x => !(x != n)).length ≤ 1 := by
        have hd2 : (l.filter fun x => !(x != n)).Nodup := hd.filter _
        have ha : ∀ x ∈ l.filter fun x => !(x != n), x = n := fun x hx => by simpa using (List.mem_filter.mp hx).2
        generalize l.filter (fun x => !(x != n)) = m at hd2 ha
        rcases m with _ | ⟨a, _ | ⟨b, m⟩⟩
        · simp
        · simp
        · exfalso
          have h5 := ha a List.mem_cons_self
          have h6 := ha b (List.mem_cons_of_mem _ List.mem_cons_self)
          subst h5 h6
          exact (List.nodup_cons.mp hd2).1 List.mem_cons_self
      omega
    omega
theorem KOk.len {l : List (Nat × β)} {N : Nat} (h : KOk l N) : l.length ≤ N := by
  have := nodup_below N h.1 h.2
  rwa [List.length_map] at this
theorem KOk.mono {l : List (Nat × β)} {N N' : Nat} (h : KOk l N) (hN : N ≤ N') : KOk l N' := ⟨h.1, fun k hk => by have := h.2 k hk; omega⟩
end
/-! ### comprehensions over a mapped list -/
theorem lcL_map {α : Type} {kp : Sto → Prop} {g : DTG} {te : DTE} {vs : List Nat} {δ : DSt} {S : Sto} {Q : DK} (e v : α → D) (hk : kp S) : ∀ (l : List α) (acc : List D), acc.length + l.length ≤ sizeLine →
    (∀ a ∈ l, ∀ P : DK, P (v a) S → g (e a) (dwipe δ vs) S fun δ2 S2 => te δ2 S2 P) → Q (.lst (acc ++ l.map v)) S → lcL kp g dYes te vs δ (l.map e) acc S Q
  | [], acc, _, _, q => ⟨hk, by simpa using q⟩
  | a :: l, acc, hz, he, q => by
    refine ⟨hk, by simp only [List.length_cons] at hz; omega, ?_⟩
    refine he a List.mem_cons_self _ ?_
    refine lcL_map e v hk l (acc ++ [v a]) (by simp only [List.length_append, List.length_cons, List.length_nil] at hz ⊢; omega) (fun b h => he b (List.mem_cons_of_mem _ h)) ?_
    simpa using q
theorem lcL_fil {α : Type} {kp : Sto → Prop} {g : DTG} {tt : DTT} {te : DTE} {vs : List Nat} {δ : DSt} {S : Sto} {Q : DK} (e v : α → D) (p : α → Bool) (hk : kp S) : ∀ (l : List α) (acc : List D), acc.length + l.length ≤ sizeLine →
    (∀ a ∈ l, ∀ (P : DK) (N : Sto → Prop), (if p a = true then P (v a) S else N S) → g (e a) (dwipe δ vs) S fun δ2 S2 => tt δ2 S2 fun b S3 => if b = true then te δ2 S3 P else N S3) → Q (.lst (acc ++ (l.filter p).map v)) S → lcL kp g tt te vs δ (l.map e) acc S Q
  | [], acc, _, _, q => ⟨hk, by simpa using q⟩
  | a :: l, acc, hz, he, q => by
    refine ⟨hk, by simp only [List.length_cons] at hz; omega, ?_⟩
    refine he a List.mem_cons_self _ _ ?_
    cases h : p a with
    | true =>
      rw [if_pos rfl]
      refine lcL_fil e v p hk l (acc ++ [v a]) (by simp only [List.length_append, List.length_cons, List.length_nil] at hz ⊢; omega) (fun b h => he b (List.mem_cons_of_mem _ h)) ?_
      rw [List.filter_cons, h] at q
      simpa using q
    | false =>
      rw [if_neg Bool.false_ne_true]
      refine lcL_fil e v p hk l acc (by simp only [List.length_cons] at hz; omega) (fun b h => he b (List.mem_cons_of_mem _ h)) ?_
      rw [List.filter_cons, h] at q
      exact q
end L3

set_option Elab.async false
set_option maxRecDepth 100000
set_option linter.all false
set_option maxHeartbeats 2000000
/-! zip of a list and a tuple, either way round -/
namespace L3Z
open PySem PySem.Spec PyProof.Rows L2
def IsI (k : Bool) (g : Heap) (i l : Addr) (n : Nat) : Prop := match k with
  | true => g.IsListIter i l n
  | false => g.IsTupleIter i l n
def IsS (k : Bool) (g : Heap) (l : Addr) (vs : Array Value) : Prop := match k with
  | true => g.IsList l vs
  | false => g.IsTuple l vs
theorem IsI.mv {k : Bool} {g g' : Heap} {i l : Addr} {n : Nat} (q : IsI k g i l n) (m : ∀ o, g.get? i = some o → g'.get? i = some o) : IsI k g' i l n := by
  cases k
  · exact Heap.IsTupleIter.at q m
  · exact Heap.IsListIter.at q m
theorem IsS.mv {k : Bool} {g g' : Heap} {l : Addr} {vs : Array Value} (q : IsS k g l vs) (m : ∀ o, g.get? l = some o → g'.get? l = some o) : IsS k g' l vs := by
  cases k
  · obtain ⟨o, e, r⟩ := q; exact ⟨o, m o e, r⟩
  · obtain ⟨o, e, r⟩ := q; exact ⟨o, m o e, r⟩
theorem IsI.ob {k : Bool} {g : Heap} {i l : Addr} {n : Nat} (q : IsI k g i l n) : ∃ o, g.get? i = some o ∧ ∀ v, o.data ≠ .seq v := by
  cases k
  · obtain ⟨o, e, _, d⟩ := q; exact ⟨o, e, fun v z => by rw [d] at z; cases z⟩
  · obtain ⟨o, e, _, d⟩ := q; exact ⟨o, e, fun v z => by rw [d] at z; cases z⟩
section
variable {P : Program} {w : World} {A : Around} {E : Value → Shared → Prop} {s : Shared}
theorem nx_item {k : Bool} {it l : Addr} {n : Nat} {vs : Array Value} {v : Value} {R : Value → Shared → Prop} (q : IsI k s.heap it l n) (ql : IsS k s.heap l vs) (e : vs[n]? = some v)
    (r : ∀ g, IsI k g it l (n + 1) → Heap.SameBut it s.heap g → R v { s with heap := g }) : wpAny (model P w) A (Builtin.SmallTypes.nextOf (.ref it)) R E s := by
  cases k
  · exact RZ.nextOf_tuple_item q ql e r
  · exact wpAny_nextOf_list_item q ql e r
theorem nx_end {k : Bool} {it l : Addr} {n : Nat} {vs : Array Value} {R : Value → Shared → Prop} (hh : A.handled = none) (q : IsI k s.heap it l n) (ql : IsS k s.heap l vs) (e : vs[n]? = none)
    (r : ∀ g b, Heap.ExtBut it s.heap g → (∃ o, g.get? b = some o ∧ o.cls = .type "StopIteration") → E (.ref b) { s with heap := g }) : wpAny (model P w) A (Builtin.SmallTypes.nextOf (.ref it)) R E s := by
  cases k
  · exact RZ.nextOf_tuple_end hh q ql e r
  · exact wpAny_nextOf_list_end hh q ql e r
end
end L3Z

set_option Elab.async false
set_option maxRecDepth 100000
set_option linter.all false
set_option maxHeartbeats 2000000
/-! zip of sequences of either kind: how it steps -/
namespace L3Z
open PySem PySem.Spec PyProof.Rows L2
section
variable {P : Program} {w : World} {A : Around} {E : Value → Shared → Prop} {s : Shared} {k1 k2 : Bool} {u wi wo j1 j2 m1 m2 : Addr} {n1 n2 : Nat} {as bs : Array Value} {p q a b : Value}
/-- else as before -/
def Oth (u wo j1 j2 : Addr) (g g' : Heap) : Prop := ∀ c o, c ≠ u → c ≠ wo → c ≠ j1 → c ≠ j2 → g.get? c = some o → g'.get? c = some o
theorem zip_item {R : Value → Shared → Prop} (Z : ZipApart u wi wo j1 j2 m1 m2) (hu : IsZip s.heap u wi wo .none) (hw : IsPair s.heap wi (.ref j1) (.ref j2)) (ho : IsPair s.heap wo a b)
    (t1 : IsI k1 s.heap j1 m1 n1) (t2 : IsI k2 s.heap j2 m2 n2) (r1 : IsS k1 s.heap m1 as) (r2 : IsS k2 s.heap m2 bs) (e1 : as[n1]? = some p) (e2 : bs[n2]? = some q)
    (hR : ∀ g, IsZip g u wi wo (rawInt s.heap.objs.size) → IsPair g wo p q → IsI k1 g j1 m1 (n1 + 1) → IsI k2 g j2 m2 (n2 + 1) → IsPair g s.heap.objs.size p q → g.objs.size = s.heap.objs.size + 1 → Oth u wo j1 j2 s.heap g → R (.ref s.heap.objs.size) { s with heap := g }) :
    wpAny (model P w) A (Builtin.«zip.__next__» ⟨[.ref u], []⟩) (fun fin s' => ∃ v, fin = .done (.ret v) ∧ R v s') E s := by
  show wpAny _ _ (field (.ref u) 2 >>= _) _ _ _
  refine wpAny_bind (wpAny_field hu rfl (x := .bool false) rfl ?_)
  show wpAny _ _ (field (.ref u) 3 >>= _) _ _ _
  refine wpAny_bind (wpAny_field hu rfl (x := .ref wi) rfl ?_)
  refine wpAny_bind (wpAny_seqItems hw rfl ?_)
  show wpAny _ _ (Builtin.SmallTypes.ownedTupleIsFree (.ref u) >>= _) _ _ _
  refine wpAny_bind ?_
  delta Builtin.SmallTypes.ownedTupleIsFree
  refine wpAny_bind (wpAny_field hu rfl (x := .none) rfl (wpAny_pure ?_))
  simp only [if_true]
  refine wpAny_bind (wpAny_rule ?_)
  refine wpAny_bind (wpAny_field hu rfl (x := .ref wo) rfl ?_)
  refine wpAny_bind (wpAny_setField_rec hu (by simp) fun g1 hu1 c1 => ?_)
  replace hu1 : IsZip g1 u wi wo .ellipsis := hu1
  refine wpAny_bind ?_
  simp only [List.forIn_cons, List.forIn_nil, List.zipIdx_cons, List.zipIdx_nil]
  refine wpAny_bind ?_
  refine wpAny_bind (wpAny_onRaise ?_)
  show wpAny _ _ (Builtin.SmallTypes.nextOf (.ref j1) >>= _) _ _ _
  refine wpAny_bind (nx_item (t1.mv fun o x => c1.extBut _ _ Z.i1z x) (r1.mv fun o x => c1.extBut _ _ Z.l1z x) e1 fun g2 t1' c2 => wpAny_pure ?_)
  have ho2 : IsPair g2 wo a b := c2.extBut _ _ Z.TOi1 (c1.extBut _ _ Z.TOz ho)
  refine wpAny_bind (wpAny_seqItems ho2 rfl ?_)
  refine wpAny_bind (wpAny_updateSeq_pair ho2 fun g3 ho3 c3 => ?_)
  replace ho3 : IsPair g3 wo p b := ho3
  refine wpAny_bind (wpAny_letGo (wpAny_pure ?_))
  refine wpAny_bind ?_
  refine wpAny_bind (wpAny_onRaise ?_)
  show wpAny _ _ (Builtin.SmallTypes.nextOf (.ref j2) >>= _) _ _ _
  refine wpAny_bind (nx_item (t2.mv fun o x => c3.extBut _ _ Z.TOi2.symm (c2.extBut _ _ Z.i12.symm (c1.extBut _ _ Z.i2z x))) (r2.mv fun o x => c3.extBut _ _ Z.l2TO (c2.extBut _ _ Z.l2i1 (c1.extBut _ _ Z.l2z x))) e2 fun g4 t2' c4 => wpAny_pure ?_)
  have ho4 : IsPair g4 wo p b := c4.extBut _ _ Z.TOi2 ho3
  refine wpAny_bind (wpAny_seqItems ho4 rfl ?_)
  refine wpAny_bind (wpAny_updateSeq_pair ho4 fun g5 ho5 c5 => ?_)
  replace ho5 : IsPair g5 wo p q := ho5
  refine wpAny_bind (wpAny_letGo (wpAny_pure (wpAny_pure ?_)))
  refine wpAny_bind (wpAny_seqItems ho5 rfl ?_)
  refine wpAny_bind (wpAny_newTuple ?_)
  have size5 : g5.objs.size = s.heap.objs.size := by rw [c5.1, c4.1, c3.1, c2.1, c1.1]
  have hu5 : IsZip g5 u wi wo .ellipsis := c5.extBut _ _ Z.TOz.symm (c4.extBut _ _ Z.i2z.symm (c3.extBut _ _ Z.TOz.symm (c2.extBut _ _ Z.i1z.symm hu1)))
  have oth5 : Oth u wo j1 j2 s.heap g5 := fun c o d1 d2 d3 d4 x => c5.extBut _ _ d2 (c4.extBut _ _ d4 (c3.extBut _ _ d2 (c2.extBut _ _ d3 (c1.extBut _ _ d1 x))))
  have t15 : IsI k1 g5 j1 m1 (n1 + 1) := t1'.mv fun o x => c5.extBut _ _ Z.TOi1.symm (c4.extBut _ _ Z.i12 (c3.extBut _ _ Z.TOi1.symm x))
  have t25 : IsI k2 g5 j2 m2 (n2 + 1) := t2'.mv fun o x => c5.extBut _ _ Z.TOi2.symm x
  have ult : u < g5.objs.size := Heap.lt_size hu5
  show wpAny _ _ (Builtin.SmallTypes.ownedTupleHandOut (.ref u) (.ref g5.objs.size) >>= _) _ _ _
  refine wpAny_bind ?_
  delta Builtin.SmallTypes.ownedTupleHandOut
  have hu6 : IsZip (g5.push { cls := .type "tuple", data := .seq #[p, q] }) u wi wo .ellipsis := Heap.get?_push_of_some _ hu5
  refine wpAny_bind (wpAny_setField_rec hu6 (by simp) fun g7 hu7 c7 => ?_)
  replace hu7 : IsZip g7 u wi wo (rawInt g5.objs.size) := hu7
  refine wpAny_setField_rec hu7 (by simp) fun g8 hu8 c8 => ?_
  replace hu8 : IsZip g8 u wi wo (rawInt g5.objs.size) := hu8
  have later : ∀ c o, c ≠ u → g5.get? c = some o → g8.get? c = some o := fun c o d x => c8.extBut _ _ d (c7.extBut _ _ d (Heap.get?_push_of_some _ x))
  have pair8 : IsPair g8 g5.objs.size p q := c8.extBut _ _ (Nat.ne_of_gt ult) (c7.extBut _ _ (Nat.ne_of_gt ult) (Heap.get?_push_size _ rfl))
  have size8 : g8.objs.size = g5.objs.size + 1 := by rw [c8.1, c7.1, Heap.size_push]
  rw [size5] at hu8 pair8 size8
  refine wpAny_pure ⟨_, rfl, ?_⟩
  show R (.ref g5.objs.size) _
  rw [size5]
  exact hR g8 hu8 (later _ _ Z.TOz ho5) (t15.mv fun o x => later _ o Z.i1z x) (t25.mv fun o x => later _ o Z.i2z x) pair8 size8 fun c o d1 d2 d3 d4 x => later c o d1 (oth5 c o d1 d2 d3 d4 x)
theorem zip_end {R : Fin → Shared → Prop} (hh : A.handled = none) (Z : ZipApart u wi wo j1 j2 m1 m2) (hu : IsZip s.heap u wi wo .none) (hw : IsPair s.heap wi (.ref j1) (.ref j2)) (ho : IsPair s.heap wo a b)
    (t1 : IsI k1 s.heap j1 m1 n1) (t2 : IsI k2 s.heap j2 m2 n2) (r1 : IsS k1 s.heap m1 as) (r2 : IsS k2 s.heap m2 bs) (e : as[n1]? = none ∨ bs[n2]? = none)
    (hE : ∀ g x, Oth u wo j1 j2 s.heap g → (∃ o, g.get? x = some o ∧ o.cls = .type "StopIteration") → E (.ref x) { s with heap := g }) : wpAny (model P w) A (Builtin.«zip.__next__» ⟨[.ref u], []⟩) R E s := by
  show wpAny _ _ (field (.ref u) 2 >>= _) _ _ _
  refine wpAny_bind (wpAny_field hu rfl (x := .bool false) rfl ?_)
  show wpAny _ _ (field (.ref u) 3 >>= _) _ _ _
  refine wpAny_bind (wpAny_field hu rfl (x := .ref wi) rfl ?_)
  refine wpAny_bind (wpAny_seqItems hw rfl ?_)
  show wpAny _ _ (Builtin.SmallTypes.ownedTupleIsFree (.ref u) >>= _) _ _ _
  refine wpAny_bind ?_
  delta Builtin.SmallTypes.ownedTupleIsFree
  refine wpAny_bind (wpAny_field hu rfl (x := .none) rfl (wpAny_pure ?_))
  simp only [if_true]
  refine wpAny_bind (wpAny_rule ?_)
  refine wpAny_bind (wpAny_field hu rfl (x := .ref wo) rfl ?_)
  refine wpAny_bind (wpAny_setField_rec hu (by simp) fun g1 hu1 c1 => ?_)
  replace hu1 : IsZip g1 u wi wo .ellipsis := hu1
  refine wpAny_bind ?_
  simp only [List.forIn_cons, List.forIn_nil, List.zipIdx_cons, List.zipIdx_nil]
  refine wpAny_bind ?_
  refine wpAny_bind (wpAny_onRaise ?_)
  show wpAny _ _ (Builtin.SmallTypes.nextOf (.ref j1) >>= _) _ _ _
  cases e1 : as[n1]? with
  | none =>
    refine wpAny_bind (nx_end hh (t1.mv fun o x => c1.extBut _ _ Z.i1z x) (r1.mv fun o x => c1.extBut _ _ Z.l1z x) e1 fun g2 y c2 hy => ?_)
    obtain ⟨oy, ey, cy⟩ := hy
    have hu2 : IsZip g2 u wi wo .ellipsis := c2 _ _ Z.i1z.symm hu1
    have yu : y ≠ u := fun x => by subst x; rw [hu2] at ey; cases ey; simp at cy
    refine wpAny_setField_rec hu2 (by simp) fun g3 _ c3 => hE g3 y (fun c o d1 _ d3 _ x => c3.extBut _ _ d1 (c2 _ _ d3 (c1.extBut _ _ d1 x))) ⟨oy, c3.extBut _ _ yu ey, cy⟩
  | some p =>
    have e2 : bs[n2]? = none := by rcases e with e | e; rw [e1] at e; cases e; exact e
    refine wpAny_bind (nx_item (t1.mv fun o x => c1.extBut _ _ Z.i1z x) (r1.mv fun o x => c1.extBut _ _ Z.l1z x) e1 fun g2 t1' c2 => wpAny_pure ?_)
    have ho2 : IsPair g2 wo a b := c2.extBut _ _ Z.TOi1 (c1.extBut _ _ Z.TOz ho)
    refine wpAny_bind (wpAny_seqItems ho2 rfl ?_)
    refine wpAny_bind (wpAny_updateSeq_pair ho2 fun g3 ho3 c3 => ?_)
    refine wpAny_bind (wpAny_letGo (wpAny_pure ?_))
    refine wpAny_bind ?_
    refine wpAny_bind (wpAny_onRaise ?_)
    show wpAny _ _ (Builtin.SmallTypes.nextOf (.ref j2) >>= _) _ _ _
    refine wpAny_bind (nx_end hh (t2.mv fun o x => c3.extBut _ _ Z.TOi2.symm (c2.extBut _ _ Z.i12.symm (c1.extBut _ _ Z.i2z x))) (r2.mv fun o x => c3.extBut _ _ Z.l2TO (c2.extBut _ _ Z.l2i1 (c1.extBut _ _ Z.l2z x))) e2 fun g4 y c4 hy => ?_)
    obtain ⟨oy, ey, cy⟩ := hy
    have hu4 : IsZip g4 u wi wo .ellipsis := c4 _ _ Z.i2z.symm (c3.extBut _ _ Z.TOz.symm (c2.extBut _ _ Z.i1z.symm hu1))
    have yu : y ≠ u := fun x => by subst x; rw [hu4] at ey; cases ey; simp at cy
    refine wpAny_setField_rec hu4 (by simp) fun g5 _ c5 => hE g5 y (fun c o d1 d2 d3 d4 x => c5.extBut _ _ d1 (c4 _ _ d4 (c3.extBut _ _ d2 (c2.extBut _ _ d3 (c1.extBut _ _ d1 x))))) ⟨oy, c5.extBut _ _ yu ey, cy⟩
end
end L3Z

set_option Elab.async false
set_option maxRecDepth 100000
set_option linter.all false
set_option maxHeartbeats 2000000
/-! zip of sequences of either kind: the rule -/
namespace L3Z
open PySem PySem.Spec PyProof.Rows L2
section
variable {P : Program} {w : World} {A : Around} {E : Value → Shared → Prop} {s : Shared} {k1 k2 : Bool} {u wi wo j1 j2 m1 m2 : Addr} {n1 n2 : Nat} {as bs : Array Value} {p q a b : Value}
theorem py_item {R : Option Value → Shared → Prop} (Z : ZipApart u wi wo j1 j2 m1 m2) (hu : IsZip s.heap u wi wo .none) (hw : IsPair s.heap wi (.ref j1) (.ref j2)) (ho : IsPair s.heap wo a b)
    (t1 : IsI k1 s.heap j1 m1 n1) (t2 : IsI k2 s.heap j2 m2 n2) (r1 : IsS k1 s.heap m1 as) (r2 : IsS k2 s.heap m2 bs) (e1 : as[n1]? = some p) (e2 : bs[n2]? = some q)
    (hR : ∀ g, IsZip g u wi wo (rawInt s.heap.objs.size) → IsPair g wo p q → IsI k1 g j1 m1 (n1 + 1) → IsI k2 g j2 m2 (n2 + 1) → IsPair g s.heap.objs.size p q → g.objs.size = s.heap.objs.size + 1 → Oth u wo j1 j2 s.heap g → R (some (.ref s.heap.objs.size)) { s with heap := g }) :
    wpAny (model P w) A (pyNext (.ref u)) R E s := by
  have ty : s.TypeIs (.ref u) "zip" := ⟨_, hu, rfl⟩
  delta pyNext
  exact wpAny_bind (wpAny_attempt (wpAny_callSpecial?_slot (name := Str.ofString "__next__") ty F.slot_zip_next (wpAny_call_entry F.slot_zip_next ty F.entry_zip_next
    (zip_item Z hu hw ho t1 t2 r1 r2 e1 e2 fun g x1 x2 x3 x4 x5 x6 x7 => wpAny_pure (hR g x1 x2 x3 x4 x5 x6 x7)) (F.args_zip_next_1 _))))
theorem py_end {R : Option Value → Shared → Prop} (hh : A.handled = none) (Z : ZipApart u wi wo j1 j2 m1 m2) (hu : IsZip s.heap u wi wo .none) (hw : IsPair s.heap wi (.ref j1) (.ref j2)) (ho : IsPair s.heap wo a b)
    (t1 : IsI k1 s.heap j1 m1 n1) (t2 : IsI k2 s.heap j2 m2 n2) (r1 : IsS k1 s.heap m1 as) (r2 : IsS k2 s.heap m2 bs) (e : as[n1]? = none ∨ bs[n2]? = none)
    (hR : ∀ g, Oth u wo j1 j2 s.heap g → R none { s with heap := g }) : wpAny (model P w) A (pyNext (.ref u)) R E s := by
  have ty : s.TypeIs (.ref u) "zip" := ⟨_, hu, rfl⟩
  delta pyNext
  refine wpAny_bind (wpAny_attempt (wpAny_callSpecial?_slot (name := Str.ofString "__next__") ty F.slot_zip_next (wpAny_call_entry F.slot_zip_next ty F.entry_zip_next (zip_end hh Z hu hw ho t1 t2 r1 r2 e fun g x ot st => ?_) (F.args_zip_next_1 _))))
  obtain ⟨ob, eo, co⟩ := st
  refine wpAny_bind (wpAny_isInstance (T := "StopIteration") (b := true) ⟨ob, eo, co⟩ isSubtype_stop ?_)
  exact wpAny_pure (hR g ot)
end
def itc (k : Bool) : String := match k with | true => "list_iterator" | false => "tuple_iterator"
abbrev zh1 (k1 : Bool) (g : Heap) (l1 : Addr) : Heap := g.push { cls := .type (itc k1), data := .fields #[.ref l1, .int 0 0] }
abbrev zh2 (k1 k2 : Bool) (g : Heap) (l1 l2 : Addr) : Heap := (zh1 k1 g l1).push { cls := .type (itc k2), data := .fields #[.ref l2, .int 0 0] }
abbrev zh3 (k1 k2 : Bool) (g : Heap) (l1 l2 : Addr) : Heap := (zh2 k1 k2 g l1 l2).push { cls := .type "tuple", data := .seq #[.ref g.objs.size, .ref (zh1 k1 g l1).objs.size] }
abbrev zh4 (k1 k2 : Bool) (g : Heap) (l1 l2 : Addr) : Heap := (zh3 k1 k2 g l1 l2).push { cls := .type "tuple", data := .seq #[.none, .none] }
abbrev zh5 (k1 k2 : Bool) (g : Heap) (l1 l2 : Addr) : Heap := (zh4 k1 k2 g l1 l2).push { cls := .type "zip", data := .fields #[.none, .bool false, .bool false, .ref (zh2 k1 k2 g l1 l2).objs.size, .ref (zh3 k1 k2 g l1 l2).objs.size] }
theorem newLT (l1 l2 : Addr) (as bs : Array Value) :
    Meets (Builtin.«zip.__new__» ⟨[.type "zip", .ref l1, .ref l2], []⟩) (fun _ R s => IsS true s.heap l1 as ∧ IsS false s.heap l2 bs ∧ R (.ok (.ret (.ref (zh4 true false s.heap l1 l2).objs.size))) { s with heap := zh5 true false s.heap l1 l2 }) :=
  .of_wp fun prog w A R s h => by
    obtain ⟨hp, g, d, tk, os⟩ := s
    obtain ⟨q1, q2, h⟩ := h
    have isz := sub_zip
    have q1 : Heap.IsList (Shared.heap ⟨hp, g, d, tk, os⟩) l1 as := q1
    have q2 : Heap.IsTuple (Shared.heap ⟨hp.push { cls := .type "list_iterator", data := .fields #[.ref l1, .int 0 0] }, g, d, tk, os⟩) l2 bs := Heap.IsTuple.push q2 _
    wp_walk using wpAny_pyIter_list q1, wpAny_pyIter_tuple q2
    exact ⟨_, rfl, h⟩
theorem newTL (l1 l2 : Addr) (as bs : Array Value) :
    Meets (Builtin.«zip.__new__» ⟨[.type "zip", .ref l1, .ref l2], []⟩) (fun _ R s => IsS false s.heap l1 as ∧ IsS true s.heap l2 bs ∧ R (.ok (.ret (.ref (zh4 false true s.heap l1 l2).objs.size))) { s with heap := zh5 false true s.heap l1 l2 }) :=
  .of_wp fun prog w A R s h => by
    obtain ⟨hp, g, d, tk, os⟩ := s
    obtain ⟨q1, q2, h⟩ := h
    have isz := sub_zip
    have q1 : Heap.IsTuple (Shared.heap ⟨hp, g, d, tk, os⟩) l1 as := q1
    have q2 : Heap.IsList (Shared.heap ⟨hp.push { cls := .type "tuple_iterator", data := .fields #[.ref l1, .int 0 0] }, g, d, tk, os⟩) l2 bs := Heap.IsList.push q2 _
    wp_walk using wpAny_pyIter_tuple q1, wpAny_pyIter_list q2
    exact ⟨_, rfl, h⟩
section
variable {P : Program} {w : World} {A : Around} {E : Value → Shared → Prop} {s : Shared}
theorem call_mix {k : Bool} {l1 l2 : Addr} {as bs : Array Value} {R : Value → Shared → Prop} (q1 : IsS k s.heap l1 as) (q2 : IsS (!k) s.heap l2 bs)
    (h : ∀ g, IsZip g (s.heap.objs.size + 4) (s.heap.objs.size + 2) (s.heap.objs.size + 3) .none → IsPair g (s.heap.objs.size + 2) (.ref s.heap.objs.size) (.ref (s.heap.objs.size + 1)) →
      IsPair g (s.heap.objs.size + 3) .none .none → IsI k g s.heap.objs.size l1 0 → IsI (!k) g (s.heap.objs.size + 1) l2 0 → (∀ c o, s.heap.get? c = some o → g.get? c = some o) → R (.ref (s.heap.objs.size + 4)) { s with heap := g }) :
    wpAny (model P w) A (call (.type "zip") [.ref l1, .ref l2]) R E s := by
  have fin : R (.ref (zh4 k (!k) s.heap l1 l2).objs.size) { s with heap := zh5 k (!k) s.heap l1 l2 } := by
    have a1 : (zh1 k s.heap l1).objs.size = s.heap.objs.size + 1 := Heap.size_push ..
    have a2 : (zh2 k (!k) s.heap l1 l2).objs.size = s.heap.objs.size + 2 := by rw [Heap.size_push, a1]
    have a3 : (zh3 k (!k) s.heap l1 l2).objs.size = s.heap.objs.size + 3 := by rw [Heap.size_push, a2]
    have a4 : (zh4 k (!k) s.heap l1 l2).objs.size = s.heap.objs.size + 4 := by rw [Heap.size_push, a3]
    have b5 : (zh5 k (!k) s.heap l1 l2).get? (zh4 k (!k) s.heap l1 l2).objs.size = some _ := Heap.get?_push_size _ rfl
    have b4 : (zh5 k (!k) s.heap l1 l2).get? (zh3 k (!k) s.heap l1 l2).objs.size = some _ := Heap.get?_push_of_some _ (Heap.get?_push_size _ rfl)
    have b3 : (zh5 k (!k) s.heap l1 l2).get? (zh2 k (!k) s.heap l1 l2).objs.size = some _ := Heap.get?_push_of_some _ (Heap.get?_push_of_some _ (Heap.get?_push_size _ rfl))
    have b2 : (zh5 k (!k) s.heap l1 l2).get? (zh1 k s.heap l1).objs.size = some _ := Heap.get?_push_of_some _ (Heap.get?_push_of_some _ (Heap.get?_push_of_some _ (Heap.get?_push_size _ rfl)))
    have b1 : (zh5 k (!k) s.heap l1 l2).get? s.heap.objs.size = some _ := Heap.get?_push_of_some _ (Heap.get?_push_of_some _ (Heap.get?_push_of_some _ (Heap.get?_push_of_some _ (Heap.get?_push_size _ rfl))))
    rw [a2, a3, a4] at b5
    rw [a1, a2] at b3
    rw [a3] at b4
    rw [a1] at b2
    rw [a4]
    refine h _ b5 b3 b4 ?_ ?_ fun c o x => Heap.get?_push_of_some _ (Heap.get?_push_of_some _ (Heap.get?_push_of_some _ (Heap.get?_push_of_some _ (Heap.get?_push_of_some _ x))))
    · cases k <;> exact ⟨_, b1, rfl, rfl⟩
    · cases k <;> exact ⟨_, b2, rfl, rfl⟩
  cases k
  · exact callType_new F.called_zip (by decide) (F.typeCall_zip_2 _ _) (F.newCall_zip_2 _ _) (fun obj => F.args_object_init_3 obj _ _) F.entry_zip_new (newTL l1 l2 as bs) ⟨q1, q2, by show _ ∧ _; exact ⟨⟨_, Heap.get?_push_size _ rfl, rfl⟩, fin⟩⟩
  · exact callType_new F.called_zip (by decide) (F.typeCall_zip_2 _ _) (F.newCall_zip_2 _ _) (fun obj => F.args_object_init_3 obj _ _) F.entry_zip_new (newLT l1 l2 as bs) ⟨q1, q2, by show _ ∧ _; exact ⟨⟨_, Heap.get?_push_size _ rfl, rfl⟩, fin⟩⟩
end
end L3Z

set_option Elab.async false
set_option maxRecDepth 100000
set_option linter.all false
set_option maxHeartbeats 2000000
/-! zip of a list and a tuple over the hand layer -/
namespace L3
open PySem PySem.Spec PyProof.Rows L2 L3Z
def ItzM (K : PySem.W.Frag) (k1 k2 : Bool) (a b : Addr) : It :=
  ⟨fun i H => ∃ (xs ys : List V) (x y : V), SqB K H a xs k1 ∧ SqB K H b ys k2 ∧ xs[i]? = some x ∧ ys[i]? = some y,
    fun i H v H' => ∃ N x y, v = .ref N ∧ H N = none ∧ H' = upd H N (.tup [x, y]) ∧ (∀ xs, SqB K H a xs k1 → xs[i]? = some x) ∧ ∀ ys, SqB K H b ys k2 → ys[i]? = some y,
    fun i H => ∃ xs ys : List V, SqB K H a xs k1 ∧ SqB K H b ys k2 ∧ (xs.length ≤ i ∨ ys.length ≤ i)⟩
theorem sqB_at {X : Cx} {pins : List (Addr × Obj)} {σ : L2.St} {H : Hp} {s : Shared} {k : Bool} {a : Addr} {xs : List V} (I : Inv X pins σ H s) (h : SqB X.K H a xs k) : ∃ its, Vals xs its ∧ IsS k s.heap a its.toArray := by
  cases k
  · obtain ⟨its, r, p, _⟩ := I.tuple h; exact ⟨its, r, p⟩
  · obtain ⟨its, r, p, _⟩ := I.list h; exact ⟨its, r, p.isList⟩
theorem sqB_one {X : Cx} {pins : List (Addr × Obj)} {σ : L2.St} {H : Hp} {s : Shared} {k : Bool} {a : Addr} {xs ys : List V} (I : Inv X pins σ H s) (h : SqB X.K H a xs k) (g : SqB X.K H a ys k) : xs = ys := by
  cases k
  · exact I.tuple_inj h g
  · exact I.list_inj h g
theorem isS_lt {k : Bool} {g : Heap} {l : Addr} {vs : Array Value} (h : IsS k g l vs) : l < g.objs.size := by
  cases k
  · obtain ⟨o, e, _⟩ := h; exact Heap.lt_size e
  · obtain ⟨o, e, _⟩ := h; exact Heap.lt_size e
theorem turn_mix {P : Program} {w : World} {K : PySem.W.Frag} {elts : List Expr} {kk : Nat} {tpos : Pos} {k1 k2 : Bool} {a b u wi wo j1 j2 : Addr} (Z : ZipApart u wi wo j1 j2 a b) :
    Turn P w K (.Tuple elts kk tpos) (ItzM K k1 k2 a b) [u, wi, wo, j1, j2] u (fun i g => IsZip g u wi wo .none ∧ IsPair g wi (.ref j1) (.ref j2) ∧ (∃ x y, IsPair g wo x y) ∧ IsI k1 g j1 a i ∧ IsI k2 g j2 b i) := by
  have five : ∀ {c : Addr}, c ∈ [u, wi, wo, j1, j2] → c = u ∨ c = wi ∨ c = wo ∨ c = j1 ∨ c = j2 := fun {c} h => by simpa using h
  have itd : ∀ {k : Bool} {g : Heap} {i l : Addr} {n : Nat}, IsI k g i l n → ∃ o, g.get? i = some o ∧ ∀ v, o.data ≠ .cell v := fun {k g i l n} h => by
    cases k
    · obtain ⟨o, e, _, d⟩ := h; exact ⟨o, e, fun v z => by rw [d] at z; cases z⟩
    · obtain ⟨o, e, _, d⟩ := h; exact ⟨o, e, fun v z => by rw [d] at z; cases z⟩
  refine ⟨by simp, fun i g st c hc => ?_, fun i g g' st k => ?_, ?_, ?_, fun A i s Q E st h => wpAny_pyIter_zip st.1 h⟩
  · obtain ⟨su, sw, ⟨x, y, so⟩, s1, s2⟩ := st
    rcases five hc with rfl | rfl | rfl | rfl | rfl
    · exact ⟨_, su, fun v z => nomatch z⟩
    · exact ⟨_, sw, fun v z => nomatch z⟩
    · exact ⟨_, so, fun v z => nomatch z⟩
    · exact itd s1
    · exact itd s2
  · obtain ⟨su, sw, ⟨x, y, so⟩, s1, s2⟩ := st
    exact ⟨k u (by simp) _ su, k wi (by simp) _ sw, ⟨x, y, k wo (by simp) _ so⟩, s1.mv fun o z => k j1 (by simp) o z, s2.mv fun o z => k j2 (by simp) o z⟩
  · intro X hP hw hK hc i pins s σ H E I hf st hg
    subst hP hw hK
    obtain ⟨su, sw, ⟨x0, y0, so⟩, s1, s2⟩ := st
    obtain ⟨xs, ys, x, y, qa, qb, hx, hy⟩ := hg
    obtain ⟨its, rv, pa⟩ := sqB_at I qa
    obtain ⟨jts, rw_, pb⟩ := sqB_at I qb
    obtain ⟨v1, hv1, rv1⟩ := rv.get hx
    obtain ⟨v2, hv2, rv2⟩ := rw_.get hy
    have ul : u < s.heap.objs.size := Heap.lt_size su
    refine py_item Z su sw so s1 s2 pa pb (p := v1) (q := v2) (by simpa using hv1) (by simpa using hv2) fun g zu zo t1 t2 np sz ot => ?_
    refine ⟨_, rfl, wpAny_letOwnedTupleGo_zip (s := { s with heap := g }) zu fun g2 zu2 sb => ?_⟩
    have pair2 : g2.get? s.heap.objs.size = some { cls := .type "tuple", data := .seq #[v1, v2] } := (sb.2 _ (Nat.ne_of_gt ul)).trans np
    have fresh : ObjOk X.prog X.w (upd H s.heap.objs.size (.tup [x, y])) g2 s.heap.objs.size (.tup [x, y]) := ⟨Nat.le_of_ble_eq_true rfl, [v1, v2], .cons rv1 (.cons rv2 .nil), ⟨_, pair2, rfl, _, rfl⟩⟩
    have J : Inv X pins σ (upd H s.heap.objs.size (.tup [x, y])) { s with heap := g2 } := I.turnedNew (t' := s.toks) (ch := [u, wi, wo, j1, j2]) (fun c o no z => by
      have n5 : c ≠ u ∧ c ≠ wo ∧ c ≠ j1 ∧ c ≠ j2 := ⟨fun e => no (by simp [e]), fun e => no (by simp [e]), fun e => no (by simp [e]), fun e => no (by simp [e])⟩
      exact (sb.2 c n5.1).trans (ot c o n5.1 n5.2.1 n5.2.2.1 n5.2.2.2 z)) hf (Nat.le_refl _) fresh
    refine ⟨.ref s.heap.objs.size, _, J, rfl, ⟨_, x, y, rfl, I.hok.fresh (Nat.le_refl _), rfl, fun l hl => by rw [sqB_one I hl qa]; exact hx, fun l hl => by rw [sqB_one I hl qb]; exact hy⟩, ⟨zu2, ?_, ⟨v1, v2, ?_⟩, ?_, ?_⟩, fun c hcm => ?_⟩
    · exact (sb.2 _ Z.TIz).trans (ot _ _ Z.TIz Z.TITO Z.TIi1 Z.TIi2 sw)
    · exact (sb.2 _ Z.TOz).trans zo
    · exact t1.mv fun o z => (sb.2 _ Z.i1z).trans z
    · exact t2.mv fun o z => (sb.2 _ Z.i2z).trans z
    · have lt5 : c < s.heap.objs.size := by
        rcases five hcm with rfl | rfl | rfl | rfl | rfl
        · exact ul
        · exact Heap.lt_size sw
        · exact Heap.lt_size so
        · obtain ⟨_, e, _⟩ := itd s1; exact Heap.lt_size e
        · obtain ⟨_, e, _⟩ := itd s2; exact Heap.lt_size e
      rw [upd_ne (Nat.ne_of_lt lt5)]
      exact (hf c hcm).1
  · intro X hP hw hK hc i pins s σ H E I hf st hg
    subst hP hw hK
    obtain ⟨su, sw, ⟨x0, y0, so⟩, s1, s2⟩ := st
    obtain ⟨xs, ys, qa, qb, hend⟩ := hg
    obtain ⟨its, rv, pa⟩ := sqB_at I qa
    obtain ⟨jts, rw_, pb⟩ := sqB_at I qb
    have n1 := rv.length
    have n2 := rw_.length
    have over : its.toArray[i]? = none ∨ jts.toArray[i]? = none := hend.elim (fun q => .inl (by simp; omega)) fun q => .inr (by simp; omega)
    exact py_end (I.ok.hd hc) Z su sw so s1 s2 pa pb over fun g ot => ⟨rfl, I.turnedL (t' := s.toks) (ch := [u, wi, wo, j1, j2]) (fun c o no z => ot c o (fun e => no (by simp [e])) (fun e => no (by simp [e])) (fun e => no (by simp [e])) (fun e => no (by simp [e])) z) hf⟩
def iZipX (K : PySem.W.Frag) (ta : TA) : TI := fun σ H R => ta σ H fun vs H1 => ∃ a b xs ys k, vs = [.ref a, .ref b] ∧ SqB K H1 a xs k ∧ SqB K H1 b ys (!k) ∧ R (ItzM K k (!k) a b) H1
theorem pi_zipX {X : Cx} {e e2 : Expr} {ta : TA} {p pos tpos : Pos} {elts : List Expr} {kk : Nat} (hg : Gl X "zip") (hm : X.mg "zip" = none) (ha : PA X [e, e2] ta)
    (hs : starEach [e, e2] X.env = (false, eval e X.env) :: starEach [e2] X.env) (hpl : (backTo pos (starEach [e2] X.env)).any (·.1) = false) : PI X (.Tuple elts kk tpos) (.Call (.Name "zip" p) [e, e2] [] pos) (iZipX X.K ta) := by
  constructor
  intro pins s σ H R I h
  refine Call_ (ld_blt I hg hm PyProof.Rows.boot_zip (PyProof.Rows.callWith_type1 (thn (ha.run pos pins s σ H _ I h) fun us s1 q => ?_) hs hpl))
  obtain ⟨vs, H1, I1, rv, a, b, xs, ys, k, rfl, qa, qb, q⟩ := q
  cases rv with
  | cons r rr =>
  cases rr with
  | cons r' rr =>
  cases rr
  cases r
  cases r'
  obtain ⟨its, _, pa⟩ := sqB_at I1 qa
  obtain ⟨jts, _, pb⟩ := sqB_at I1 qb
  refine call_mix (k := k) pa pb fun g zu zw zo t1 t2 ot => wpAny_pyIter_zip zu ?_
  have I2 : Inv X pins σ H1 { s1 with heap := g } := I1.kept (t' := s1.toks) ot
  have new5 : ∀ c, c ∈ [s1.heap.objs.size + 4, s1.heap.objs.size + 2, s1.heap.objs.size + 3, s1.heap.objs.size, s1.heap.objs.size + 1] → FpOk X pins H1 c := fun c hcm => by
    have le : s1.heap.objs.size ≤ c := by
      simp only [List.mem_cons, List.not_mem_nil, or_false] at hcm
      omega
    exact I1.fpOk le (I1.hok.fresh le)
  exact ⟨s1.heap.objs.size + 4, [s1.heap.objs.size + 4, s1.heap.objs.size + 2, s1.heap.objs.size + 3, s1.heap.objs.size, s1.heap.objs.size + 1], _, _, H1, rfl, I2, turn_mix (PySem.W.ktu_apart s1.heap.objs.size a b (isS_lt pa) (isS_lt pb)), ⟨zu, zw, ⟨_, _, zo⟩, t1, t2⟩, new5, q⟩
theorem walk_zipM {K : PySem.W.Frag} {Γ : KG K} {F : Addr → Bool} {S : Sto} {H : Hp} {a b : Addr} {ds es : List D} {k1 k2 : Bool} {kp kq : Sto → Prop} (h1 : HeldB Γ F S H kp a ds k1) (h2 : HeldB Γ F S H kq b es k2) : WalkD Γ F S H (fun S' => kp S' ∧ kq S') ((ds.zip es).map fun z => .key [z.1, z.2]) (ItzM K k1 k2 a b) := fun F' S' H' g s k => by
  obtain ⟨xs, a1, a2⟩ := h1 F' S' H' g s k.1
  obtain ⟨ys, b1, b2⟩ := h2 F' S' H' g s k.2
  have hl : ((ds.zip es).map fun z => D.key [z.1, z.2]).length = min ds.length es.length := by simp
  rw [hl]
  refine ⟨fun i hi => ?_, ⟨xs, ys, a1, b1, ?_⟩, fun i x H2 hi y => ?_⟩
  · obtain ⟨v, e1, _⟩ := a2.get (List.getElem?_eq_getElem (show i < ds.length by omega))
    obtain ⟨w, e2, _⟩ := b2.get (List.getElem?_eq_getElem (show i < es.length by omega))
    exact ⟨xs, ys, v, w, a1, b1, e1, e2⟩
  · rw [a2.length, b2.length]
    omega
  · obtain ⟨T, u, w, rfl, hT, rfl, e1, e2⟩ := y
    obtain ⟨d, e3, r3⟩ := a2.get' (e1 xs a1)
    obtain ⟨e, e4, r4⟩ := b2.get' (e2 ys b1)
    exact ⟨_, zip_get e3 e4, s.new hT, .key (fz_new s hT) (.cons (r3.mono (same_new hT)) (.cons (r4.mono (same_new hT)) .nil))⟩
/-- a list and a tuple, either way round -/
abbrev iZipM (ta tb : DTE) : DTI := fun δ S Q => ta δ S fun x S1 => tb δ S1 fun y S2 => match itAll S2 x, itAll S2 y with
  | some p, some q => q.2.2 = !p.2.2 ∧ Q (fun S' => p.1 S' ∧ q.1 S') ((p.2.1.zip q.2.1).map fun z => .key [z.1, z.2]) S2
  | _, _ => False
section
variable {X : Cx} {Γ : KG X.K} {e e2 : Expr} {ta tb : DTE} {p pos tpos : Pos} {elts : List Expr} {kk : Nat}
theorem dpi_zipM (hg : Gl X "zip") (hm : X.mg "zip" = none) (h : DPE X Γ e ta) (h' : DPE X Γ e2 tb) (hs : starEach [e, e2] X.env = (false, eval e X.env) :: starEach [e2] X.env := by rfl) (hs2 : starEach [e2] X.env = (false, eval e2 X.env) :: starEach [] X.env := by rfl) (hpl : (backTo pos (starEach [e2] X.env)).any (·.1) = false := by rfl) :
    DPI X Γ (.Tuple elts kk tpos) (.Call (.Name "zip" p) [e, e2] [] pos) (iZipM ta tb) :=
  PIw (pi_zipX hg hm (dpa_cons h (dpa_cons h' dpa_nil hs2) hs) hs hpl) fun σ H R ⟨F, δ, S, P, sm, rs, h, c⟩ => ⟨F, δ, S, fun ds S1 => match ds with
  | [x, y] => (match itAll S1 x, itAll S1 y with
    | some p, some q => q.2.2 = !p.2.2 ∧ P (fun S' => p.1 S' ∧ q.1 S') ((p.2.1.zip q.2.1).map fun z => .key [z.1, z.2]) S1
    | _, _ => False)
  | _ => False, sm, rs, h, fun ds S1 h1 vs H1 g1 r1 => by
    rcases ds with _ | ⟨x, _ | ⟨y, _ | ⟨_, _⟩⟩⟩ <;> first | exact (h1 : False).elim | skip
    cases r1 with
    | cons r1 r2 =>
    cases r2 with
    | cons r2 r3 =>
    cases r3
    have h1 : match itAll S1 x, itAll S1 y with
      | some p, some q => q.2.2 = !p.2.2 ∧ P (fun S' => p.1 S' ∧ q.1 S') ((p.2.1.zip q.2.1).map fun z => .key [z.1, z.2]) S1
      | _, _ => False := h1
    split at h1
    · rename_i p q e1 e2
      obtain ⟨a, vs, rfl, s1, _, w1⟩ := itAll_rel g1.sim r1 e1
      obtain ⟨b, ws, rfl, s2, _, w2⟩ := itAll_rel g1.sim r2 e2
      obtain ⟨eb, h1⟩ := h1
      obtain ⟨kp, ds, pb⟩ := p
      obtain ⟨kq, es, qb⟩ := q
      simp only at eb s1 s2 w1 w2 h1
      subst eb
      exact ⟨a, b, vs, ws, pb, rfl, s1, s2, c _ _ _ h1 _ _ g1 (walk_zipM w1 w2)⟩
    · exact h1.elim⟩
end
end L3

set_option linter.all false
set_option maxHeartbeats 1000000
namespace L3.KL
/-! statements and the rows that they lay -/
inductive Stm where
  | deed (d : Nat) | call (w : Nat) | back | either (bs : List (List Stm)) | loop (b : List Stm) | rep (n : Nat) (b : List Stm)
inductive Rw where
  | deed (d : Nat) (t : Nat) | call (w : Nat) (t : Nat) | choose (ts : List Nat) | ret
  deriving DecidableEq
mutual
/-- lays nothing -/
def ln : Stm → Bool
  | .rep n b => n == 0 || lnA b
  | .deed _ => false
  | .call _ => false
  | .back => false
  | .either _ => false
  | .loop _ => false
def lnA : List Stm → Bool
  | [] => true
  | s :: b => ln s && lnA b
end
mutual
/-- goes back at once -/
def isB : Stm → Bool
  | .back => true
  | .rep n b => n != 0 && once b
  | .deed _ => false
  | .call _ => false
  | .either _ => false
  | .loop _ => false
def once : List Stm → Bool
  | [] => false
  | s :: b => if ln s then once b else isB s
end
mutual
def cnt : Stm → Nat
  | .deed _ => 1
  | .call _ => 1
  | .back => 0
  | .either bs => 1 + cntC bs
  | .loop b => 1 + cntB b
  | .rep n b => n * cntB b
def cntB : List Stm → Nat
  | [] => 0
  | s :: b => if isB s then 0 else cnt s + cntB b
def cntC : List (List Stm) → Nat
  | [] => 0
  | b :: bs => cntB b + cntC bs
end
/-- a lap behind another: f n T is the entry of a body at n with T behind -/
def laps (f : Nat → Nat → Nat) (c : Nat) : Nat → Nat → Nat → Nat
  | 0, _, T => T
  | k + 1, n, T => f n (laps f c k (n + c) T)
mutual
/-- the row at which one enters -/
def ent : Stm → Nat → Nat → Nat → Nat
  | .rep k b, n, T, L => laps (fun n T => entB b n T L) (cntB b) k n T
  | .back, _, _, L => L
  | .deed _, n, _, _ => n
  | .call _, n, _, _ => n
  | .either _, n, _, _ => n
  | .loop _, n, _, _ => n
def entB : List Stm → Nat → Nat → Nat → Nat
  | [], _, T, _ => T
  | s :: b, n, T, L => if isB s then L else ent s n (entB b (n + cnt s) T L) L
end
def entC : List (List Stm) → Nat → Nat → Nat → List Nat
  | [], _, _, _ => []
  | b :: bs, n, T, L => entB b n T L :: entC bs (n + cntB b) T L
/-- the rows of laps -/
def lapR (f : Nat → Nat → Nat) (g : Nat → Nat → List Rw) (c : Nat) : Nat → Nat → Nat → List Rw
  | 0, _, _ => []
  | k + 1, n, T => g n (laps f c k (n + c) T) ++ lapR f g c k (n + c) T
mutual
def rows : Stm → Nat → Nat → Nat → List Rw
  | .deed d, _, T, _ => [.deed d T]
  | .call w, _, T, _ => [.call w T]
  | .back, _, _, _ => []
  | .either bs, n, T, L => .choose (entC bs (n + 1) T L) :: rowsC bs (n + 1) T L
  | .loop b, n, T, L => .choose [entB b (n + 1) n L, T] :: rowsB b (n + 1) n L
  | .rep k b, n, T, L => lapR (fun n T => entB b n T L) (fun n T => rowsB b n T L) (cntB b) k n T
def rowsB : List Stm → Nat → Nat → Nat → List Rw
  | [], _, _, _ => []
  | s :: b, n, T, L => if isB s then [] else rows s n (entB b (n + cnt s) T L) L ++ rowsB b (n + cnt s) T L
def rowsC : List (List Stm) → Nat → Nat → Nat → List Rw
  | [], _, _, _ => []
  | b :: bs, n, T, L => rowsB b n T L ++ rowsC bs (n + cntB b) T L
end
/-- the rows of a word -/
def word (b : List Stm) : List Rw := rowsB b 0 (cntB b) (cntB b) ++ [.ret]
/-! how many -/
theorem lapR_len {f : Nat → Nat → Nat} {g : Nat → Nat → List Rw} {c : Nat} (h : ∀ n T, (g n T).length = c) : ∀ k n T, (lapR f g c k n T).length = k * c
  | 0, _, _ => by simp [lapR]
  | k + 1, n, T => by rw [lapR, List.length_append, h, lapR_len h k, Nat.add_mul, Nat.one_mul, Nat.add_comm]
mutual
theorem rows_len : ∀ (s : Stm) (n T L : Nat), (rows s n T L).length = cnt s
  | .deed _, _, _, _ => by simp [rows, cnt]
  | .call _, _, _, _ => by simp [rows, cnt]
  | .back, _, _, _ => by simp [rows, cnt]
  | .either bs, n, T, L => by rw [rows, cnt, List.length_cons, rowsC_len bs]; omega
  | .loop b, n, T, L => by rw [rows, cnt, List.length_cons, rowsB_len b]; omega
  | .rep k b, n, T, L => by rw [rows, cnt, lapR_len fun n T => rowsB_len b n T L]
theorem rowsB_len : ∀ (b : List Stm) (n T L : Nat), (rowsB b n T L).length = cntB b
  | [], _, _, _ => by simp [rowsB, cntB]
  | s :: b, n, T, L => by
    rw [rowsB, cntB]
    cases isB s with
    | true => rfl
    | false =>
      simp only [Bool.false_eq_true, if_false]
      rw [List.length_append, rows_len s, rowsB_len b]
theorem rowsC_len : ∀ (bs : List (List Stm)) (n T L : Nat), (rowsC bs n T L).length = cntC bs
  | [], _, _, _ => by simp [rowsC, cntC]
  | b :: bs, n, T, L => by rw [rowsC, cntC, List.length_append, rowsB_len b, rowsC_len bs]
end
/-! what lays nothing -/
theorem laps_id {f : Nat → Nat → Nat} (h : ∀ n T, f n T = T) (c : Nat) : ∀ k n T, laps f c k n T = T
  | 0, _, _ => rfl
  | k + 1, n, T => by rw [laps, h, laps_id h c k]
theorem ln_notB : ∀ (s : Stm), ln s = true → isB s = false
  | .rep n b, h => by
    rw [ln, Bool.or_eq_true] at h
    rw [isB]
    rcases h with h | h
    · simp at h; simp [h]
    · have : ∀ b : List Stm, lnA b = true → once b = false := fun b => by
        induction b with
        | nil => intro _; rfl
        | cons s b ih =>
          intro h
          rw [lnA, Bool.and_eq_true] at h
          rw [once, if_pos h.1, ih h.2]
      rw [this b h, Bool.and_false]
mutual
theorem ln_cnt : ∀ (s : Stm), ln s = true → cnt s = 0 ∧ ∀ n T L, ent s n T L = T
  | .rep n b, h => by
    rw [ln, Bool.or_eq_true] at h
    rw [cnt]
    by_cases z : n = 0
    · subst z
      exact ⟨Nat.zero_mul _, fun n T L => by rw [ent, laps]⟩
    · have hb := lnA_cnt b (by
        rcases h with h | h
        · simp at h; exact absurd h z
        · exact h)
      exact ⟨by rw [hb.1, Nat.mul_zero], fun n T L => by rw [ent]; exact laps_id (fun n T => hb.2 n T L) _ _ _ _⟩
theorem lnA_cnt : ∀ (b : List Stm), lnA b = true → cntB b = 0 ∧ ∀ n T L, entB b n T L = T
  | [], _ => ⟨by rw [cntB], fun _ _ _ => by rw [entB]⟩
  | s :: b, h => by
    rw [lnA, Bool.and_eq_true] at h
    have h1 := ln_cnt s h.1
    have h2 := lnA_cnt b h.2
    have h3 := ln_notB s h.1
    rw [cntB, h3]
    refine ⟨by simp [h1.1, h2.1], fun n T L => ?_⟩
    rw [entB, h3]
    simp only [Bool.false_eq_true, if_false]
    rw [h1.2, h2.2]
end
theorem ln_rows {s : Stm} (h : ln s = true) (n T L : Nat) : rows s n T L = [] := List.eq_nil_of_length_eq_zero (by rw [rows_len, (ln_cnt s h).1])
theorem ln_skip {s : Stm} (h : ln s = true) (b : List Stm) (n T L : Nat) : entB (s :: b) n T L = entB b n T L ∧ rowsB (s :: b) n T L = rowsB b n T L ∧ cntB (s :: b) = cntB b := by
  have h1 := ln_cnt s h
  rw [entB, rowsB, cntB, ln_notB s h, ln_rows h, h1.1, h1.2]
  simp
/-! marks -/
inductive MV where
  | row (r : Nat) | like (m : Nat)
abbrev Mk := Nat → Option MV
inductive Res (M : Mk) : Nat → Nat → Nat → Prop
  | row {m r : Nat} : M m = some (.row r) → Res M 0 m r
  | like {d m m' r : Nat} : M m = some (.like m') → Res M d m' r → Res M (d + 1) m r
def Rs (M : Mk) (m r : Nat) : Prop := ∃ d, Res M d m r
theorem Rs.row {M : Mk} {m r : Nat} (h : M m = some (.row r)) : Rs M m r := ⟨0, .row h⟩
theorem Rs.like {M : Mk} {m m' r : Nat} (h : M m = some (.like m')) (k : Rs M m' r) : Rs M m r := by
  obtain ⟨d, k⟩ := k
  exact ⟨d + 1, .like h k⟩
/-- rows with marks -/
inductive Mr where
  | deed (d : Nat) (t : Nat) | call (w : Nat) (t : Nat) | choose (ts : List Nat) | ret
inductive All2 {α β : Type} (R : α → β → Prop) : List α → List β → Prop
  | nil : All2 R [] []
  | cons {a : α} {b : β} {l : List α} {m : List β} : R a b → All2 R l m → All2 R (a :: l) (b :: m)
theorem All2.append {α β : Type} {R : α → β → Prop} : ∀ {a c : List α} {b d : List β}, All2 R a b → All2 R c d → All2 R (a ++ c) (b ++ d)
  | _, _, _, _, .nil, h => h
  | _, _, _, _, .cons x h, k => .cons x (h.append k)
theorem All2.len {α β : Type} {R : α → β → Prop} : ∀ {a : List α} {b : List β}, All2 R a b → a.length = b.length
  | _, _, .nil => rfl
  | _, _, .cons _ h => by rw [List.length_cons, List.length_cons, h.len]
/-- what a row with marks comes to -/
inductive RR (M : Mk) : Mr → Rw → Prop
  | deed {d t r : Nat} : Rs M t r → RR M (.deed d t) (.deed d r)
  | call {w t r : Nat} : Rs M t r → RR M (.call w t) (.call w r)
  | choose {ts rs : List Nat} : All2 (Rs M) ts rs → RR M (.choose ts) (.choose rs)
  | ret : RR M .ret .ret
/-- marks set: those of K; what holds under all later marks -/
structure Ly (M0 M1 : Mk) (K : Nat → Prop) (G : Mk → Prop) : Prop where
  keep : ∀ m, ¬ K m → M1 m = M0 m
  use : ∀ M : Mk, (∀ m, K m → M m = M1 m) → G M
theorem Ly.seq {M0 M1 M2 : Mk} {K1 K2 K : Nat → Prop} {G1 G2 G : Mk → Prop} (h1 : Ly M0 M1 K1 G1) (h2 : Ly M1 M2 K2 G2) (dj : ∀ m, K1 m → ¬ K2 m) (sub : ∀ m, K1 m ∨ K2 m → K m) (g : ∀ M, G1 M → G2 M → G M) : Ly M0 M2 K G :=
  ⟨fun m h => (h2.keep m fun k => h (sub m (.inr k))).trans (h1.keep m fun k => h (sub m (.inl k))), fun M h => g M (h1.use M fun m k => (h m (sub m (.inl k))).trans (h2.keep m (dj m k))) (h2.use M fun m k => h m (sub m (.inr k)))⟩
def mset (M : Mk) (m : Nat) (v : MV) : Mk := fun u => if u = m then some v else M u
theorem Ly.set {M : Mk} {m : Nat} {v : MV} {G : Mk → Prop} (g : ∀ M' : Mk, M' m = some v → G M') : Ly M (mset M m v) (fun u => u = m) G :=
  ⟨fun u h => if_neg h, fun M' h => g M' (by rw [h m rfl]; exact if_pos rfl)⟩
theorem Ly.imp {M0 M1 : Mk} {K K' : Nat → Prop} {G G' : Mk → Prop} (h : Ly M0 M1 K G) (k : ∀ m, K m → K' m) (g : ∀ M, G M → G' M) : Ly M0 M1 K' G' :=
  ⟨fun m n => h.keep m fun z => n (k m z), fun M a => g M (h.use M fun m z => a m (k m z))⟩
/-- keys: one of before, and those made since -/
def Ks (b N N' : Nat) (m : Nat) : Prop := m = b ∨ (N ≤ m ∧ m < N')
def GB (begin_ behind last : Nat) (nr : List Mr) (n : Nat) (b : List Stm) (M : Mk) : Prop := ∀ T L, Rs M behind T → Rs M last L → Rs M begin_ (entB b n T L) ∧ All2 (RR M) nr (rowsB b n T L)
def GS (here there last : Nat) (nr : List Mr) (n : Nat) (s : Stm) (M : Mk) : Prop := ∀ T L, Rs M there T → Rs M last L → Rs M here (ent s n T L) ∧ All2 (RR M) nr (rows s n T L)
def GR (here there last : Nat) (nr : List Mr) (n k : Nat) (b : List Stm) (M : Mk) : Prop := ∀ T L, Rs M there T → Rs M last L → Rs M here (laps (fun n T => entB b n T L) (cntB b) k n T) ∧ All2 (RR M) nr (lapR (fun n T => entB b n T L) (fun n T => rowsB b n T L) (cntB b) k n T)
def GC (begins : List Nat) (there last : Nat) (nr : List Mr) (n : Nat) (bs : List (List Stm)) (M : Mk) : Prop := ∀ T L, Rs M there T → Rs M last L → All2 (Rs M) begins (entC bs n T L) ∧ All2 (RR M) nr (rowsC bs n T L)
abbrev LyB (M0 M1 : Mk) (N N' begin_ behind last : Nat) (nr : List Mr) (n : Nat) (b : List Stm) : Prop := Ly M0 M1 (Ks begin_ N N') (GB begin_ behind last nr n b)
abbrev LyS (M0 M1 : Mk) (N N' here there last : Nat) (nr : List Mr) (n : Nat) (s : Stm) : Prop := Ly M0 M1 (Ks here N N') (GS here there last nr n s)
abbrev LyR (M0 M1 : Mk) (N N' here there last : Nat) (nr : List Mr) (n k : Nat) (b : List Stm) : Prop := Ly M0 M1 (Ks here N N') (GR here there last nr n k b)
theorem LyB.nil {M : Mk} {N begin_ behind last n : Nat} : LyB M (mset M begin_ (.like behind)) N N begin_ behind last [] n [] :=
  (Ly.set (G := GB begin_ behind last [] n []) fun M' h T L hT _ => by rw [entB, rowsB]; exact ⟨.like h hT, .nil⟩).imp (fun m h => .inl h) fun _ h => h
theorem LyB.back {M : Mk} {N begin_ behind last n : Nat} {s : Stm} {b : List Stm} (e : isB s = true) : LyB M (mset M begin_ (.like last)) N N begin_ behind last [] n (s :: b) :=
  (Ly.set (G := GB begin_ behind last [] n (s :: b)) fun M' h T L _ hL => by rw [entB, rowsB, e]; exact ⟨.like h hL, .nil⟩).imp (fun m h => .inl h) fun _ h => h
theorem LyB.cons {M0 M1 M2 : Mk} {N N1 N' begin_ behind last n : Nat} {nr1 nr2 : List Mr} {s : Stm} {b : List Stm} (e : isB s = false) (hb : begin_ < N) (h1 : N + 1 ≤ N1) (h2 : N1 ≤ N')
    (a : LyS M0 M1 (N + 1) N1 begin_ N last nr1 n s) (c : LyB M1 M2 N1 N' N behind last nr2 (n + cnt s) b) : LyB M0 M2 N N' begin_ behind last (nr1 ++ nr2) n (s :: b) :=
  a.seq c (fun m h k => by unfold Ks at h k; omega) (fun m h => by unfold Ks at h ⊢; omega) fun M g1 g2 T L hT hL => by
    obtain ⟨k1, k2⟩ := g2 T L hT hL
    obtain ⟨k3, k4⟩ := g1 _ L k1 hL
    rw [entB, rowsB, e]
    exact ⟨k3, k4.append k2⟩
theorem LyB.skip {M0 M1 : Mk} {N N' begin_ behind last n : Nat} {nr : List Mr} {s : Stm} {b : List Stm} (e : ln s = true) (c : LyB M0 M1 N N' begin_ behind last nr n b) : LyB M0 M1 N N' begin_ behind last nr n (s :: b) :=
  c.imp (fun _ h => h) fun M g T L hT hL => by
    obtain ⟨e1, e2, _⟩ := ln_skip e b n T L
    rw [e1, e2]
    exact g T L hT hL
theorem LyR.zero {M : Mk} {N here there last n : Nat} {b : List Stm} : LyR M (mset M here (.like there)) N N here there last [] n 0 b :=
  (Ly.set (G := GR here there last [] n 0 b) fun M' h T L hT _ => ⟨.like h hT, .nil⟩).imp (fun m h => .inl h) fun _ h => h
theorem LyR.succ {M0 M1 M2 : Mk} {N N1 N' here there last n k : Nat} {nr1 nr2 : List Mr} {b : List Stm} (hb : here < N) (h1 : N + 1 ≤ N1) (h2 : N1 ≤ N')
    (a : LyB M0 M1 (N + 1) N1 here N last nr1 n b) (c : LyR M1 M2 N1 N' N there last nr2 (n + cntB b) k b) : LyR M0 M2 N N' here there last (nr1 ++ nr2) n (k + 1) b :=
  a.seq c (fun m h k => by unfold Ks at h k; omega) (fun m h => by unfold Ks at h ⊢; omega) fun M g1 g2 T L hT hL => by
    obtain ⟨k1, k2⟩ := g2 T L hT hL
    obtain ⟨k3, k4⟩ := g1 _ L k1 hL
    exact ⟨k3, k4.append k2⟩
/-- the last lap goes on to there itself -/
theorem LyR.one {M0 M1 : Mk} {N N' here there last n : Nat} {nr : List Mr} {b : List Stm} (a : LyB M0 M1 N N' here there last nr n b) : LyR M0 M1 N N' here there last nr n 1 b :=
  a.imp (fun _ h => h) fun M g T L hT hL => by
    obtain ⟨k1, k2⟩ := g T L hT hL
    refine ⟨k1, ?_⟩
    show All2 _ _ (_ ++ [])
    rw [List.append_nil]
    exact k2
theorem LyS.rep {M0 M1 : Mk} {N N' here there last n k : Nat} {nr : List Mr} {b : List Stm} (a : LyR M0 M1 N N' here there last nr n k b) : LyS M0 M1 N N' here there last nr n (.rep k b) :=
  a.imp (fun _ h => h) fun M g T L hT hL => by rw [ent, rows]; exact g T L hT hL
theorem LyS.deed {M : Mk} {N here there last n d : Nat} : LyS M (mset M here (.row n)) N N here there last [.deed d there] n (.deed d) :=
  (Ly.set (G := GS here there last [.deed d there] n (.deed d)) fun M' h T L hT _ => by rw [ent, rows]; exact ⟨.row h, .cons (.deed hT) .nil⟩).imp (fun m h => .inl h) fun _ h => h
theorem LyS.call {M : Mk} {N here there last n d : Nat} : LyS M (mset M here (.row n)) N N here there last [.call d there] n (.call d) :=
  (Ly.set (G := GS here there last [.call d there] n (.call d)) fun M' h T L hT _ => by rw [ent, rows]; exact ⟨.row h, .cons (.call hT) .nil⟩).imp (fun m h => .inl h) fun _ h => h
/-- a loop: its first row is put, then its body is laid -/
theorem LyS.loop {M0 M1 : Mk} {N N' here there last n : Nat} {nr : List Mr} {b : List Stm} (hb : here < N) (hN : N + 1 ≤ N') (a : LyB (mset M0 here (.row n)) M1 (N + 1) N' N here last nr (n + 1) b) :
    LyS M0 M1 N N' here there last (.choose [N, there] :: nr) n (.loop b) :=
  (Ly.set (M := M0) (m := here) (v := .row n) (G := fun M => Rs M here n) fun M' h => .row h).seq a (fun m h k => by unfold Ks at k; omega) (fun m h => by unfold Ks at h ⊢; omega) fun M g1 g2 T L hT hL => by
    obtain ⟨k1, k2⟩ := g2 n L g1 hL
    rw [ent, rows]
    exact ⟨g1, .cons (.choose (.cons k1 (.cons hT .nil))) k2⟩
theorem LyS.either {M0 M1 : Mk} {K : Nat → Prop} {N N' here there last n : Nat} {nr : List Mr} {begins : List Nat} {bs : List (List Stm)} (hK : ∀ m, K m → m ≠ here ∧ N ≤ m ∧ m < N') (a : Ly (mset M0 here (.row n)) M1 K (GC begins there last nr (n + 1) bs)) :
    LyS M0 M1 N N' here there last (.choose begins :: nr) n (.either bs) :=
  (Ly.set (M := M0) (m := here) (v := .row n) (G := fun M => Rs M here n) fun M' h => .row h).seq a (fun m h k => (hK m k).1 h) (fun m h => by unfold Ks; rcases h with h | h; exact .inl h; exact .inr (hK m h).2) fun M g1 g2 T L hT hL => by
    obtain ⟨k1, k2⟩ := g2 T L hT hL
    rw [ent, rows]
    exact ⟨g1, .cons (.choose k1) k2⟩
theorem GC.nil {M : Mk} {there last n : Nat} : Ly M M (fun _ => False) (GC [] there last [] n []) := ⟨fun _ _ => rfl, fun M' _ T L _ _ => by rw [entC, rowsC]; exact ⟨.nil, .nil⟩⟩
theorem GC.cons {M0 M1 M2 : Mk} {K1 K2 K : Nat → Prop} {b0 there last n : Nat} {nr1 nr2 : List Mr} {begins : List Nat} {b : List Stm} {bs : List (List Stm)} (a : Ly M0 M1 K1 (GB b0 there last nr1 n b)) (c : Ly M1 M2 K2 (GC begins there last nr2 (n + cntB b) bs))
    (dj : ∀ m, K1 m → ¬ K2 m) (sub : ∀ m, K1 m ∨ K2 m → K m) : Ly M0 M2 K (GC (b0 :: begins) there last (nr1 ++ nr2) n (b :: bs)) :=
  a.seq c dj sub fun M g1 g2 T L hT hL => by
    obtain ⟨k1, k2⟩ := g1 T L hT hL
    obtain ⟨k3, k4⟩ := g2 T L hT hL
    rw [entC, rowsC]
    exact ⟨.cons k1 k3, k2.append k4⟩
/-! sizes -/
mutual
def nx : Stm → Nat
  | .deed _ => 0
  | .call _ => 0
  | .back => 0
  | .either bs => bs.length + nxC bs
  | .loop b => 1 + nxB b
  | .rep n b => n * (1 + nxB b)
def nxB : List Stm → Nat
  | [] => 0
  | s :: b => 1 + nx s + nxB b
def nxC : List (List Stm) → Nat
  | [] => 0
  | b :: bs => nxB b + nxC bs
end
mutual
def hS : Stm → Nat
  | .deed _ => 1
  | .call _ => 1
  | .back => 1
  | .either bs => 1 + hC bs
  | .loop b => 1 + hB b
  | .rep _ b => 1 + hB b
def hB : List Stm → Nat
  | [] => 1
  | s :: b => max (1 + hS s) (hB b)
def hC : List (List Stm) → Nat
  | [] => 0
  | b :: bs => max (hB b) (hC bs)
end
mutual
theorem cnt_nx : ∀ s : Stm, cnt s ≤ 1 + nx s
  | .deed _ => by rw [cnt, nx]; omega
  | .call _ => by rw [cnt, nx]; omega
  | .back => by rw [cnt, nx]; omega
  | .either bs => by rw [cnt, nx]; have := cntC_nx bs; omega
  | .loop b => by rw [cnt, nx]; have := cntB_nx b; omega
  | .rep k b => by
    rw [cnt, nx]
    have := Nat.mul_le_mul_left k (cntB_nx b)
    have h : k * (1 + nxB b) = k + k * nxB b := by rw [Nat.mul_add, Nat.mul_one]
    omega
theorem cntB_nx : ∀ b : List Stm, cntB b ≤ nxB b
  | [] => by rw [cntB, nxB]; omega
  | s :: b => by
    rw [cntB, nxB]
    have h1 := cnt_nx s
    have h2 := cntB_nx b
    split <;> omega
theorem cntC_nx : ∀ bs : List (List Stm), cntC bs ≤ nxC bs
  | [] => by rw [cntC, nxC]; omega
  | b :: bs => by rw [cntC, nxC]; have := cntB_nx b; have := cntC_nx bs; omega
end
theorem hS_mem {s : Stm} : ∀ {b : List Stm}, s ∈ b → 1 + hS s ≤ hB b
  | _ :: b, h => by
    rw [hB]
    rcases List.mem_cons.mp h with rfl | h
    · exact Nat.le_max_left _ _
    · exact Nat.le_trans (hS_mem h) (Nat.le_max_right _ _)
theorem hB_mem {b : List Stm} : ∀ {bs : List (List Stm)}, b ∈ bs → hB b ≤ hC bs
  | _ :: bs, h => by
    rw [hC]
    rcases List.mem_cons.mp h with rfl | h
    · exact Nat.le_max_left _ _
    · exact Nat.le_trans (hB_mem h) (Nat.le_max_right _ _)
end L3.KL

set_option linter.all false
set_option maxHeartbeats 1000000
namespace L3.KL
mutual
/-- deeds below nd -/
def okS (nd : Nat) : Stm → Bool
  | .deed d => d < nd
  | .call _ => true
  | .back => true
  | .either bs => okC nd bs
  | .loop b => okB nd b
  | .rep _ b => okB nd b
def okB (nd : Nat) : List Stm → Bool
  | [] => true
  | s :: b => okS nd s && okB nd b
def okC (nd : Nat) : List (List Stm) → Bool
  | [] => true
  | b :: bs => okB nd b && okC nd bs
end
def okR (nd : Nat) : Rw → Prop
  | .deed d _ => d < nd
  | _ => True
def Rok (nd m : Nat) (x : Rw) : Prop := okR nd x ∧ ∀ ts, x = .choose ts → ts.length ≤ m
theorem Rok.mono {nd m m' : Nat} {x : Rw} (h : Rok nd m x) (k : m ≤ m') : Rok nd m' x := ⟨h.1, fun ts e => Nat.le_trans (h.2 ts e) k⟩
theorem mem_lapR {f : Nat → Nat → Nat} {g : Nat → Nat → List Rw} {c : Nat} {x : Rw} : ∀ {k n T : Nat}, x ∈ lapR f g c k n T → ∃ n' T', x ∈ g n' T' ∧ 0 < k
  | 0, _, _, h => by cases h
  | k + 1, n, T, h => by
    rw [lapR] at h
    rcases List.mem_append.mp h with h | h
    · exact ⟨_, _, h, Nat.succ_pos k⟩
    · obtain ⟨a, b, c, _⟩ := mem_lapR h
      exact ⟨a, b, c, Nat.succ_pos k⟩
theorem entC_len : ∀ (bs : List (List Stm)) (n T L : Nat), (entC bs n T L).length = bs.length
  | [], _, _, _ => by rw [entC]; rfl
  | b :: bs, n, T, L => by rw [entC, List.length_cons, List.length_cons, entC_len bs]
mutual
theorem rows_ok (nd : Nat) : ∀ (s : Stm) (n T L : Nat), okS nd s = true → ∀ x ∈ rows s n T L, Rok nd (nx s + 2) x
  | .deed d, n, T, L, h, x, hx => by
    rw [rows] at hx
    rw [List.mem_singleton.mp hx]
    rw [okS] at h
    exact ⟨(of_decide_eq_true h : d < nd), fun ts e => by cases e⟩
  | .call d, n, T, L, h, x, hx => by
    rw [rows] at hx
    rw [List.mem_singleton.mp hx]
    exact ⟨trivial, fun ts e => by cases e⟩
  | .back, n, T, L, h, x, hx => by
    rw [rows] at hx
    cases hx
  | .either bs, n, T, L, h, x, hx => by
    rw [rows] at hx
    rw [okS] at h
    rw [nx]
    rcases List.mem_cons.mp hx with rfl | hx
    · exact ⟨trivial, fun ts e => by cases e; rw [entC_len]; omega⟩
    · exact (rowsC_ok nd bs _ _ _ h x hx).mono (by omega)
  | .loop b, n, T, L, h, x, hx => by
    rw [rows] at hx
    rw [okS] at h
    rw [nx]
    rcases List.mem_cons.mp hx with rfl | hx
    · exact ⟨trivial, fun ts e => by cases e; simp⟩
    · exact (rowsB_ok nd b _ _ _ h x hx).mono (by omega)
  | .rep k b, n, T, L, h, x, hx => by
    rw [rows] at hx
    rw [okS] at h
    rw [nx]
    obtain ⟨n', T', h1, h2⟩ := mem_lapR hx
    refine (rowsB_ok nd b _ _ _ h x h1).mono ?_
    have := Nat.le_mul_of_pos_left (1 + nxB b) h2
    omega
theorem rowsB_ok (nd : Nat) : ∀ (b : List Stm) (n T L : Nat), okB nd b = true → ∀ x ∈ rowsB b n T L, Rok nd (nxB b + 2) x
  | [], n, T, L, h, x, hx => by rw [rowsB] at hx; cases hx
  | s :: b, n, T, L, h, x, hx => by
    rw [rowsB] at hx
    rw [okB, Bool.and_eq_true] at h
    rw [nxB]
    split at hx
    · cases hx
    · rcases List.mem_append.mp hx with hx | hx
      · exact (rows_ok nd s _ _ _ h.1 x hx).mono (by omega)
      · exact (rowsB_ok nd b _ _ _ h.2 x hx).mono (by omega)
theorem rowsC_ok (nd : Nat) : ∀ (bs : List (List Stm)) (n T L : Nat), okC nd bs = true → ∀ x ∈ rowsC bs n T L, Rok nd (nxC bs + 2) x
  | [], n, T, L, h, x, hx => by rw [rowsC] at hx; cases hx
  | b :: bs, n, T, L, h, x, hx => by
    rw [rowsC] at hx
    rw [okC, Bool.and_eq_true] at h
    rw [nxC]
    rcases List.mem_append.mp hx with hx | hx
    · exact (rowsB_ok nd b _ _ _ h.1 x hx).mono (by omega)
    · exact (rowsC_ok nd bs _ _ _ h.2 x hx).mono (by omega)
end
theorem word_ok {nd : Nat} {b : List Stm} (h : okB nd b = true) : ∀ x ∈ word b, Rok nd (nxB b + 2) x := fun x hx => by
  unfold word at hx
  rcases List.mem_append.mp hx with hx | hx
  · exact rowsB_ok nd b _ _ _ h x hx
  · rw [List.mem_singleton.mp hx]; exact ⟨trivial, fun ts e => by cases e⟩
theorem word_len (b : List Stm) : (word b).length = cntB b + 1 := by
  unfold word
  rw [List.length_append, rowsB_len]
  rfl
/-- a word laid: its last row put -/
theorem word_laid {M0 M1 : Mk} {N N' la bg : Nat} {nr : List Mr} {b : List Stm} (a : Ly M0 M1 (Ks bg N N') (GB bg la la nr 0 b)) (hl : la < N) (hb : la ≠ bg) (hn : nr.length = cntB b) : All2 (RR (mset M1 la (.row nr.length))) (nr ++ [.ret]) (word b) := by
  have g := a.use (mset M1 la (.row nr.length)) fun m hm => if_neg fun e => by unfold Ks at hm; omega
  have r : Rs (mset M1 la (.row nr.length)) la (cntB b) := .row (by rw [← hn]; exact if_pos rfl)
  exact (g _ _ r r).2.append (.cons .ret .nil)
end L3.KL

set_option Elab.async false
set_option maxRecDepth 100000
set_option linter.all false
set_option maxHeartbeats 4000000
namespace L3
open PySem L2 L3.KL
local macro_rules | `(tactic| walk_at "cond") => `(tactic| first | omega | (simp only [List.length_append, List.length_cons, List.length_nil, List.length_take, List.length_drop, List.length_map, List.length_reverse]; omega) | rfl | decide)
local macro_rules | `(tactic| walk_at "side") => `(tactic| first | assumption | omega | (simp only [List.length_append, List.length_cons, List.length_nil, List.length_take, List.length_drop, List.length_map, List.length_reverse, sizeLine_val]; omega) | decide)
local macro_rules | `(tactic| walk_at "st") => `(tactic| first
  | with_reducible refine st_ix0 ?_ | with_reducible refine st_ix1 ?_ | with_reducible refine st_ix2 ?_ | with_reducible refine st_ix3 ?_ | with_reducible refine st_ix4 ?_
  | with_reducible refine st_add_pp (by walk_at "side") ?_ | with_reducible refine st_add_p1 (by walk_at "side") ?_ | with_reducible refine st_add_1p (by walk_at "side") ?_
  | with_reducible refine st_add ?_ | with_reducible refine st_sub ?_ | with_reducible refine st_iadd ?_ | with_reducible refine st_neg ?_
  | with_reducible refine st_len_p ?_ | with_reducible refine st_len_lp ?_ | with_reducible refine st_len_rp ?_ | with_reducible refine st_len_t ?_ | with_reducible refine st_len_l ?_
  | with_reducible refine st_add_t (by walk_at "side") ?_ | with_reducible refine st_add_l (by walk_at "side") ?_ | with_reducible refine st_add_s (by walk_at "side") ?_
  | with_reducible refine st_tru_bl ?_ | with_reducible refine st_tru_int ?_ | with_reducible refine st_tru_tup ?_ | with_reducible refine st_tru_lst ?_ | with_reducible refine st_tru_non ?_
  | with_reducible refine st_at (by assumption) ?_ | with_reducible refine st_atl (by assumption) ?_
  | with_reducible refine st_iteT ?_ | with_reducible refine st_iteF ?_ | with_reducible refine st_not ?_
  | with_reducible refine st_lt ?_ | with_reducible refine st_le ?_ | with_reducible refine st_gt ?_ | with_reducible refine st_ge ?_ | with_reducible refine st_eqi ?_ | with_reducible refine st_nei ?_ | with_reducible refine st_eqs ?_ | with_reducible refine st_nes ?_ | with_reducible refine st_eqb ?_
  | with_reducible refine st_isn_non ?_ | with_reducible refine st_isn_int ?_ | with_reducible refine st_isn_tup ?_ | with_reducible refine st_isn_str ?_ | with_reducible refine st_isn_bl ?_
  | with_reducible refine st_isnt_non ?_ | with_reducible refine st_isnt_int ?_ | with_reducible refine st_isnt_tup ?_ | with_reducible refine st_isnt_str ?_
  | with_reducible refine st_int ?_ | with_reducible refine st_intb ?_ | with_reducible refine st_abs ?_ | with_reducible refine st_min2 ?_ | with_reducible refine st_max2 ?_
  | with_reducible refine st_tup_l ?_ | with_reducible refine st_tup_t ?_ | with_reducible refine st_lst_t ?_ | with_reducible refine st_lst_l ?_
  | with_reducible refine st_sl_from ?_ | with_reducible refine st_sl_to ?_
  | with_reducible refine st_lx0 ?_ | with_reducible refine st_lx1 ?_ | with_reducible refine st_lx2 ?_ | with_reducible refine st_lx3 ?_
  | with_reducible refine st_mod (by walk_at "side") ?_ | with_reducible refine st_div (by walk_at "side") ?_ | with_reducible refine st_mul (by walk_at "side") ?_ | with_reducible refine st_mul' (by walk_at "side") ?_
  | with_reducible refine st_isi rfl ?_
  | (with_reducible refine And.intro (Nat.le_of_ble_eq_true rfl) ?_)
  | (refine And.intro (rfl : (_ : Nat) = _) ?_)
  | with_reducible refine st_dT (by walk_at "cond") ?_ | with_reducible refine st_dF (by walk_at "cond") ?_)
local macro_rules | `(tactic| walk_at "hd") => `(tactic| (with_reducible conv => whnf))
local macro_rules | `(tactic| walk_at "run") => `(tactic| ((with_reducible conv => whnf); repeat (walk_at "st"; (with_reducible conv => whnf))))
abbrev A_Layer : Addr := 52
/-! ### statements as data -/
mutual
def sD : Stm → D
  | .deed d => .tup [.str "deed", iD d]
  | .call w => .tup [.str "call", iD w]
  | .back => .tup [.str "back"]
  | .either bs => .tup [.str "either", .tup (csD bs)]
  | .loop b => .tup [.str "loop", .tup (bD b)]
  | .rep n b => .tup [.str "repeat", iD n, .tup (bD b)]
def bD : List Stm → List D
  | [] => []
  | s :: b => sD s :: bD b
def csD : List (List Stm) → List D
  | [] => []
  | b :: bs => .tup (bD b) :: csD bs
end
theorem bD_map : ∀ b : List Stm, bD b = b.map sD
  | [] => by rw [bD]; rfl
  | s :: b => by rw [bD, bD_map b]; rfl
theorem csD_map : ∀ bs : List (List Stm), csD bs = bs.map fun b => .tup (bD b)
  | [] => by rw [csD]; rfl
  | b :: bs => by rw [csD, csD_map bs]; rfl
theorem lnA_all : ∀ b : List Stm, lnA b = b.all ln
  | [] => by rw [lnA]; rfl
  | s :: b => by rw [lnA, lnA_all b]; rfl
theorem once_filter : ∀ b : List Stm, once b = match b.filter (fun s => !ln s) with | [] => false | s :: _ => isB s
  | [] => by rw [once]; rfl
  | s :: b => by
    rw [once, List.filter_cons]
    cases h : ln s with
    | true => simpa using once_filter b
    | false => rfl
theorem bD_len (b : List Stm) : (bD b).length = b.length := by rw [bD_map, List.length_map]
def sr_lays_nothing (n : Nat) (x : D) (S : Sto) (Q : DK) : Prop := ∃ s, x = sD s ∧ hS s ≤ n ∧ nx s < 10000000 ∧ Q (.bl (ln s)) S
def sp_lays_nothing := sr_lays_nothing 20
-- lays_nothing : 0=statement 1=inner
def rd_lays_nothing (spr_lays_nothing : DSp) : DTS :=
    (dSeq (dIf (dTest (dOp vNe (dOp vIx (dVar 0) (dC (.int 0))) (dC (.str "repeat")))) (dRet (dC (.bl false))) dNext)
    (dRet (dOrV (dOp vEq (dOp vIx (dVar 0) (dC (.int 1))) (dC (.int 0))) (dCB vAll (dCons (dLc (iTupD (dOp vIx (dVar 0) (dC (.int 2)))) (dTg (.nm 1)) dYes (dCall spr_lays_nothing (dCons (dVar 1) dNil)) [1]) dNil)))))
set_option pp.maxSteps 300
theorem len_nx : ∀ b : List Stm, b.length ≤ nxB b
  | [] => by rw [nxB]; exact Nat.le_refl _
  | s :: b => by rw [nxB, List.length_cons]; have := len_nx b; omega
theorem nx_mem {s : Stm} : ∀ {b : List Stm}, s ∈ b → nx s + 1 ≤ nxB b
  | _ :: b, h => by
    rw [nxB]
    rcases List.mem_cons.mp h with rfl | h
    · omega
    · have := nx_mem h; omega
theorem use_lays {n : Nat} {s : Stm} {S : Sto} {Q : DK} (h : hS s ≤ n) (hn : nx s < 10000000) (q : Q (.bl (ln s)) S) : sr_lays_nothing n (sD s) S Q := ⟨s, rfl, h, hn, q⟩
theorem rd_lays_nothing_ok (n : Nat) (spr_lays_nothing : DSp) (hs_lays_nothing : ∀ m, n = m + 1 → spr_lays_nothing = a1 (sr_lays_nothing m)) : ∀ ds S P, (a1 (sr_lays_nothing n)) ds S P → rd_lays_nothing spr_lays_nothing (DEnds.of P) (dstart ["statement", "inner"] ds) S := by
  intro ds S P hsp
  rcases ds with _ | ⟨x, _ | ⟨y, ds⟩⟩ <;> first | exact (hsp : False).elim | skip
  obtain ⟨s, rfl, hn, hx, q⟩ := (hsp : sr_lays_nothing n x S P)
  unfold rd_lays_nothing
  cases s with
  | rep k b =>
    rw [hS] at hn
    rw [nx] at hx
    obtain ⟨m, rfl⟩ : ∃ m, n = m + 1 := ⟨n - 1, by omega⟩
    rw [hs_lays_nothing m rfl]
    rw [sD]
    walk_at "run"
    by_cases z : (k : Int) = 0
    · rw [decide_eq_true z]
      walk_at "run"
      rw [ln, show (k == 0) = true by simpa using z, Bool.true_or] at q
      exact .of q
    · rw [decide_eq_false z]
      walk_at "run"
      have hk : 1 + nxB b ≤ k * (1 + nxB b) := Nat.le_mul_of_pos_left _ (by omega)
      have hl := len_nx b
      rw [bD_map]
      refine lcL_map sD (fun s => .bl (ln s)) True.intro b [] (by rw [sizeLine_v]; simp only [List.length_nil]; omega) (fun s hs P h => ?_) ?_
      · walk_at "run"
        have h1 := hS_mem hs
        have h2 := nx_mem hs
        refine use_lays (by omega) (by omega) ?_
        exact h
      · walk_at "run"
        rw [show (b.map fun s => D.bl (ln s)) = (b.map ln).map .bl by rw [List.map_map]; rfl]
        refine st_all ?_
        rw [ln, show (k == 0) = false by simpa using z, Bool.false_or, lnA_all] at q
        rw [List.all_map]
        exact .of q
  | _ =>
    rw [sD]
    walk_at "run"
    exact .of (by rw [ln] at q; exact q)
def sr_is_back (n : Nat) (x : D) (S : Sto) (Q : DK) : Prop := ∃ s, x = sD s ∧ hS s ≤ n ∧ hS s ≤ 20 ∧ nx s < 10000000 ∧ Q (.bl (isB s)) S
def sp_is_back := sr_is_back 20
theorem use_isB {n : Nat} {s : Stm} {S : Sto} {Q : DK} (h : hS s ≤ n) (h2 : hS s ≤ 20) (hn : nx s < 10000000) (q : Q (.bl (isB s)) S) : sr_is_back n (sD s) S Q := ⟨s, rfl, h, h2, hn, q⟩
-- is_back : 0=statement 1=telling 2=inner
def rd_is_back (spr_is_back : DSp) : DTS :=
    (dSeq (dIf (dTest (dOp vEq (dOp vIx (dVar 0) (dC (.int 0))) (dC (.str "back")))) (dRet (dC (.bl true))) dNext)
    (dSeq (dIf (dOr (dTest (dOp vNe (dOp vIx (dVar 0) (dC (.int 0))) (dC (.str "repeat")))) (dTest (dOp vEq (dOp vIx (dVar 0) (dC (.int 1))) (dC (.int 0))))) (dRet (dC (.bl false))) dNext)
    (dSeq (dAsg (dLc (iTupD (dOp vIx (dVar 0) (dC (.int 2)))) (dTg (.nm 2)) (dNot (dTest (dCall (a1 sp_lays_nothing) (dCons (dVar 2) dNil)))) (dVar 2) [2]) (dTg (.nm 1)))
    (dRet (dAndV (dCB vBoolL (dCons (dVar 1) dNil)) (dCall spr_is_back (dCons (dOp vIx (dVar 1) (dC (.int 0))) dNil)))))))
theorem rd_is_back_ok (n : Nat) (spr_is_back : DSp) (hs_is_back : ∀ m, n = m + 1 → spr_is_back = a1 (sr_is_back m)) : ∀ ds S P, (a1 (sr_is_back n)) ds S P → rd_is_back spr_is_back (DEnds.of P) (dstart ["statement", "telling", "inner"] ds) S := by
  intro ds S P hsp
  rcases ds with _ | ⟨x, _ | ⟨y, ds⟩⟩ <;> first | exact (hsp : False).elim | skip
  obtain ⟨s, rfl, hn, hn2, hx, q⟩ := (hsp : sr_is_back n x S P)
  unfold rd_is_back
  cases s with
  | rep k b =>
    rw [hS] at hn hn2
    rw [nx] at hx
    obtain ⟨m, rfl⟩ : ∃ m, n = m + 1 := ⟨n - 1, by omega⟩
    rw [hs_is_back m rfl]
    rw [sD]
    walk_at "run"
    by_cases z : (k : Int) = 0
    · rw [decide_eq_true z]
      walk_at "run"
      rw [isB, show (k != 0) = false by simpa using z, Bool.false_and] at q
      exact .of q
    · rw [decide_eq_false z]
      walk_at "run"
      have hk : 1 + nxB b ≤ k * (1 + nxB b) := Nat.le_mul_of_pos_left _ (by omega)
      have hl := len_nx b
      rw [bD_map]
      refine lcL_fil sD sD (fun s => !ln s) True.intro b [] (by rw [sizeLine_v]; simp only [List.length_nil]; omega) (fun s hs P N h => ?_) ?_
      · walk_at "run"
        have h1 := hS_mem hs
        have h2 := nx_mem hs
        refine use_lays (n := 20) (by omega) (by omega) ?_
        cases e : ln s with
        | true => rw [e] at h; exact h
        | false => rw [e] at h; exact h
      · walk_at "run"
        rw [isB, show (k != 0) = true by simpa using z, Bool.true_and, once_filter] at q
        refine ⟨_, rfl, ?_⟩
        cases hf : b.filter fun s => !ln s with
        | nil =>
          rw [hf] at q
          walk_at "run"
          exact .of q
        | cons s r =>
          rw [hf] at q
          have hm : s ∈ b := (List.mem_filter.mp (hf ▸ List.mem_cons_self : s ∈ b.filter fun s => !ln s)).1
          have h1 := hS_mem hm
          have h2 := nx_mem hm
          rw [List.nil_append, List.map_cons]
          walk_at "run"
          rw [show (sD s :: r.map sD).isEmpty = false from rfl]
          walk_at "run"
          refine use_isB (by omega) (by omega) (by omega) ?_
          exact .of q
  | _ =>
    rw [sD]
    walk_at "run"
    exact .of (by rw [isB] at q; exact q)
end L3

set_option Elab.async false
set_option maxRecDepth 100000
set_option linter.all false
set_option maxHeartbeats 4000000
namespace L3
open PySem L2 L3.KL
local macro_rules | `(tactic| walk_at "cond") => `(tactic| first | omega | (simp only [List.length_append, List.length_cons, List.length_nil, List.length_take, List.length_drop, List.length_map, List.length_reverse]; omega) | rfl | decide)
local macro_rules | `(tactic| walk_at "side") => `(tactic| first | assumption | omega | (simp only [List.length_append, List.length_cons, List.length_nil, List.length_take, List.length_drop, List.length_map, List.length_reverse, sizeLine_val]; omega) | decide)
local macro_rules | `(tactic| walk_at "st") => `(tactic| first
  | with_reducible refine st_ix0 ?_ | with_reducible refine st_ix1 ?_ | with_reducible refine st_ix2 ?_ | with_reducible refine st_ix3 ?_ | with_reducible refine st_ix4 ?_
  | with_reducible refine st_add_pp (by walk_at "side") ?_ | with_reducible refine st_add_p1 (by walk_at "side") ?_ | with_reducible refine st_add_1p (by walk_at "side") ?_
  | with_reducible refine st_add ?_ | with_reducible refine st_sub ?_ | with_reducible refine st_iadd ?_ | with_reducible refine st_neg ?_
  | with_reducible refine st_len_p ?_ | with_reducible refine st_len_lp ?_ | with_reducible refine st_len_rp ?_ | with_reducible refine st_len_t ?_ | with_reducible refine st_len_l ?_
  | with_reducible refine st_add_t (by walk_at "side") ?_ | with_reducible refine st_add_l (by walk_at "side") ?_ | with_reducible refine st_add_s (by walk_at "side") ?_
  | with_reducible refine st_tru_bl ?_ | with_reducible refine st_tru_int ?_ | with_reducible refine st_tru_tup ?_ | with_reducible refine st_tru_lst ?_ | with_reducible refine st_tru_non ?_
  | with_reducible refine st_at (by assumption) ?_ | with_reducible refine st_atl (by assumption) ?_
  | with_reducible refine st_iteT ?_ | with_reducible refine st_iteF ?_ | with_reducible refine st_not ?_
  | with_reducible refine st_lt ?_ | with_reducible refine st_le ?_ | with_reducible refine st_gt ?_ | with_reducible refine st_ge ?_ | with_reducible refine st_eqi ?_ | with_reducible refine st_nei ?_ | with_reducible refine st_eqs ?_ | with_reducible refine st_nes ?_ | with_reducible refine st_eqb ?_
  | with_reducible refine st_isn_non ?_ | with_reducible refine st_isn_int ?_ | with_reducible refine st_isn_tup ?_ | with_reducible refine st_isn_str ?_ | with_reducible refine st_isn_bl ?_
  | with_reducible refine st_isnt_non ?_ | with_reducible refine st_isnt_int ?_ | with_reducible refine st_isnt_tup ?_ | with_reducible refine st_isnt_str ?_
  | with_reducible refine st_int ?_ | with_reducible refine st_intb ?_ | with_reducible refine st_abs ?_ | with_reducible refine st_min2 ?_ | with_reducible refine st_max2 ?_
  | with_reducible refine st_tup_l ?_ | with_reducible refine st_tup_t ?_ | with_reducible refine st_lst_t ?_ | with_reducible refine st_lst_l ?_
  | with_reducible refine st_sl_from ?_ | with_reducible refine st_sl_to ?_
  | with_reducible refine st_lx0 ?_ | with_reducible refine st_lx1 ?_ | with_reducible refine st_lx2 ?_ | with_reducible refine st_lx3 ?_
  | with_reducible refine st_mod (by walk_at "side") ?_ | with_reducible refine st_div (by walk_at "side") ?_ | with_reducible refine st_mul (by walk_at "side") ?_ | with_reducible refine st_mul' (by walk_at "side") ?_
  | with_reducible refine st_isi rfl ?_
  | (with_reducible refine And.intro (Nat.le_of_ble_eq_true rfl) ?_)
  | (refine And.intro (rfl : (_ : Nat) = _) ?_)
  | with_reducible refine st_dT (by walk_at "cond") ?_ | with_reducible refine st_dF (by walk_at "cond") ?_)
local macro_rules | `(tactic| walk_at "hd") => `(tactic| (with_reducible conv => whnf))
local macro_rules | `(tactic| walk_at "run") => `(tactic| ((with_reducible conv => whnf); repeat (walk_at "st"; (with_reducible conv => whnf))))
/-! ### the layer -/
def mvD : MV → D
  | .row r => iD r
  | .like m => .tup [.str "like", iD m]
def mrD : Mr → D
  | .deed d t => .tup [.str "deed", iD d, iD t]
  | .call w t => .tup [.str "call", iD w, iD t]
  | .choose ts => .tup [.str "choose", .lst (ts.map iD)]
  | .ret => .tup [.str "return"]
abbrev Kv := List (Nat × MV)
def mk (kv : Kv) : Mk := nlk kv
theorem mk_put (kv : Kv) (m : Nat) (v : MV) : mk (nput kv m v) = mset (mk kv) m v := by
  funext u
  unfold mk mset
  rw [nlk_put]
structure Lo (S : Sto) (a r d : Addr) (nr : List Mr) (kv : Kv) (N : Nat) : Prop where
  ea : S a = some (.ins A_Layer [("rows", .ref r), ("marks", .ref d), ("many", iD N)])
  er : S r = some (.lst (nr.map mrD))
  ed : S d = some (.dK (nD mvD kv))
  ok : KOk kv N
  le : nr.length ≤ N
theorem Lo.ar {S : Sto} {a r d : Addr} {nr : List Mr} {kv : Kv} {N : Nat} (h : Lo S a r d nr kv N) : a ≠ r := fun z => by have := h.ea; rw [z, h.er] at this; cases this
theorem Lo.ad {S : Sto} {a r d : Addr} {nr : List Mr} {kv : Kv} {N : Nat} (h : Lo S a r d nr kv N) : a ≠ d := fun z => by have := h.ea; rw [z, h.ed] at this; cases this
theorem Lo.rd {S : Sto} {a r d : Addr} {nr : List Mr} {kv : Kv} {N : Nat} (h : Lo S a r d nr kv N) : r ≠ d := fun z => by have := h.er; rw [z, h.ed] at this; cases this
/-- else as before -/
def Els (a r d : Addr) (S S' : Sto) : Prop := ∀ b, b ≠ a → b ≠ r → b ≠ d → S' b = S b
theorem Els.refl {a r d : Addr} {S : Sto} : Els a r d S S := fun _ _ _ _ => rfl
theorem Els.trans {a r d : Addr} {S S1 S2 : Sto} (h : Els a r d S S1) (k : Els a r d S1 S2) : Els a r d S S2 := fun b h1 h2 h3 => (k b h1 h2 h3).trans (h b h1 h2 h3)
theorem Lo.mark {S : Sto} {a r d : Addr} {nr : List Mr} {kv : Kv} {N : Nat} (h : Lo S a r d nr kv N) : Lo (sup S a (.ins A_Layer [("rows", .ref r), ("marks", .ref d), ("many", iD (N + 1))])) a r d nr kv (N + 1) :=
  ⟨sup_same, by rw [sup_ne (Ne.symm h.ar)]; exact h.er, by rw [sup_ne (Ne.symm h.ad)]; exact h.ed, h.ok.mono (by omega), by have := h.le; omega⟩
theorem Lo.put {S : Sto} {a r d : Addr} {nr : List Mr} {kv : Kv} {N m : Nat} (h : Lo S a r d nr kv N) (hm : m < N) (v : MV) : Lo (sup S d (.dK (nD mvD (nput kv m v)))) a r d nr (nput kv m v) N :=
  ⟨by rw [sup_ne h.ad]; exact h.ea, by rw [sup_ne h.rd]; exact h.er, sup_same, h.ok.put hm v, h.le⟩
theorem Lo.add {S : Sto} {a r d : Addr} {nr : List Mr} {kv : Kv} {N : Nat} (h : Lo S a r d nr kv N) (w : Mr) (hl : nr.length < N) : Lo (sup S r (.lst (nr.map mrD ++ [mrD w]))) a r d (nr ++ [w]) kv N :=
  ⟨by rw [sup_ne h.ar]; exact h.ea, by rw [sup_same, List.map_append]; rfl, by rw [sup_ne (Ne.symm h.rd)]; exact h.ed, h.ok, by rw [List.length_append]; exact hl⟩
theorem els_a {a r d : Addr} {S : Sto} {o : SO} : Els a r d S (sup S a o) := fun b h _ _ => sup_ne h
theorem els_r {a r d : Addr} {S : Sto} {o : SO} : Els a r d S (sup S r o) := fun b _ h _ => sup_ne h
theorem els_d {a r d : Addr} {S : Sto} {o : SO} : Els a r d S (sup S d o) := fun b _ _ h => sup_ne h
/-- marks[m] = v -/
theorem Lo.dput {S : Sto} {a r d : Addr} {nr : List Mr} {kv : Kv} {N m : Nat} {v : MV} {Q : Sto → Prop} (h : Lo S a r d nr kv N) (hm : m < N) (hN : N ≤ 10000000) (q : ∀ S', Lo S' a r d nr (nput kv m v) N → Els a r d S S' → Q S') : ∃ S4, dPutD S (mvD v) (.ref d) (iD m) = some S4 ∧ Q S4 :=
  st_dput h.ed rfl (by have := h.ok.len; rw [List.length_map, sizeLine_v]; omega) (by rw [put_nD]; exact q _ (h.put hm v) els_d)
def sp_Layer_mark (x : D) (S : Sto) (Q : DK) : Prop := ∃ a r d nr kv N, x = .ref a ∧ Lo S a r d nr kv N ∧ ∀ S', Lo S' a r d nr kv (N + 1) → Els a r d S S' → Q (iD N) S'
-- Layer.mark : 0=self
def rd_Layer_mark : DTS :=
    (dSeq (dAugF A_Layer "many" vIadd (dVar 0) (dC (.int 1)))
    (dRet (dOp vSub (dFld A_Layer "many" (dVar 0)) (dC (.int 1)))))
set_option pp.maxSteps 300
theorem rd_Layer_mark_ok : ∀ ds S P, (a1 sp_Layer_mark) ds S P → rd_Layer_mark (DEnds.of P) (dstart ["self"] ds) S := by
  intro ds S P hsp
  rcases ds with _ | ⟨x, _ | ⟨y, ds⟩⟩ <;> first | exact (hsp : False).elim | skip
  obtain ⟨a, r, d, nr, kv, N, rfl, h, q⟩ := (hsp : sp_Layer_mark x S P)
  unfold rd_Layer_mark
  walk_at "run"
  refine st_fld h.ea (d := iD N) (by rfl) ?_
  walk_at "run"
  refine st_putf h.ea (by show 3 < 1000; decide) ?_
  rw [show putG "many" (.int ((N : Int) + 1)) ([("rows", D.ref r), ("marks", D.ref d), ("many", iD N)] : List (Str × D)) = ([("rows", D.ref r), ("marks", D.ref d), ("many", iD (N + 1))] : List (Str × D)) from rfl]
  walk_at "run"
  refine st_fld h.mark.ea (d := iD (N + 1)) (by rfl) ?_
  walk_at "run"
  rw [show ((N + 1 : Nat) : Int) - 1 = (N : Int) by omega]
  exact .of (q _ h.mark els_a)
theorem use_mark {a r d : Addr} {nr : List Mr} {kv : Kv} {N : Nat} {S : Sto} {Q : DK} (h : Lo S a r d nr kv N) (q : ∀ S', Lo S' a r d nr kv (N + 1) → Els a r d S S' → Q (iD N) S') : sp_Layer_mark (.ref a) S Q := ⟨a, r, d, nr, kv, N, rfl, h, q⟩
def sp_Layer_put (x y : D) (S : Sto) (Q : DK) : Prop := ∃ a r d nr kv N m, x = .ref a ∧ y = iD m ∧ m < N ∧ N ≤ 10000000 ∧ Lo S a r d nr kv N ∧ ∀ S', Lo S' a r d nr (nput kv m (.row nr.length)) N → Els a r d S S' → Q .non S'
-- Layer.put : 0=self 1=mark
def rd_Layer_put : DTS :=
    (dDPut (dFld A_Layer "marks" (dVar 0)) (dVar 1) (dCB vLen (dCons (dFld A_Layer "rows" (dVar 0)) dNil)))
theorem rd_Layer_put_ok : ∀ ds S P, (a2 sp_Layer_put) ds S P → rd_Layer_put (DEnds.of P) (dstart ["self", "mark"] ds) S := by
  intro ds S P hsp
  rcases ds with _ | ⟨x, _ | ⟨y, _ | ⟨z, ds⟩⟩⟩ <;> first | exact (hsp : False).elim | skip
  obtain ⟨a, r, d, nr, kv, N, m, rfl, rfl, hm, hN, h, q⟩ := (hsp : sp_Layer_put x y S P)
  unfold rd_Layer_put
  walk_at "run"
  refine st_fld h.ea (d := .ref r) (by rfl) ?_
  walk_at "run"
  refine st_len_r h.er ?_
  rw [List.length_map]
  walk_at "run"
  refine st_fld h.ea (d := .ref d) (by rfl) ?_
  walk_at "run"
  refine h.dput (v := .row nr.length) hm hN fun S' h' e => ?_
  exact .of (q S' h' e)
theorem use_put {a r d : Addr} {nr : List Mr} {kv : Kv} {N m : Nat} {S : Sto} {Q : DK} (hm : m < N) (hN : N ≤ 10000000) (h : Lo S a r d nr kv N) (q : ∀ S', Lo S' a r d nr (nput kv m (.row nr.length)) N → Els a r d S S' → Q .non S') : sp_Layer_put (.ref a) (iD m) S Q := ⟨a, r, d, nr, kv, N, m, rfl, rfl, hm, hN, h, q⟩
def sp_Layer_add (x y : D) (S : Sto) (Q : DK) : Prop := ∃ a r d nr kv N w, x = .ref a ∧ y = mrD w ∧ nr.length < N ∧ N ≤ 10000000 ∧ Lo S a r d nr kv N ∧ ∀ S', Lo S' a r d (nr ++ [w]) kv N → Els a r d S S' → Q .non S'
-- Layer.add : 0=self 1=row
def rd_Layer_add : DTS :=
    (dDrop (dLM vAppend (dFld A_Layer "rows" (dVar 0)) (dCons (dVar 1) dNil)))
theorem rd_Layer_add_ok : ∀ ds S P, (a2 sp_Layer_add) ds S P → rd_Layer_add (DEnds.of P) (dstart ["self", "row"] ds) S := by
  intro ds S P hsp
  rcases ds with _ | ⟨x, _ | ⟨y, _ | ⟨z, ds⟩⟩⟩ <;> first | exact (hsp : False).elim | skip
  obtain ⟨a, r, d, nr, kv, N, w, rfl, rfl, hl, hN, h, q⟩ := (hsp : sp_Layer_add x y S P)
  unfold rd_Layer_add
  walk_at "run"
  refine st_fld h.ea (d := .ref r) (by rfl) ?_
  walk_at "run"
  rw [isSeq_ref]
  refine ⟨⟨_, h.er⟩, ?_⟩
  walk_at "run"
  refine st_append h.er (by rw [List.length_map, sizeLine_v]; omega) ?_
  exact .of (q _ (h.add w hl) els_r)
theorem use_add {a r d : Addr} {nr : List Mr} {kv : Kv} {N : Nat} {S : Sto} {Q : DK} (w : Mr) (hl : nr.length < N) (hN : N ≤ 10000000) (h : Lo S a r d nr kv N) (q : ∀ S', Lo S' a r d (nr ++ [w]) kv N → Els a r d S S' → Q .non S') : sp_Layer_add (.ref a) (mrD w) S Q := ⟨a, r, d, nr, kv, N, w, rfl, rfl, hl, hN, h, q⟩
def sp_Layer_init (x : D) (S : Sto) (Q : DK) : Prop := ∃ a, x = .ref a ∧ S a = some (.ins A_Layer []) ∧ ∀ r d S', S r = none → S d = none → Lo S' a r d [] [] 0 → (∀ b o, b ≠ a → S b = some o → S' b = some o) → Q .non S'
-- Layer.__init__ : 0=self
def rd_Layer_init : DTS :=
    (dSeq (dPutF A_Layer "rows" (dVar 0) (dLstM dNil))
    (dSeq (dPutF A_Layer "marks" (dVar 0) dNewK)
    (dPutF A_Layer "many" (dVar 0) (dC (.int 0)))))
theorem rd_Layer_init_ok : ∀ ds S P, (a1 sp_Layer_init) ds S P → rd_Layer_init (DEnds.of P) (dstart ["self"] ds) S := by
  intro ds S P hsp
  rcases ds with _ | ⟨x, _ | ⟨y, ds⟩⟩ <;> first | exact (hsp : False).elim | skip
  obtain ⟨a, rfl, e, q⟩ := (hsp : sp_Layer_init x S P)
  unfold rd_Layer_init
  walk_at "run"
  intro r hr
  have ra : r ≠ a := fun z => by subst z; rw [e] at hr; cases hr
  walk_at "run"
  have e1 : sup S r (.lst []) a = some (.ins A_Layer []) := by rw [sup_ne (Ne.symm ra)]; exact e
  refine st_putf e1 (by show 0 < 1000; decide) ?_
  walk_at "run"
  intro d hd
  have da : d ≠ a := fun z => by subst z; rw [sup_same] at hd; cases hd
  have dr : d ≠ r := fun z => by subst z; rw [sup_ne ra, sup_same] at hd; cases hd
  walk_at "run"
  refine st_putf (fs := [("rows", .ref r)]) (by rw [sup_ne (Ne.symm da), sup_same]; rfl) (by show 1 < 1000; decide) ?_
  walk_at "run"
  refine st_putf (fs := [("rows", .ref r), ("marks", .ref d)]) (by rw [sup_same]; rfl) (by show 2 < 1000; decide) ?_
  refine .of (q r d _ hr (by rw [sup_ne da, sup_ne dr] at hd; exact hd) ⟨by rw [sup_same]; rfl, ?_, ?_, ⟨by simp, by simp⟩, by simp⟩ fun b o hb hS => ?_)
  · rw [sup_ne ra, sup_ne ra, sup_ne (Ne.symm dr), sup_ne ra, sup_same]; rfl
  · rw [sup_ne da, sup_ne da, sup_same]; rfl
  · have h1 : b ≠ r := fun z => by subst z; rw [hr] at hS; cases hS
    have h2 : b ≠ d := fun z => by
      subst z
      rw [sup_ne da, sup_ne dr] at hd
      rw [hS] at hd; cases hd
    rw [sup_ne hb, sup_ne hb, sup_ne h2, sup_ne hb, sup_ne h1]
    exact hS
end L3

set_option Elab.async false
set_option maxRecDepth 100000
set_option linter.all false
set_option maxHeartbeats 4000000
namespace L3
open PySem L2 L3.KL
local macro_rules | `(tactic| walk_at "cond") => `(tactic| first | omega | (simp only [List.length_append, List.length_cons, List.length_nil, List.length_take, List.length_drop, List.length_map, List.length_reverse]; omega) | rfl | decide)
local macro_rules | `(tactic| walk_at "side") => `(tactic| first | assumption | omega | (simp only [List.length_append, List.length_cons, List.length_nil, List.length_take, List.length_drop, List.length_map, List.length_reverse, sizeLine_val]; omega) | decide)
local macro_rules | `(tactic| walk_at "st") => `(tactic| first
  | with_reducible refine st_ix0 ?_ | with_reducible refine st_ix1 ?_ | with_reducible refine st_ix2 ?_ | with_reducible refine st_ix3 ?_ | with_reducible refine st_ix4 ?_
  | with_reducible refine st_add_pp (by walk_at "side") ?_ | with_reducible refine st_add_p1 (by walk_at "side") ?_ | with_reducible refine st_add_1p (by walk_at "side") ?_
  | with_reducible refine st_add ?_ | with_reducible refine st_sub ?_ | with_reducible refine st_iadd ?_ | with_reducible refine st_neg ?_
  | with_reducible refine st_len_p ?_ | with_reducible refine st_len_lp ?_ | with_reducible refine st_len_rp ?_ | with_reducible refine st_len_t ?_ | with_reducible refine st_len_l ?_
  | with_reducible refine st_add_t (by walk_at "side") ?_ | with_reducible refine st_add_l (by walk_at "side") ?_ | with_reducible refine st_add_s (by walk_at "side") ?_
  | with_reducible refine st_tru_bl ?_ | with_reducible refine st_tru_int ?_ | with_reducible refine st_tru_tup ?_ | with_reducible refine st_tru_lst ?_ | with_reducible refine st_tru_non ?_
  | with_reducible refine st_at (by assumption) ?_ | with_reducible refine st_atl (by assumption) ?_
  | with_reducible refine st_iteT ?_ | with_reducible refine st_iteF ?_ | with_reducible refine st_not ?_
  | with_reducible refine st_lt ?_ | with_reducible refine st_le ?_ | with_reducible refine st_gt ?_ | with_reducible refine st_ge ?_ | with_reducible refine st_eqi ?_ | with_reducible refine st_nei ?_ | with_reducible refine st_eqs ?_ | with_reducible refine st_nes ?_ | with_reducible refine st_eqb ?_
  | with_reducible refine st_isn_non ?_ | with_reducible refine st_isn_int ?_ | with_reducible refine st_isn_tup ?_ | with_reducible refine st_isn_str ?_ | with_reducible refine st_isn_bl ?_
  | with_reducible refine st_isnt_non ?_ | with_reducible refine st_isnt_int ?_ | with_reducible refine st_isnt_tup ?_ | with_reducible refine st_isnt_str ?_
  | with_reducible refine st_int ?_ | with_reducible refine st_intb ?_ | with_reducible refine st_abs ?_ | with_reducible refine st_min2 ?_ | with_reducible refine st_max2 ?_
  | with_reducible refine st_tup_l ?_ | with_reducible refine st_tup_t ?_ | with_reducible refine st_lst_t ?_ | with_reducible refine st_lst_l ?_
  | with_reducible refine st_sl_from ?_ | with_reducible refine st_sl_to ?_
  | with_reducible refine st_lx0 ?_ | with_reducible refine st_lx1 ?_ | with_reducible refine st_lx2 ?_ | with_reducible refine st_lx3 ?_
  | with_reducible refine st_mod (by walk_at "side") ?_ | with_reducible refine st_div (by walk_at "side") ?_ | with_reducible refine st_mul (by walk_at "side") ?_ | with_reducible refine st_mul' (by walk_at "side") ?_
  | with_reducible refine st_isi rfl ?_
  | (with_reducible refine And.intro (Nat.le_of_ble_eq_true rfl) ?_)
  | (refine And.intro (rfl : (_ : Nat) = _) ?_)
  | with_reducible refine st_dT (by walk_at "cond") ?_ | with_reducible refine st_dF (by walk_at "cond") ?_)
local macro_rules | `(tactic| walk_at "hd") => `(tactic| (with_reducible conv => whnf))
local macro_rules | `(tactic| walk_at "run") => `(tactic| ((with_reducible conv => whnf); repeat (walk_at "st"; (with_reducible conv => whnf))))
/-! ### laying -/
theorem st_inT {x : D} {ds : List D} {b : Bool} {S : Sto} {Q : DK} (h1 : flatD x = true) (h2 : ds.all flatD = true) (h3 : inD x ds = b) (h : Q (.bl b) S) : vIn false x (.tup ds) S Q := ⟨h1, h2, by rw [h3]; exact h⟩
theorem drop_at {α : Type} {l : List α} {i : Nat} {a : α} (h : l[i]? = some a) : l.drop i = a :: l.drop (i + 1) := by
  obtain ⟨h1, h2⟩ := List.getElem?_eq_some_iff.mp h
  rw [List.drop_eq_getElem_cons h1, h2]
def sr_lay_body (n : Nat) (x y z u v : D) (S : Sto) (Q : DK) : Prop := ∃ a r d nr0 kv N b bg bh la, x = .ref a ∧ y = .tup (bD b) ∧ z = iD bg ∧ u = iD bh ∧ v = iD la ∧ Lo S a r d nr0 kv N ∧ bg < N ∧ hB b ≤ n ∧ hB b ≤ 20 ∧ N + nxB b ≤ 9000000 ∧
  ∀ S' nr kv' N', Lo S' a r d (nr0 ++ nr) kv' N' → N ≤ N' → N' ≤ N + nxB b → nr.length = cntB b → N + nr.length ≤ N' → LyB (mk kv) (mk kv') N N' bg bh la nr nr0.length b → Els a r d S S' → Q .non S'
def sr_lay_statement (n : Nat) (x y z u v : D) (S : Sto) (Q : DK) : Prop := ∃ a r d nr0 kv N s he th la, x = .ref a ∧ y = sD s ∧ z = iD he ∧ u = iD th ∧ v = iD la ∧ Lo S a r d nr0 kv N ∧ he < N ∧ nr0.length < N ∧ isB s = false ∧ hS s ≤ n ∧ hS s ≤ 20 ∧ N + nx s ≤ 9000000 ∧
  ∀ S' nr kv' N', Lo S' a r d (nr0 ++ nr) kv' N' → N ≤ N' → N' ≤ N + nx s → nr.length = cnt s → N + nr.length ≤ N' + 1 → LyS (mk kv) (mk kv') N N' he th la nr nr0.length s → Els a r d S S' → Q .non S'
def sp_lay_body := sr_lay_body 20
def sp_lay_statement := sr_lay_statement 20
theorem use_lay {n : Nat} {a r d : Addr} {nr0 : List Mr} {kv : Kv} {N : Nat} {b : List Stm} {bg bh la : Nat} {S : Sto} {Q : DK} (h : Lo S a r d nr0 kv N) (hb : bg < N) (h1 : hB b ≤ n) (h2 : hB b ≤ 20) (h3 : N + nxB b ≤ 9000000)
    (q : ∀ S' nr kv' N', Lo S' a r d (nr0 ++ nr) kv' N' → N ≤ N' → N' ≤ N + nxB b → nr.length = cntB b → N + nr.length ≤ N' → LyB (mk kv) (mk kv') N N' bg bh la nr nr0.length b → Els a r d S S' → Q .non S') : sr_lay_body n (.ref a) (.tup (bD b)) (iD bg) (iD bh) (iD la) S Q :=
  ⟨a, r, d, nr0, kv, N, b, bg, bh, la, rfl, rfl, rfl, rfl, rfl, h, hb, h1, h2, h3, q⟩
theorem use_stm {n : Nat} {a r d : Addr} {nr0 : List Mr} {kv : Kv} {N : Nat} {s : Stm} {he th la : Nat} {S : Sto} {Q : DK} (h : Lo S a r d nr0 kv N) (hb : he < N) (hl : nr0.length < N) (hs : isB s = false) (h1 : hS s ≤ n) (h2 : hS s ≤ 20) (h3 : N + nx s ≤ 9000000)
    (q : ∀ S' nr kv' N', Lo S' a r d (nr0 ++ nr) kv' N' → N ≤ N' → N' ≤ N + nx s → nr.length = cnt s → N + nr.length ≤ N' + 1 → LyS (mk kv) (mk kv') N N' he th la nr nr0.length s → Els a r d S S' → Q .non S') : sr_lay_statement n (.ref a) (sD s) (iD he) (iD th) (iD la) S Q :=
  ⟨a, r, d, nr0, kv, N, s, he, th, la, rfl, rfl, rfl, rfl, rfl, h, hb, hl, hs, h1, h2, h3, q⟩
-- lay_body : 0=layer 1=body 2=begin 3=behind 4=last 5=here 6=statement 7=there
def rd_lay_body (spr_lay_statement : DSp) : DTS :=
    (dSeq (dAsg (dVar 2) (dTg (.nm 5)))
    (dSeq (dFor (iTupD (dVar 1)) (dTg (.nm 6)) (dSeq (dIf (dTest (dCall (a1 sp_is_back) (dCons (dVar 6) dNil))) (dSeq (dDPut (dFld A_Layer "marks" (dVar 0)) (dVar 5) (dTup (dCons (dC (.str "like")) (dCons (dVar 4) dNil))))
    dRetN) dNext)
    (dSeq (dAsg (dMeth A_Layer "mark" (a1 sp_Layer_mark) (dVar 0) dNil) (dTg (.nm 7)))
    (dSeq (dDrop (dCall spr_lay_statement (dCons (dVar 0) (dCons (dVar 6) (dCons (dVar 5) (dCons (dVar 7) (dCons (dVar 4) dNil)))))))
    (dAsg (dVar 7) (dTg (.nm 5)))))))
    (dDPut (dFld A_Layer "marks" (dVar 0)) (dVar 5) (dTup (dCons (dC (.str "like")) (dCons (dVar 3) dNil))))))
set_option pp.maxSteps 300
theorem rd_lay_body_ok (n : Nat) (spr_lay_statement : DSp) (hs_lay_statement : ∀ m, n = m + 1 → spr_lay_statement = a5 (sr_lay_statement m)) : ∀ ds S P, (a5 (sr_lay_body n)) ds S P → rd_lay_body spr_lay_statement (DEnds.of P) (dstart ["layer", "body", "begin", "behind", "last", "here", "statement", "there"] ds) S := by
  intro ds S P hsp
  rcases ds with _ | ⟨x, _ | ⟨y, _ | ⟨z, _ | ⟨u, _ | ⟨v, _ | ⟨w, ds⟩⟩⟩⟩⟩⟩ <;> first | exact (hsp : False).elim | skip
  obtain ⟨a, r, d, nr0, kv, N, b, bg, bh, la, rfl, rfl, rfl, rfl, rfl, h, hb, hn, hn2, hx, q⟩ := (hsp : sr_lay_body n x y z u v S P)
  unfold rd_lay_body
  obtain ⟨m, rfl⟩ : ∃ m, n = m + 1 := ⟨n - 1, by cases b <;> rw [hB] at hn <;> omega⟩
  rw [hs_lay_statement m rfl]
  walk_at "run"
  rw [bD_map]
  refine forL_inv (fun i δ S' => ∃ nr kv' N' he x6 x7, Lo S' a r d (nr0 ++ nr) kv' N' ∧ he < N' ∧ N + nr.length ≤ N' ∧ N' + nxB (b.drop i) ≤ N + nxB b ∧ Els a r d S S' ∧
      (∀ nr2 M2 N2, LyB (mk kv') M2 N' N2 he bh la nr2 (nr0.length + nr.length) (b.drop i) → N' ≤ N2 → nr2.length = cntB (b.drop i) → LyB (mk kv) M2 N N2 bg bh la (nr ++ nr2) nr0.length b ∧ (nr ++ nr2).length = cntB b) ∧
      δ = [some (.ref a), some (.tup (b.map sD)), some (iD bg), some (iD bh), some (iD la), some (iD he), x6, x7]) (fun _ _ _ _ => True.intro) _ 0 _ _
      ⟨[], kv, N, bg, none, none, by rw [List.append_nil]; exact h, hb, Nat.le_refl _, by rw [List.drop_zero]; exact Nat.le_refl _, Els.refl, fun nr2 M2 N2 l _ e => ⟨l, e⟩, rfl⟩ ?_ ?_
  · rintro j dd _ S' hj ⟨nr, kv', N', he, x6, x7, h1, hhe, hN, hsz, el, cps, rfl⟩ D2 hrt _ hnx _
    rw [List.getElem?_map] at hj
    obtain ⟨s, hs, rfl⟩ := Option.map_eq_some_iff.mp hj
    rw [Nat.zero_add] at hsz cps hnx
    have hm := List.mem_of_getElem? hs
    have hh := hS_mem hm
    have hxx := nx_mem hm
    have ed := drop_at hs
    rw [ed] at hsz cps
    rw [nxB] at hsz
    rw [cntB] at cps
    walk_at "run"
    refine use_isB (n := 20) (by omega) (by omega) (by omega) ?_
    cases e : isB s with
    | true =>
      rw [e] at cps
      walk_at "run"
      refine st_fld h1.ea (d := .ref d) (by rfl) ?_
      walk_at "run"
      refine h1.dput (v := .like la) hhe (by omega) fun S2 h2 e2 => ?_
      walk_at "run"
      show D2.rt _ _
      rw [hrt]
      obtain ⟨c1, c2⟩ := cps [] (mset (mk kv') he (.like la)) N' (LyB.back e) (Nat.le_refl _) rfl
      rw [List.append_nil] at c1 c2
      rw [← mk_put] at c1
      exact .of (q S2 nr _ N' h2 (by omega) (by omega) c2 hN c1 (el.trans e2))
    | false =>
      rw [e] at cps
      walk_at "run"
      refine st_iso h1.ea (by rfl) ?_
      refine use_mark h1 fun S2 h2 e2 => ?_
      walk_at "run"
      refine use_stm h2 (by omega) (by have := h1.le; omega) e (by omega) (by omega) (by omega) fun S3 nrs kvs Ns h3 n1 n2 n3 n9 l3 e3 => ?_
      walk_at "run"
      have hlen : (nr0 ++ nr).length = nr0.length + nr.length := List.length_append
      rw [hlen] at l3
      refine hnx _ _ ⟨nr ++ nrs, kvs, Ns, N', _, _, by rw [← List.append_assoc]; exact h3, by omega, by rw [List.length_append]; omega, by omega, (el.trans e2).trans e3, fun nr2 M2 N2 l n4 n5 => ?_, rfl⟩
      rw [List.append_assoc]
      refine cps (nrs ++ nr2) M2 N2 (LyB.cons e hhe n1 n4 l3 ?_) (by omega) (by rw [List.length_append, n3, n5]; rfl)
      rw [List.length_append, n3, ← Nat.add_assoc] at l
      exact l
  · rintro _ S' ⟨nr, kv', N', he, x6, x7, h1, hhe, hN, hsz, el, cps, rfl⟩
    rw [List.length_map, Nat.zero_add, List.drop_length] at hsz cps
    walk_at "run"
    refine st_fld h1.ea (d := .ref d) (by rfl) ?_
    walk_at "run"
    refine h1.dput (v := .like bh) hhe (by rw [nxB] at hsz; omega) fun S2 h2 e2 => ?_
    obtain ⟨c1, c2⟩ := cps [] (mset (mk kv') he (.like bh)) N' LyB.nil (Nat.le_refl _) (by rw [cntB]; rfl)
    rw [List.append_nil] at c1 c2
    rw [← mk_put] at c1
    exact .of (q S2 nr _ N' h2 (by omega) (by rw [nxB] at hsz; omega) c2 hN c1 (el.trans e2))
end L3

set_option Elab.async false
set_option maxRecDepth 100000
set_option linter.all false
set_option maxHeartbeats 4000000
namespace L3
open PySem L2 L3.KL
local macro_rules | `(tactic| walk_at "cond") => `(tactic| first | omega | (simp only [List.length_append, List.length_cons, List.length_nil, List.length_take, List.length_drop, List.length_map, List.length_reverse]; omega) | rfl | decide)
local macro_rules | `(tactic| walk_at "side") => `(tactic| first | assumption | omega | (simp only [List.length_append, List.length_cons, List.length_nil, List.length_take, List.length_drop, List.length_map, List.length_reverse, sizeLine_val]; omega) | decide)
local macro_rules | `(tactic| walk_at "st") => `(tactic| first
  | with_reducible refine st_ix0 ?_ | with_reducible refine st_ix1 ?_ | with_reducible refine st_ix2 ?_ | with_reducible refine st_ix3 ?_ | with_reducible refine st_ix4 ?_
  | with_reducible refine st_add_pp (by walk_at "side") ?_ | with_reducible refine st_add_p1 (by walk_at "side") ?_ | with_reducible refine st_add_1p (by walk_at "side") ?_
  | with_reducible refine st_add ?_ | with_reducible refine st_sub ?_ | with_reducible refine st_iadd ?_ | with_reducible refine st_neg ?_
  | with_reducible refine st_len_p ?_ | with_reducible refine st_len_lp ?_ | with_reducible refine st_len_rp ?_ | with_reducible refine st_len_t ?_ | with_reducible refine st_len_l ?_
  | with_reducible refine st_add_t (by walk_at "side") ?_ | with_reducible refine st_add_l (by walk_at "side") ?_ | with_reducible refine st_add_s (by walk_at "side") ?_
  | with_reducible refine st_tru_bl ?_ | with_reducible refine st_tru_int ?_ | with_reducible refine st_tru_tup ?_ | with_reducible refine st_tru_lst ?_ | with_reducible refine st_tru_non ?_
  | with_reducible refine st_at (by assumption) ?_ | with_reducible refine st_atl (by assumption) ?_
  | with_reducible refine st_iteT ?_ | with_reducible refine st_iteF ?_ | with_reducible refine st_not ?_
  | with_reducible refine st_lt ?_ | with_reducible refine st_le ?_ | with_reducible refine st_gt ?_ | with_reducible refine st_ge ?_ | with_reducible refine st_eqi ?_ | with_reducible refine st_nei ?_ | with_reducible refine st_eqs ?_ | with_reducible refine st_nes ?_ | with_reducible refine st_eqb ?_
  | with_reducible refine st_isn_non ?_ | with_reducible refine st_isn_int ?_ | with_reducible refine st_isn_tup ?_ | with_reducible refine st_isn_str ?_ | with_reducible refine st_isn_bl ?_
  | with_reducible refine st_isnt_non ?_ | with_reducible refine st_isnt_int ?_ | with_reducible refine st_isnt_tup ?_ | with_reducible refine st_isnt_str ?_
  | with_reducible refine st_int ?_ | with_reducible refine st_intb ?_ | with_reducible refine st_abs ?_ | with_reducible refine st_min2 ?_ | with_reducible refine st_max2 ?_
  | with_reducible refine st_tup_l ?_ | with_reducible refine st_tup_t ?_ | with_reducible refine st_lst_t ?_ | with_reducible refine st_lst_l ?_
  | with_reducible refine st_sl_from ?_ | with_reducible refine st_sl_to ?_
  | with_reducible refine st_lx0 ?_ | with_reducible refine st_lx1 ?_ | with_reducible refine st_lx2 ?_ | with_reducible refine st_lx3 ?_
  | with_reducible refine st_mod (by walk_at "side") ?_ | with_reducible refine st_div (by walk_at "side") ?_ | with_reducible refine st_mul (by walk_at "side") ?_ | with_reducible refine st_mul' (by walk_at "side") ?_
  | with_reducible refine st_isi rfl ?_
  | (with_reducible refine And.intro (Nat.le_of_ble_eq_true rfl) ?_)
  | (refine And.intro (rfl : (_ : Nat) = _) ?_)
  | with_reducible refine st_dT (by walk_at "cond") ?_ | with_reducible refine st_dF (by walk_at "cond") ?_)
local macro_rules | `(tactic| walk_at "hd") => `(tactic| (with_reducible conv => whnf))
local macro_rules | `(tactic| walk_at "run") => `(tactic| ((with_reducible conv => whnf); repeat (walk_at "st"; (with_reducible conv => whnf))))
theorem lc_marks {a r d : Addr} {nr : List Mr} {kv : Kv} {x1 x2 x3 x4 x5 x6 x7 x8 x9 x10 : Option D} {Q : DK} : ∀ (L : List D) (acc : List Nat) (N : Nat) (S : Sto), acc.length + L.length ≤ 10000000 → Lo S a r d nr kv N →
    (∀ S', Lo S' a r d nr kv (N + L.length) → Els a r d S S' → Q (.lst ((acc ++ List.range' N L.length).map iD)) S') →
    lcL (fun _ => True) (dTg (.nm 7)) dYes (dMeth A_Layer "mark" (a1 sp_Layer_mark) (dVar 0) dNil) [7] [some (.ref a), x1, x2, x3, x4, x5, x6, x7, x8, x9, x10] L (acc.map iD) S Q
  | [], acc, N, S, _, h, q => ⟨trivial, by simpa using q S h Els.refl⟩
  | y :: L, acc, N, S, hl, h, q => by
    rw [List.length_cons] at hl
    refine ⟨trivial, by rw [List.length_map, sizeLine_v]; omega, ?_⟩
    walk_at "run"
    refine st_iso h.ea (by rfl) ?_
    refine use_mark h fun S1 h1 e1 => ?_
    walk_at "run"
    rw [show acc.map iD ++ [iD N] = (acc ++ [N]).map iD by rw [List.map_append]; rfl]
    refine lc_marks L (acc ++ [N]) (N + 1) S1 (by rw [List.length_append]; simp only [List.length_cons, List.length_nil]; omega) h1 fun S2 h2 e2 => ?_
    have := q S2 (by rw [List.length_cons, show N + (L.length + 1) = N + 1 + L.length by omega]; exact h2) (e1.trans e2)
    rw [List.length_cons, List.range'_succ] at this
    rw [List.append_assoc]
    exact this
theorem use_isAll_l {ds : List D} {S : Sto} : itAll S (.lst ds) = some (fun _ => True, ds, true) := rfl
theorem use_isAll_t {ds : List D} {S : Sto} : itAll S (.tup ds) = some (fun _ => True, ds, false) := rfl
theorem zip_at {α β γ : Type} {f : α × β → γ} {xs : List α} {ys : List β} {j : Nat} {z : γ} (h : ((xs.zip ys).map f)[j]? = some z) : ∃ x y, xs[j]? = some x ∧ ys[j]? = some y ∧ z = f (x, y) := by
  rw [List.getElem?_map] at h
  obtain ⟨⟨x, y⟩, e, rfl⟩ := Option.map_eq_some_iff.mp h
  obtain ⟨e1, e2⟩ := List.getElem?_zip_eq_some.mp e
  exact ⟨x, y, e1, e2, rfl⟩
def KC (N k j N' N2 : Nat) (m : Nat) : Prop := (N + j ≤ m ∧ m < N + k) ∨ (N' ≤ m ∧ m < N2)
-- lay_statement : 0=layer 1=statement 2=here 3=there 4=last 5=word 6=begins 7=body 8=begin 9=_ 10=behind
def rd_lay_statement (spr_lay_body : DSp) : DTS :=
    (dSeq (dAsg (dOp vIx (dVar 1) (dC (.int 0))) (dTg (.nm 5)))
    (dIf (dTest (dOp (vIn false) (dVar 5) (dTup (dCons (dC (.str "deed")) (dCons (dC (.str "call")) dNil))))) (dSeq (dDrop (dMeth A_Layer "put" (a2 sp_Layer_put) (dVar 0) (dCons (dVar 2) dNil)))
    (dDrop (dMeth A_Layer "add" (a2 sp_Layer_add) (dVar 0) (dCons (dTup (dCons (dVar 5) (dCons (dOp vIx (dVar 1) (dC (.int 1))) (dCons (dVar 3) dNil)))) dNil)))) (dIf (dTest (dOp vEq (dVar 5) (dC (.str "either")))) (dSeq (dAsg (dLc (iTupD (dOp vIx (dVar 1) (dC (.int 1)))) (dTg (.nm 7)) dYes (dMeth A_Layer "mark" (a1 sp_Layer_mark) (dVar 0) dNil) [7]) (dTg (.nm 6)))
    (dSeq (dDrop (dMeth A_Layer "put" (a2 sp_Layer_put) (dVar 0) (dCons (dVar 2) dNil)))
    (dSeq (dDrop (dMeth A_Layer "add" (a2 sp_Layer_add) (dVar 0) (dCons (dTup (dCons (dC (.str "choose")) (dCons (dVar 6) dNil))) dNil)))
    (dFor (iZipM (dVar 6) (dOp vIx (dVar 1) (dC (.int 1)))) (dTg (.tp [8, 7])) (dDrop (dCall spr_lay_body (dCons (dVar 0) (dCons (dVar 7) (dCons (dVar 8) (dCons (dVar 3) (dCons (dVar 4) dNil))))))))))) (dIf (dTest (dOp vEq (dVar 5) (dC (.str "loop")))) (dSeq (dAsg (dMeth A_Layer "mark" (a1 sp_Layer_mark) (dVar 0) dNil) (dTg (.nm 8)))
    (dSeq (dDrop (dMeth A_Layer "put" (a2 sp_Layer_put) (dVar 0) (dCons (dVar 2) dNil)))
    (dSeq (dDrop (dMeth A_Layer "add" (a2 sp_Layer_add) (dVar 0) (dCons (dTup (dCons (dC (.str "choose")) (dCons (dLst (dCons (dVar 8) (dCons (dVar 3) dNil))) dNil))) dNil)))
    (dDrop (dCall spr_lay_body (dCons (dVar 0) (dCons (dOp vIx (dVar 1) (dC (.int 1))) (dCons (dVar 8) (dCons (dVar 2) (dCons (dVar 4) dNil)))))))))) (dSeq (dFor (iRange1 (dOp vIx (dVar 1) (dC (.int 1)))) (dTg (.nm 9)) (dSeq (dAsg (dMeth A_Layer "mark" (a1 sp_Layer_mark) (dVar 0) dNil) (dTg (.nm 10)))
    (dSeq (dDrop (dCall spr_lay_body (dCons (dVar 0) (dCons (dOp vIx (dVar 1) (dC (.int 2))) (dCons (dVar 2) (dCons (dVar 10) (dCons (dVar 4) dNil)))))))
    (dAsg (dVar 10) (dTg (.nm 2))))))
    (dDPut (dFld A_Layer "marks" (dVar 0)) (dVar 2) (dTup (dCons (dC (.str "like")) (dCons (dVar 3) dNil)))))))))
set_option pp.maxSteps 300
theorem rd_lay_statement_ok (n : Nat) (spr_lay_body : DSp) (hs_lay_body : ∀ m, n = m + 1 → spr_lay_body = a5 (sr_lay_body m)) : ∀ ds S P, (a5 (sr_lay_statement n)) ds S P → rd_lay_statement spr_lay_body (DEnds.of P) (dstart ["layer", "statement", "here", "there", "last", "word", "begins", "body", "begin", "_", "behind"] ds) S := by
  intro ds S P hsp
  rcases ds with _ | ⟨x, _ | ⟨y, _ | ⟨z, _ | ⟨u, _ | ⟨v, _ | ⟨w, ds⟩⟩⟩⟩⟩⟩ <;> first | exact (hsp : False).elim | skip
  obtain ⟨a, r, d, nr0, kv, N, s, he, th, la, rfl, rfl, rfl, rfl, rfl, h, hb, hl, hs, hn, hn2, hx, q⟩ := (hsp : sr_lay_statement n x y z u v S P)
  unfold rd_lay_statement
  cases s with
  | back => rw [isB] at hs; cases hs
  | deed e =>
    rw [sD]
    walk_at "run"
    refine st_inT (b := true) rfl rfl rfl ?_
    walk_at "run"
    refine st_iso h.ea (by rfl) ?_
    walk_at "run"
    refine use_put hb (by omega) h fun S1 h1 e1 => ?_
    walk_at "run"
    refine st_iso h1.ea (by rfl) ?_
    walk_at "run"
    refine use_add (.deed e th) hl (by omega) h1 fun S2 h2 e2 => ?_
    refine .of (q S2 [.deed e th] _ N h2 (Nat.le_refl _) (by omega) (by rw [cnt]; rfl) (by simp only [List.length_cons, List.length_nil]; omega) ?_ (e1.trans e2))
    rw [mk_put]
    exact LyS.deed
  | call e =>
    rw [sD]
    walk_at "run"
    refine st_inT (b := true) rfl rfl rfl ?_
    walk_at "run"
    refine st_iso h.ea (by rfl) ?_
    walk_at "run"
    refine use_put hb (by omega) h fun S1 h1 e1 => ?_
    walk_at "run"
    refine st_iso h1.ea (by rfl) ?_
    walk_at "run"
    refine use_add (.call e th) hl (by omega) h1 fun S2 h2 e2 => ?_
    refine .of (q S2 [.call e th] _ N h2 (Nat.le_refl _) (by omega) (by rw [cnt]; rfl) (by simp only [List.length_cons, List.length_nil]; omega) ?_ (e1.trans e2))
    rw [mk_put]
    exact LyS.call
  | loop b =>
    rw [hS] at hn hn2
    rw [nx] at hx q
    obtain ⟨m, rfl⟩ : ∃ m, n = m + 1 := ⟨n - 1, by omega⟩
    rw [hs_lay_body m rfl]
    rw [sD]
    walk_at "run"
    refine st_inT (b := false) rfl rfl rfl ?_
    walk_at "run"
    refine st_iso h.ea (by rfl) ?_
    refine use_mark h fun S1 h1 e1 => ?_
    walk_at "run"
    refine st_iso h1.ea (by rfl) ?_
    walk_at "run"
    refine use_put (by omega) (by omega) h1 fun S2 h2 e2 => ?_
    walk_at "run"
    refine st_iso h2.ea (by rfl) ?_
    walk_at "run"
    refine use_add (.choose [N, th]) (by omega) (by omega) h2 fun S3 h3 e3 => ?_
    walk_at "run"
    refine use_lay h3 (by omega) (by omega) (by omega) (by omega) fun S4 nr kv' N' h4 n1 n2 n3 n9 l4 e4 => ?_
    rw [List.append_assoc] at h4
    refine .of (q S4 ([.choose [N, th]] ++ nr) kv' N' h4 (by omega) (by omega) (by rw [cnt, List.length_append, n3]; rfl) (by rw [List.length_append]; simp only [List.length_cons, List.length_nil]; omega) ?_ (((e1.trans e2).trans e3).trans e4))
    refine LyS.loop hb n1 ?_
    rw [mk_put, List.length_append] at l4
    exact l4
  | either bs =>
    rw [hS] at hn hn2
    rw [nx] at hx q
    obtain ⟨m, rfl⟩ : ∃ m, n = m + 1 := ⟨n - 1, by omega⟩
    rw [hs_lay_body m rfl]
    rw [sD]
    walk_at "run"
    refine st_inT (b := false) rfl rfl rfl ?_
    walk_at "run"
    rw [csD_map]
    refine lc_marks (bs.map fun b => D.tup (bD b)) [] N S (by rw [List.length_map]; simp only [List.length_nil]; omega) h fun S1 h1 e1 => ?_
    rw [List.length_map] at h1 ⊢
    walk_at "run"
    refine st_iso h1.ea (by rfl) ?_
    walk_at "run"
    refine use_put (by omega) (by omega) h1 fun S2 h2 e2 => ?_
    walk_at "run"
    refine st_iso h2.ea (by rfl) ?_
    walk_at "run"
    refine use_add (.choose (List.range' N bs.length)) (by omega) (by omega) h2 fun S3 h3 e3 => ?_
    walk_at "run"
    rw [use_isAll_l]
    walk_at "run"
    rw [use_isAll_t]
    walk_at "run"
    refine ⟨rfl, ?_⟩
    show forL _ _ _ ((((List.range' N bs.length).map iD).zip (bs.map fun b => D.tup (bD b))).map fun z => D.key [z.1, z.2]) _ _ _
    have hlen : ((((List.range' N bs.length).map iD).zip (bs.map fun b => D.tup (bD b))).map fun z => D.key [z.1, z.2]).length = bs.length := by simp
    refine forL_inv (fun j δ S' => ∃ nr kv' N' x7 x8, Lo S' a r d ((nr0 ++ [.choose (List.range' N bs.length)]) ++ nr) kv' N' ∧ N + bs.length + nr.length ≤ N' ∧ N' + nxC (bs.drop j) ≤ N + bs.length + nxC bs ∧ Els a r d S S' ∧
        (∀ nr2 M2 N2, Ly (mk kv') M2 (KC N bs.length j N' N2) (GC (List.range' (N + j) (bs.length - j)) th la nr2 (nr0.length + 1 + nr.length) (bs.drop j)) → N' ≤ N2 → nr2.length = cntC (bs.drop j) →
          Ly (mk (nput kv he (.row nr0.length))) M2 (KC N bs.length 0 (N + bs.length) N2) (GC (List.range' N bs.length) th la (nr ++ nr2) (nr0.length + 1) bs) ∧ (nr ++ nr2).length = cntC bs) ∧
        δ = [some (.ref a), some (.tup [.str "either", .tup (bs.map fun b => D.tup (bD b))]), some (iD he), some (iD th), some (iD la), some (.str "either"), some (.lst ((List.range' N bs.length).map iD)), x7, x8, none, none]) (fun _ _ _ _ => ⟨True.intro, True.intro⟩) _ 0 _ _
        ⟨[], _, N + bs.length, none, none, by rw [List.append_nil]; exact h3, Nat.le_refl _, by rw [List.drop_zero]; exact Nat.le_refl _, (e1.trans e2).trans e3, fun nr2 M2 N2 l _ e => ⟨l, e⟩, rfl⟩ ?_ ?_
    · rintro j dd _ S' hj ⟨nr, kv', N', x7, x8, hh, hN, hsz, el, cps, rfl⟩ D2 hrt _ hnx _
      obtain ⟨xa, ya, hxa, hya, rfl⟩ := zip_at hj
      rw [List.getElem?_map] at hxa hya
      obtain ⟨b, hb2, rfl⟩ := Option.map_eq_some_iff.mp hya
      obtain ⟨v, hv, rfl⟩ := Option.map_eq_some_iff.mp hxa
      have hjl : j < bs.length := (List.getElem?_eq_some_iff.mp hb2).1
      rw [List.getElem?_range' hjl, Nat.one_mul] at hv
      cases hv
      rw [Nat.zero_add] at hsz cps hnx
      have hm := List.mem_of_getElem? hb2
      have hh2 := hB_mem hm
      have ed := drop_at hb2
      rw [ed] at hsz cps
      rw [nxC] at hsz
      rw [cntC, show bs.length - j = (bs.length - (j + 1)) + 1 by omega, List.range'_succ, show N + j + 1 = N + (j + 1) by omega] at cps
      walk_at "run"
      refine use_lay hh (by omega) (by omega) (by omega) (by omega) fun S4 nr2 kv2 N2 h4 n1 n2 n3 n9 l4 e4 => ?_
      walk_at "run"
      have hl0 : (nr0 ++ [Mr.choose (List.range' N bs.length)] ++ nr).length = nr0.length + 1 + nr.length := by simp only [List.length_append, List.length_cons, List.length_nil]
      rw [hl0] at l4
      refine hnx _ _ ⟨nr ++ nr2, kv2, N2, _, _, by rw [← List.append_assoc]; exact h4, by rw [List.length_append]; omega, by omega, el.trans e4, fun nr3 M3 N3 l n4 n5 => ?_, rfl⟩
      rw [List.append_assoc]
      refine cps (nr2 ++ nr3) M3 N3 (GC.cons (K2 := KC N bs.length (j + 1) N2 N3) l4 ?_ ?_ ?_) (by omega) (by rw [List.length_append, n3, n5])
      · rw [List.length_append, n3, ← Nat.add_assoc (nr0.length + 1)] at l
        exact l
      · intro m h k
        unfold Ks at h
        unfold KC at k
        omega
      · intro m h
        unfold Ks KC at h
        unfold KC
        omega
    · rintro _ S' ⟨nr, kv', N', x7, x8, hh, hN, hsz, el, cps, rfl⟩
      rw [hlen, Nat.zero_add, List.drop_length, Nat.sub_self] at cps
      rw [hlen, Nat.zero_add, List.drop_length, nxC] at hsz
      obtain ⟨c1, c2⟩ := cps [] (mk kv') N' (GC.nil.imp (fun _ z => z.elim) fun _ z => z) (Nat.le_refl _) (by rw [cntC]; rfl)
      rw [List.append_nil] at c1 c2
      rw [List.append_assoc] at hh
      refine .of (q S' ([.choose (List.range' N bs.length)] ++ nr) kv' N' hh (by omega) (by omega) (by rw [cnt, List.length_append, c2]; rfl) (by rw [List.length_append]; simp only [List.length_cons, List.length_nil]; omega) ?_ el)
      rw [mk_put] at c1
      exact LyS.either (fun m hm => by unfold KC at hm; omega) c1
  | rep k b =>
    rw [hS] at hn hn2
    rw [nx] at hx q
    obtain ⟨m, rfl⟩ : ∃ m, n = m + 1 := ⟨n - 1, by omega⟩
    rw [hs_lay_body m rfl]
    rw [sD]
    walk_at "run"
    refine st_inT (b := false) rfl rfl rfl ?_
    walk_at "run"
    have hk : k ≤ k * (1 + nxB b) := Nat.le_mul_of_pos_right _ (by omega)
    refine ⟨by omega, by omega, ?_⟩
    rw [Int.toNat_natCast]
    refine forL_inv (fun j δ S' => ∃ nr kv' N' hj x9 x10, Lo S' a r d (nr0 ++ nr) kv' N' ∧ hj < N' ∧ N + nr.length ≤ N' ∧ N' + (k - j) * (1 + nxB b) ≤ N + k * (1 + nxB b) ∧ Els a r d S S' ∧
        (∀ nr2 M2 N2, LyR (mk kv') M2 N' N2 hj th la nr2 (nr0.length + nr.length) (k - j) b → N' ≤ N2 → nr2.length = (k - j) * cntB b →
          LyR (mk kv) M2 N N2 he th la (nr ++ nr2) nr0.length k b ∧ (nr ++ nr2).length = k * cntB b) ∧
        δ = [some (.ref a), some (.tup [.str "repeat", iD k, .tup (bD b)]), some (iD hj), some (iD th), some (iD la), some (.str "repeat"), none, none, none, x9, x10]) (fun _ _ _ _ => True.intro) _ 0 _ _
        ⟨[], kv, N, he, none, none, by rw [List.append_nil]; exact h, hb, Nat.le_refl _, Nat.le_refl _, Els.refl, fun nr2 M2 N2 l _ e => ⟨l, e⟩, rfl⟩ ?_ ?_
    · rintro j dd _ S' hj ⟨nr, kv', N', hje, x9, x10, hh, hhe, hN, hsz, el, cps, rfl⟩ D2 hrt _ hnx _
      obtain ⟨hjk, rfl⟩ := rng_at hj
      rw [Nat.zero_add] at hsz cps hnx
      have e0 : k - j = (k - (j + 1)) + 1 := by omega
      rw [e0] at hsz cps
      have e9 : (k - (j + 1) + 1) * (1 + nxB b) = (k - (j + 1)) * (1 + nxB b) + (1 + nxB b) := Nat.succ_mul _ _
      have e8 : (k - (j + 1) + 1) * cntB b = (k - (j + 1)) * cntB b + cntB b := Nat.succ_mul _ _
      rw [e9] at hsz
      rw [e8] at cps
      walk_at "run"
      refine st_iso hh.ea (by rfl) ?_
      refine use_mark hh fun S1 h1 e1 => ?_
      walk_at "run"
      refine use_lay h1 (by omega) (by omega) (by omega) (by omega) fun S4 nr2 kv2 N2 h4 n1 n2 n3 n9 l4 e4 => ?_
      walk_at "run"
      rw [List.length_append] at l4
      refine hnx _ _ ⟨nr ++ nr2, kv2, N2, N', _, _, by rw [← List.append_assoc]; exact h4, by omega, by rw [List.length_append]; omega, by omega, (el.trans e1).trans e4, fun nr3 M3 N3 l n4 n5 => ?_, rfl⟩
      rw [List.append_assoc]
      refine cps (nr2 ++ nr3) M3 N3 (LyR.succ hhe n1 n4 l4 ?_) (by omega) (by rw [List.length_append, n3, n5]; omega)
      rw [List.length_append, n3, ← Nat.add_assoc] at l
      exact l
    · rintro _ S' ⟨nr, kv', N', hje, x9, x10, hh, hhe, hN, hsz, el, cps, rfl⟩
      rw [rng_len, Nat.zero_add, Nat.sub_self] at hsz cps
      rw [Nat.zero_mul] at hsz cps
      walk_at "run"
      refine st_fld hh.ea (d := .ref d) (by rfl) ?_
      walk_at "run"
      refine hh.dput (v := .like th) hhe (by omega) fun S2 h2 e2 => ?_
      obtain ⟨c1, c2⟩ := cps [] (mset (mk kv') hje (.like th)) N' LyR.zero (Nat.le_refl _) rfl
      rw [List.append_nil] at c1 c2
      rw [← mk_put] at c1
      exact .of (q S2 nr _ N' h2 (by omega) (by omega) (by rw [cnt]; exact c2) (by omega) (LyS.rep c1) (el.trans e2))
end L3

set_option Elab.async false
set_option maxRecDepth 100000
set_option linter.all false
set_option maxHeartbeats 4000000
namespace L3
open PySem L2 L3.KL
local macro_rules | `(tactic| walk_at "cond") => `(tactic| first | omega | (simp only [List.length_append, List.length_cons, List.length_nil, List.length_take, List.length_drop, List.length_map, List.length_reverse]; omega) | rfl | decide)
local macro_rules | `(tactic| walk_at "side") => `(tactic| first | assumption | omega | (simp only [List.length_append, List.length_cons, List.length_nil, List.length_take, List.length_drop, List.length_map, List.length_reverse, sizeLine_val]; omega) | decide)
local macro_rules | `(tactic| walk_at "st") => `(tactic| first
  | with_reducible refine st_ix0 ?_ | with_reducible refine st_ix1 ?_ | with_reducible refine st_ix2 ?_ | with_reducible refine st_ix3 ?_ | with_reducible refine st_ix4 ?_
  | with_reducible refine st_add_pp (by walk_at "side") ?_ | with_reducible refine st_add_p1 (by walk_at "side") ?_ | with_reducible refine st_add_1p (by walk_at "side") ?_
  | with_reducible refine st_add ?_ | with_reducible refine st_sub ?_ | with_reducible refine st_iadd ?_ | with_reducible refine st_neg ?_
  | with_reducible refine st_len_p ?_ | with_reducible refine st_len_lp ?_ | with_reducible refine st_len_rp ?_ | with_reducible refine st_len_t ?_ | with_reducible refine st_len_l ?_
  | with_reducible refine st_add_t (by walk_at "side") ?_ | with_reducible refine st_add_l (by walk_at "side") ?_ | with_reducible refine st_add_s (by walk_at "side") ?_
  | with_reducible refine st_tru_bl ?_ | with_reducible refine st_tru_int ?_ | with_reducible refine st_tru_tup ?_ | with_reducible refine st_tru_lst ?_ | with_reducible refine st_tru_non ?_
  | with_reducible refine st_at (by assumption) ?_ | with_reducible refine st_atl (by assumption) ?_
  | with_reducible refine st_iteT ?_ | with_reducible refine st_iteF ?_ | with_reducible refine st_not ?_
  | with_reducible refine st_lt ?_ | with_reducible refine st_le ?_ | with_reducible refine st_gt ?_ | with_reducible refine st_ge ?_ | with_reducible refine st_eqi ?_ | with_reducible refine st_nei ?_ | with_reducible refine st_eqs ?_ | with_reducible refine st_nes ?_ | with_reducible refine st_eqb ?_
  | with_reducible refine st_isn_non ?_ | with_reducible refine st_isn_int ?_ | with_reducible refine st_isn_tup ?_ | with_reducible refine st_isn_str ?_ | with_reducible refine st_isn_bl ?_
  | with_reducible refine st_isnt_non ?_ | with_reducible refine st_isnt_int ?_ | with_reducible refine st_isnt_tup ?_ | with_reducible refine st_isnt_str ?_
  | with_reducible refine st_int ?_ | with_reducible refine st_intb ?_ | with_reducible refine st_abs ?_ | with_reducible refine st_min2 ?_ | with_reducible refine st_max2 ?_
  | with_reducible refine st_tup_l ?_ | with_reducible refine st_tup_t ?_ | with_reducible refine st_lst_t ?_ | with_reducible refine st_lst_l ?_
  | with_reducible refine st_sl_from ?_ | with_reducible refine st_sl_to ?_
  | with_reducible refine st_lx0 ?_ | with_reducible refine st_lx1 ?_ | with_reducible refine st_lx2 ?_ | with_reducible refine st_lx3 ?_
  | with_reducible refine st_mod (by walk_at "side") ?_ | with_reducible refine st_div (by walk_at "side") ?_ | with_reducible refine st_mul (by walk_at "side") ?_ | with_reducible refine st_mul' (by walk_at "side") ?_
  | with_reducible refine st_isi rfl ?_
  | (with_reducible refine And.intro (Nat.le_of_ble_eq_true rfl) ?_)
  | (refine And.intro (rfl : (_ : Nat) = _) ?_)
  | with_reducible refine st_dT (by walk_at "cond") ?_ | with_reducible refine st_dF (by walk_at "cond") ?_)
local macro_rules | `(tactic| walk_at "hd") => `(tactic| (with_reducible conv => whnf))
local macro_rules | `(tactic| walk_at "run") => `(tactic| ((with_reducible conv => whnf); repeat (walk_at "st"; (with_reducible conv => whnf))))
/-! ### from marks to rows -/
theorem lcL_rel {α β : Type} {R : α → β → Prop} {kp : Sto → Prop} {g : DTG} {te : DTE} {vs : List Nat} {δ : DSt} {S : Sto} {Q : DK} (e : α → D) (v : β → D) (hk : kp S) : ∀ {l : List α} {m : List β}, All2 R l m → ∀ (acc : List D), acc.length + l.length ≤ sizeLine →
    (∀ a b, a ∈ l → b ∈ m → R a b → ∀ P : DK, P (v b) S → g (e a) (dwipe δ vs) S fun δ2 S2 => te δ2 S2 P) → Q (.lst (acc ++ m.map v)) S → lcL kp g dYes te vs δ (l.map e) acc S Q
  | _, _, .nil, acc, _, _, q => ⟨hk, by simpa using q⟩
  | _, _, .cons (a := a) (b := b) (l := l) (m := m) r rr, acc, hz, he, q => by
    refine ⟨hk, by simp only [List.length_cons] at hz; omega, ?_⟩
    refine he a b List.mem_cons_self List.mem_cons_self r _ ?_
    refine lcL_rel e v hk rr (acc ++ [v b]) (by simp only [List.length_append, List.length_cons, List.length_nil] at hz ⊢; omega) (fun x y h1 h2 => he x y (List.mem_cons_of_mem _ h1) (List.mem_cons_of_mem _ h2)) ?_
    simpa using q
theorem lo_dget {a r d : Addr} {nr : List Mr} {kv : Kv} {N m : Nat} {v : MV} {S : Sto} (h : Lo S a r d nr kv N) (e : mk kv m = some v) : dGetD S (.ref d) (iD m) = some (some (mvD v)) := dget_eq h.ed (y := iD m) rfl (by rw [val_nD, show nlk kv m = some v from e]; rfl)
def sp_row_at (x y : D) (S : Sto) (Q : DK) : Prop := ∃ a r d nr kv N m t, x = .ref a ∧ y = iD m ∧ Lo S a r d nr kv N ∧ Rs (mk kv) m t ∧ Q (iD t) S
-- row_at : 0=layer 1=mark 2=told
def rd_row_at : DTS :=
    (dSeq (dAsg (dDGet (dFld A_Layer "marks" (dVar 0)) (dVar 1)) (dTg (.nm 2)))
    (dSeq (dWhile (dTest (dCB vIsi (dCons (dVar 2) (dCons (dC (.ty "tuple")) dNil)))) (dAsg (dDGet (dFld A_Layer "marks" (dVar 0)) (dOp vIx (dVar 2) (dC (.int 1)))) (dTg (.nm 2))))
    (dRet (dVar 2))))
set_option pp.maxSteps 300
theorem rd_row_at_ok : ∀ ds S P, (a2 sp_row_at) ds S P → rd_row_at (DEnds.of P) (dstart ["layer", "mark", "told"] ds) S := by
  intro ds S P hsp
  rcases ds with _ | ⟨x, _ | ⟨y, _ | ⟨z, ds⟩⟩⟩ <;> first | exact (hsp : False).elim | skip
  obtain ⟨a, r, d, nr, kv, N, m, t, rfl, rfl, h, ⟨dp, hr⟩, q⟩ := (hsp : sp_row_at x y S P)
  unfold rd_row_at
  walk_at "run"
  refine st_fld h.ea (d := .ref d) (by rfl) ?_
  walk_at "run"
  obtain ⟨v, hv⟩ : ∃ v, mk kv m = some v := by cases hr <;> exact ⟨_, by assumption⟩
  refine ⟨_, lo_dget h hv, ?_⟩
  walk_at "run"
  refine ⟨dp + 1, whileN_inv (fun n δ S' => S' = S ∧ ∃ m' v, Res (mk kv) n m' t ∧ mk kv m' = some v ∧ δ = [some (.ref a), some (iD m), some (mvD v)]) ?_ dp _ _ ⟨rfl, m, v, hr, hv, rfl⟩⟩
  rintro n _ _ ⟨rfl, m', v', hr', hv', rfl⟩ D2 hrt _ hnx _
  cases hr' with
  | row e =>
    rw [hv'] at e
    cases e
    simp only [mvD]
    walk_at "run"
    exact .of q
  | like e k =>
    rw [hv'] at e
    cases e
    rename_i m2 n2
    obtain ⟨v2, hv2⟩ : ∃ v, mk kv m2 = some v := by cases k <;> exact ⟨_, by assumption⟩
    simp only [mvD]
    walk_at "run"
    refine st_fld h.ea (d := .ref d) (by rfl) ?_
    walk_at "run"
    refine ⟨_, lo_dget h hv2, ?_⟩
    walk_at "run"
    exact hnx _ _ _ rfl ⟨rfl, m2, v2, k, hv2, rfl⟩
theorem use_row_at {a r d : Addr} {nr : List Mr} {kv : Kv} {N m t : Nat} {S : Sto} {Q : DK} (h : Lo S a r d nr kv N) (k : Rs (mk kv) m t) (q : Q (iD t) S) : sp_row_at (.ref a) (iD m) S Q := ⟨a, r, d, nr, kv, N, m, t, rfl, rfl, h, k, q⟩
/-! deeds -/
abbrev Dl := List (D × D × D)
abbrev deedsD (dl : Dl) : D := .tup (dl.map fun t => .tup [t.1, t.2.1, t.2.2])
def offOf (dl : Dl) (d : Nat) : D := ((dl[d]?).map fun t => t.2.1).getD .non
def onOf (dl : Dl) (d : Nat) : D := ((dl[d]?).map fun t => t.2.2).getD .non
def rwD (dl : Dl) : Rw → D
  | .deed d t => .tup [.str "deed", offOf dl d, onOf dl d, iD t]
  | .call w t => .tup [.str "call", iD w, iD t]
  | .choose ts => .tup [.str "choose", .tup (ts.map iD)]
  | .ret => .tup [.str "return"]
def sp_told_row (x y z : D) (S : Sto) (Q : DK) : Prop := ∃ a r d nr kv N dl w rw_, x = .ref a ∧ y = deedsD dl ∧ z = mrD w ∧ Lo S a r d nr kv N ∧ RR (mk kv) w rw_ ∧ okR dl.length rw_ ∧ (∀ ts, rw_ = .choose ts → ts.length ≤ 10000000) ∧ Q (rwD dl rw_) S
-- told_row : 0=layer 1=deeds 2=row 3=mark
def rd_told_row : DTS :=
    (dSeq (dIf (dTest (dOp vEq (dOp vIx (dVar 2) (dC (.int 0))) (dC (.str "choose")))) (dRet (dTup (dCons (dOp vIx (dVar 2) (dC (.int 0))) (dCons (dCB vTuple (dCons (dLc (iSeq (dOp vIx (dVar 2) (dC (.int 1)))) (dTg (.nm 3)) dYes (dCall (a2 sp_row_at) (dCons (dVar 0) (dCons (dVar 3) dNil))) [3]) dNil)) dNil)))) dNext)
    (dSeq (dIf (dTest (dOp vEq (dOp vIx (dVar 2) (dC (.int 0))) (dC (.str "deed")))) (dRet (dTup (dCons (dOp vIx (dVar 2) (dC (.int 0))) (dCons (dOp vIx (dOp vIx (dVar 1) (dOp vIx (dVar 2) (dC (.int 1)))) (dC (.int 1))) (dCons (dOp vIx (dOp vIx (dVar 1) (dOp vIx (dVar 2) (dC (.int 1)))) (dC (.int 2))) (dCons (dCall (a2 sp_row_at) (dCons (dVar 0) (dCons (dOp vIx (dVar 2) (dC (.int 2))) dNil))) dNil)))))) dNext)
    (dRet (dIfE (dTest (dOp vEq (dOp vIx (dVar 2) (dC (.int 0))) (dC (.str "call")))) (dTup (dCons (dOp vIx (dVar 2) (dC (.int 0))) (dCons (dOp vIx (dVar 2) (dC (.int 1))) (dCons (dCall (a2 sp_row_at) (dCons (dVar 0) (dCons (dOp vIx (dVar 2) (dC (.int 2))) dNil))) dNil)))) (dVar 2)))))
theorem rd_told_row_ok : ∀ ds S P, (a3 sp_told_row) ds S P → rd_told_row (DEnds.of P) (dstart ["layer", "deeds", "row", "mark"] ds) S := by
  intro ds S P hsp
  rcases ds with _ | ⟨x, _ | ⟨y, _ | ⟨z, _ | ⟨u, ds⟩⟩⟩⟩ <;> first | exact (hsp : False).elim | skip
  obtain ⟨a, r, d, nr, kv, N, dl, w, rw_, rfl, rfl, rfl, h, rr, ok, sz, q⟩ := (hsp : sp_told_row x y z S P)
  unfold rd_told_row
  cases rr with
  | ret =>
    simp only [mrD]
    walk_at "run"
    exact .of q
  | call k =>
    simp only [mrD]
    walk_at "run"
    refine use_row_at h k ?_
    walk_at "run"
    exact .of q
  | choose k =>
    simp only [mrD]
    walk_at "run"
    rw [it_l]
    walk_at "run"
    refine lcL_rel iD iD True.intro k [] (by have := sz _ rfl; rw [k.len, sizeLine_v]; simp only [List.length_nil]; omega) (fun m t _ _ hk P hP => ?_) ?_
    · walk_at "run"
      refine use_row_at h hk ?_
      exact hP
    · walk_at "run"
      exact .of q
  | deed k =>
    rename_i dd t r2
    simp only [mrD]
    obtain ⟨⟨nm, of_, on_⟩, hd⟩ : ∃ u, dl[dd]? = some u := ⟨_, List.getElem?_eq_getElem ok⟩
    have e1 : (dl.map fun t => D.tup [t.1, t.2.1, t.2.2])[dd]? = some (.tup [nm, of_, on_]) := by rw [List.getElem?_map, hd]; rfl
    have e2 : rwD dl (.deed dd r2) = .tup [.str "deed", of_, on_, iD r2] := by simp only [rwD, offOf, onOf, hd]; rfl
    rw [e2] at q
    walk_at "run"
    refine use_row_at h k ?_
    walk_at "run"
    exact .of q
theorem use_told_row {a r d : Addr} {nr : List Mr} {kv : Kv} {N : Nat} {dl : Dl} {w : Mr} {rw_ : Rw} {S : Sto} {Q : DK} (h : Lo S a r d nr kv N) (rr : RR (mk kv) w rw_) (ok : okR dl.length rw_) (sz : ∀ ts, rw_ = .choose ts → ts.length ≤ 10000000) (q : Q (rwD dl rw_) S) : sp_told_row (.ref a) (deedsD dl) (mrD w) S Q := ⟨a, r, d, nr, kv, N, dl, w, rw_, rfl, rfl, rfl, h, rr, ok, sz, q⟩
end L3

set_option Elab.async false
set_option maxRecDepth 100000
set_option linter.all false
set_option maxHeartbeats 4000000
namespace L3
open PySem L2 L3.KL
local macro_rules | `(tactic| walk_at "cond") => `(tactic| first | omega | (simp only [List.length_append, List.length_cons, List.length_nil, List.length_take, List.length_drop, List.length_map, List.length_reverse]; omega) | rfl | decide)
local macro_rules | `(tactic| walk_at "side") => `(tactic| first | assumption | omega | (simp only [List.length_append, List.length_cons, List.length_nil, List.length_take, List.length_drop, List.length_map, List.length_reverse, sizeLine_val]; omega) | decide)
local macro_rules | `(tactic| walk_at "st") => `(tactic| first
  | with_reducible refine st_ix0 ?_ | with_reducible refine st_ix1 ?_ | with_reducible refine st_ix2 ?_ | with_reducible refine st_ix3 ?_ | with_reducible refine st_ix4 ?_
  | with_reducible refine st_add_pp (by walk_at "side") ?_ | with_reducible refine st_add_p1 (by walk_at "side") ?_ | with_reducible refine st_add_1p (by walk_at "side") ?_
  | with_reducible refine st_add ?_ | with_reducible refine st_sub ?_ | with_reducible refine st_iadd ?_ | with_reducible refine st_neg ?_
  | with_reducible refine st_len_p ?_ | with_reducible refine st_len_lp ?_ | with_reducible refine st_len_rp ?_ | with_reducible refine st_len_t ?_ | with_reducible refine st_len_l ?_
  | with_reducible refine st_add_t (by walk_at "side") ?_ | with_reducible refine st_add_l (by walk_at "side") ?_ | with_reducible refine st_add_s (by walk_at "side") ?_
  | with_reducible refine st_tru_bl ?_ | with_reducible refine st_tru_int ?_ | with_reducible refine st_tru_tup ?_ | with_reducible refine st_tru_lst ?_ | with_reducible refine st_tru_non ?_
  | with_reducible refine st_at (by assumption) ?_ | with_reducible refine st_atl (by assumption) ?_
  | with_reducible refine st_iteT ?_ | with_reducible refine st_iteF ?_ | with_reducible refine st_not ?_
  | with_reducible refine st_lt ?_ | with_reducible refine st_le ?_ | with_reducible refine st_gt ?_ | with_reducible refine st_ge ?_ | with_reducible refine st_eqi ?_ | with_reducible refine st_nei ?_ | with_reducible refine st_eqs ?_ | with_reducible refine st_nes ?_ | with_reducible refine st_eqb ?_
  | with_reducible refine st_isn_non ?_ | with_reducible refine st_isn_int ?_ | with_reducible refine st_isn_tup ?_ | with_reducible refine st_isn_str ?_ | with_reducible refine st_isn_bl ?_
  | with_reducible refine st_isnt_non ?_ | with_reducible refine st_isnt_int ?_ | with_reducible refine st_isnt_tup ?_ | with_reducible refine st_isnt_str ?_
  | with_reducible refine st_int ?_ | with_reducible refine st_intb ?_ | with_reducible refine st_abs ?_ | with_reducible refine st_min2 ?_ | with_reducible refine st_max2 ?_
  | with_reducible refine st_tup_l ?_ | with_reducible refine st_tup_t ?_ | with_reducible refine st_lst_t ?_ | with_reducible refine st_lst_l ?_
  | with_reducible refine st_sl_from ?_ | with_reducible refine st_sl_to ?_
  | with_reducible refine st_lx0 ?_ | with_reducible refine st_lx1 ?_ | with_reducible refine st_lx2 ?_ | with_reducible refine st_lx3 ?_
  | with_reducible refine st_mod (by walk_at "side") ?_ | with_reducible refine st_div (by walk_at "side") ?_ | with_reducible refine st_mul (by walk_at "side") ?_ | with_reducible refine st_mul' (by walk_at "side") ?_
  | with_reducible refine st_isi rfl ?_
  | (with_reducible refine And.intro (Nat.le_of_ble_eq_true rfl) ?_)
  | (refine And.intro (rfl : (_ : Nat) = _) ?_)
  | with_reducible refine st_dT (by walk_at "cond") ?_ | with_reducible refine st_dF (by walk_at "cond") ?_)
local macro_rules | `(tactic| walk_at "hd") => `(tactic| (with_reducible conv => whnf))
local macro_rules | `(tactic| walk_at "run") => `(tactic| ((with_reducible conv => whnf); repeat (walk_at "st"; (with_reducible conv => whnf))))
/-! ### the code of a program -/
/-- a body that may be laid -/
structure Fit (nd : Nat) (b : List Stm) : Prop where
  ok : okB nd b = true
  h : hB b ≤ 20
  n : nxB b ≤ 8000000
def wordD (dl : Dl) (b : List Stm) : D := .tup ((word b).map (rwD dl))
def sp_word_code (x y : D) (S : Sto) (Q : DK) : Prop := ∃ dl b, x = deedsD dl ∧ y = .tup (bD b) ∧ Fit dl.length b ∧ Q (wordD dl b) S
-- word_code : 0=deeds 1=body 2=layer 3=begin 4=last 5=row
def rd_word_code : DTS :=
    (dSeq (dAsg (dMake A_Layer (a1 sp_Layer_init) dNil) (dTg (.nm 2)))
    (dSeq (dAsg (dMeth A_Layer "mark" (a1 sp_Layer_mark) (dVar 2) dNil) (dTg (.nm 3)))
    (dSeq (dAsg (dMeth A_Layer "mark" (a1 sp_Layer_mark) (dVar 2) dNil) (dTg (.nm 4)))
    (dSeq (dDrop (dCall (a5 sp_lay_body) (dCons (dVar 2) (dCons (dVar 1) (dCons (dVar 3) (dCons (dVar 4) (dCons (dVar 4) dNil)))))))
    (dSeq (dDrop (dMeth A_Layer "put" (a2 sp_Layer_put) (dVar 2) (dCons (dVar 4) dNil)))
    (dSeq (dDrop (dMeth A_Layer "add" (a2 sp_Layer_add) (dVar 2) (dCons (dTup (dCons (dC (.str "return")) dNil)) dNil)))
    (dRet (dCB vTuple (dCons (dLc (iSeq (dFld A_Layer "rows" (dVar 2))) (dTg (.nm 5)) dYes (dCall (a3 sp_told_row) (dCons (dVar 2) (dCons (dVar 0) (dCons (dVar 5) dNil)))) [5]) dNil)))))))))
set_option pp.maxSteps 300
theorem rd_word_code_ok : ∀ ds S P, (a2 sp_word_code) ds S P → rd_word_code (DEnds.of P) (dstart ["deeds", "body", "layer", "begin", "last", "row"] ds) S := by
  intro ds S P hsp
  rcases ds with _ | ⟨x, _ | ⟨y, _ | ⟨z, ds⟩⟩⟩ <;> first | exact (hsp : False).elim | skip
  obtain ⟨dl, b, rfl, rfl, ft, q⟩ := (hsp : sp_word_code x y S P)
  unfold rd_word_code
  walk_at "run"
  intro a ha
  refine ⟨a, rfl, sup_same, fun r d S1 hr hd h1 k1 => ⟨rfl, ?_⟩⟩
  have ra : r ≠ a := fun z => h1.ar z.symm
  have da : d ≠ a := fun z => h1.ad z.symm
  have hr0 : S r = none := by rw [sup_ne ra] at hr; exact hr
  have hd0 : S d = none := by rw [sup_ne da] at hd; exact hd
  have keep0 : ∀ c o, S c = some o → S1 c = some o := fun c o h => k1 c o (fun z => by subst z; rw [ha] at h; cases h) (by rw [sup_ne fun z => by subst z; rw [ha] at h; cases h]; exact h)
  walk_at "run"
  refine st_iso h1.ea (by rfl) ?_
  refine use_mark h1 fun S2 h2 e2 => ?_
  walk_at "run"
  refine st_iso h2.ea (by rfl) ?_
  refine use_mark h2 fun S3 h3 e3 => ?_
  walk_at "run"
  have fh := ft.h
  have fn := ft.n
  refine use_lay (n := 20) (bg := 0) (bh := 1) (la := 1) h3 (by omega) fh fh (by omega) fun S4 nr kv' N' h4 n1 n2 n3 n9 l4 e4 => ?_
  rw [List.nil_append] at h4
  walk_at "run"
  refine st_iso h4.ea (by rfl) ?_
  refine use_put (m := 1) (by omega) (by omega) h4 fun S5 h5 e5 => ?_
  walk_at "run"
  refine st_iso h5.ea (by rfl) ?_
  walk_at "run"
  refine use_add .ret (by omega) (by omega) h5 fun S6 h6 e6 => ?_
  walk_at "run"
  refine st_fld h6.ea (d := .ref r) (by rfl) ?_
  walk_at "run"
  rw [it_r h6.er]
  have all := word_laid l4 (show 1 < 0 + 1 + 1 by omega) (by decide) n3
  rw [← mk_put] at all
  have wl := all.len
  have cn := cntB_nx b
  walk_at "run"
  refine lcL_rel mrD (rwD dl) h6.er all [] (by rw [wl, word_len, sizeLine_v]; simp only [List.length_nil]; omega) (fun w x hw hx rr P' hP => ?_) ?_
  · walk_at "run"
    have wk := word_ok ft.ok x hx
    refine use_told_row h6 rr wk.1 (fun ts e => by have := wk.2 ts e; omega) ?_
    exact hP
  · walk_at "run"
    refine ⟨_, S, fun c o hc => ?_, .refl _, q⟩
    have hk := keep0 c o hc
    have c1 : c ≠ a := fun z => by subst z; rw [ha] at hc; cases hc
    have c2 : c ≠ r := fun z => by subst z; rw [hr0] at hc; cases hc
    have c3 : c ≠ d := fun z => by subst z; rw [hd0] at hc; cases hc
    rw [e6 c c1 c2 c3, e5 c c1 c2 c3, e4 c c1 c2 c3, e3 c c1 c2 c3, e2 c c1 c2 c3]
    exact hk
theorem use_word_code {dl : Dl} {b : List Stm} {S : Sto} {Q : DK} (f : Fit dl.length b) (q : Q (wordD dl b) S) : sp_word_code (deedsD dl) (.tup (bD b)) S Q := ⟨dl, b, rfl, rfl, f, q⟩
def codeD (dl : Dl) (bs : List (List Stm)) : D := .tup (bs.map (wordD dl))
def progD (k : D) (dl : Dl) (nm : D) (bs : List (List Stm)) : D := .tup [k, deedsD dl, nm, .tup (bs.map fun b => .tup (bD b))]
def sp_code_of (x : D) (S : Sto) (Q : DK) : Prop := ∃ k dl nm bs, x = progD k dl nm bs ∧ bs.length ≤ 1000 ∧ (∀ b ∈ bs, Fit dl.length b) ∧ Q (codeD dl bs) S
-- code_of : 0=program 1=body
def rd_code_of : DTS :=
    (dRet (dCB vTuple (dCons (dLc (iTupD (dOp vIx (dVar 0) (dC (.int 3)))) (dTg (.nm 1)) dYes (dCall (a2 sp_word_code) (dCons (dOp vIx (dVar 0) (dC (.int 1))) (dCons (dVar 1) dNil))) [1]) dNil)))
theorem rd_code_of_ok : ∀ ds S P, (a1 sp_code_of) ds S P → rd_code_of (DEnds.of P) (dstart ["program", "body"] ds) S := by
  intro ds S P hsp
  rcases ds with _ | ⟨x, _ | ⟨y, ds⟩⟩ <;> first | exact (hsp : False).elim | skip
  obtain ⟨k, dl, nm, bs, rfl, hl, ft, q⟩ := (hsp : sp_code_of x S P)
  unfold rd_code_of
  simp only [progD]
  walk_at "run"
  refine lcL_map (fun b => .tup (bD b)) (wordD dl) True.intro bs [] (by rw [sizeLine_v]; simp only [List.length_nil]; omega) (fun b hb P' hP => ?_) ?_
  · walk_at "run"
    exact use_word_code (ft b hb) hP
  · walk_at "run"
    exact .of q
theorem use_code_of {k : D} {dl : Dl} {nm : D} {bs : List (List Stm)} {S : Sto} {Q : DK} (hl : bs.length ≤ 1000) (ft : ∀ b ∈ bs, Fit dl.length b) (q : Q (codeD dl bs) S) : sp_code_of (progD k dl nm bs) S Q := ⟨k, dl, nm, bs, rfl, hl, ft, q⟩
theorem st_sumL {l : List Int} {S : Sto} {Q : DK} (h : Q (.int l.sum) S) : vSum [.lst (l.map .int)] S Q := by
  have a : ∀ l : List Int, asInts (l.map .int) = some l := fun l => by
    induction l with
    | nil => rfl
    | cons x l ih => simp only [List.map_cons, asInts, ih, Option.map_some]
  simp only [vSum, seqOf, Option.bind_some, a]
  exact h
def sp_rows_number (x : D) (S : Sto) (Q : DK) : Prop := ∃ xs : List (List D), x = .tup (xs.map .tup) ∧ xs.length ≤ 1000 ∧ Q (.int (xs.map fun l => (l.length : Int)).sum) S
-- rows_number : 0=code 1=rows
def rd_rows_number : DTS :=
    (dRet (dCB vSum (dCons (dLc (iTupD (dVar 0)) (dTg (.nm 1)) dYes (dCB vLen (dCons (dVar 1) dNil)) [1]) dNil)))
theorem rd_rows_number_ok : ∀ ds S P, (a1 sp_rows_number) ds S P → rd_rows_number (DEnds.of P) (dstart ["code", "rows"] ds) S := by
  intro ds S P hsp
  rcases ds with _ | ⟨x, _ | ⟨y, ds⟩⟩ <;> first | exact (hsp : False).elim | skip
  obtain ⟨xs, rfl, hl, q⟩ := (hsp : sp_rows_number x S P)
  unfold rd_rows_number
  walk_at "run"
  refine lcL_map D.tup (fun l => .int (l.length : Int)) True.intro xs [] (by rw [sizeLine_v]; simp only [List.length_nil]; omega) (fun b hb P' hP => ?_) ?_
  · walk_at "run"
    exact hP
  · walk_at "run"
    rw [List.nil_append, show (xs.map fun l => D.int (l.length : Int)) = (xs.map fun l => (l.length : Int)).map .int by rw [List.map_map]; rfl]
    exact st_sumL (.of q)
end L3

set_option Elab.async false
set_option maxRecDepth 100000
set_option linter.all false
set_option maxHeartbeats 4000000
namespace L3
open PySem L2 L3.KL
local macro_rules | `(tactic| walk_at "cond") => `(tactic| first | omega | (simp only [List.length_append, List.length_cons, List.length_nil, List.length_take, List.length_drop, List.length_map, List.length_reverse]; omega) | rfl | decide)
local macro_rules | `(tactic| walk_at "side") => `(tactic| first | assumption | omega | (simp only [List.length_append, List.length_cons, List.length_nil, List.length_take, List.length_drop, List.length_map, List.length_reverse, sizeLine_val]; omega) | decide)
local macro_rules | `(tactic| walk_at "st") => `(tactic| first
  | with_reducible refine st_ix0 ?_ | with_reducible refine st_ix1 ?_ | with_reducible refine st_ix2 ?_ | with_reducible refine st_ix3 ?_ | with_reducible refine st_ix4 ?_
  | with_reducible refine st_add_pp (by walk_at "side") ?_ | with_reducible refine st_add_p1 (by walk_at "side") ?_ | with_reducible refine st_add_1p (by walk_at "side") ?_
  | with_reducible refine st_add ?_ | with_reducible refine st_sub ?_ | with_reducible refine st_iadd ?_ | with_reducible refine st_neg ?_
  | with_reducible refine st_len_p ?_ | with_reducible refine st_len_lp ?_ | with_reducible refine st_len_rp ?_ | with_reducible refine st_len_t ?_ | with_reducible refine st_len_l ?_
  | with_reducible refine st_add_t (by walk_at "side") ?_ | with_reducible refine st_add_l (by walk_at "side") ?_ | with_reducible refine st_add_s (by walk_at "side") ?_
  | with_reducible refine st_tru_bl ?_ | with_reducible refine st_tru_int ?_ | with_reducible refine st_tru_tup ?_ | with_reducible refine st_tru_lst ?_ | with_reducible refine st_tru_non ?_
  | with_reducible refine st_at (by assumption) ?_ | with_reducible refine st_atl (by assumption) ?_
  | with_reducible refine st_iteT ?_ | with_reducible refine st_iteF ?_ | with_reducible refine st_not ?_
  | with_reducible refine st_lt ?_ | with_reducible refine st_le ?_ | with_reducible refine st_gt ?_ | with_reducible refine st_ge ?_ | with_reducible refine st_eqi ?_ | with_reducible refine st_nei ?_ | with_reducible refine st_eqs ?_ | with_reducible refine st_nes ?_ | with_reducible refine st_eqb ?_
  | with_reducible refine st_isn_non ?_ | with_reducible refine st_isn_int ?_ | with_reducible refine st_isn_tup ?_ | with_reducible refine st_isn_str ?_ | with_reducible refine st_isn_bl ?_
  | with_reducible refine st_isnt_non ?_ | with_reducible refine st_isnt_int ?_ | with_reducible refine st_isnt_tup ?_ | with_reducible refine st_isnt_str ?_
  | with_reducible refine st_int ?_ | with_reducible refine st_intb ?_ | with_reducible refine st_abs ?_ | with_reducible refine st_min2 ?_ | with_reducible refine st_max2 ?_
  | with_reducible refine st_tup_l ?_ | with_reducible refine st_tup_t ?_ | with_reducible refine st_lst_t ?_ | with_reducible refine st_lst_l ?_
  | with_reducible refine st_sl_from ?_ | with_reducible refine st_sl_to ?_
  | with_reducible refine st_lx0 ?_ | with_reducible refine st_lx1 ?_ | with_reducible refine st_lx2 ?_ | with_reducible refine st_lx3 ?_
  | with_reducible refine st_mod (by walk_at "side") ?_ | with_reducible refine st_div (by walk_at "side") ?_ | with_reducible refine st_mul (by walk_at "side") ?_ | with_reducible refine st_mul' (by walk_at "side") ?_
  | with_reducible refine st_isi rfl ?_
  | (with_reducible refine And.intro (Nat.le_of_ble_eq_true rfl) ?_)
  | (refine And.intro (rfl : (_ : Nat) = _) ?_)
  | with_reducible refine st_dT (by walk_at "cond") ?_ | with_reducible refine st_dF (by walk_at "cond") ?_)
local macro_rules | `(tactic| walk_at "hd") => `(tactic| (with_reducible conv => whnf))
local macro_rules | `(tactic| walk_at "run") => `(tactic| ((with_reducible conv => whnf); repeat (walk_at "st"; (with_reducible conv => whnf))))
/-! ### the law's numbers -/
def jugD (g : Addr) (m t : Int) : List (Key × D) := [(Sum.inr "great", .ref g), (Sum.inr "mixed", .int m), (Sum.inr "turn", .int t)]
structure Jg (S : Sto) (j g : Addr) : Prop where
  j_ : ∃ m t : Int, S j = some (.dK (jugD g m t))
  g_ : ∃ ns : List Int, S g = some (.lst (ns.map .int)) ∧ ns.length ≤ 66
theorem Jg.jg {S : Sto} {j g : Addr} (k : Jg S j g) : j ≠ g := fun z => by obtain ⟨m, t, e⟩ := k.j_; obtain ⟨n, e2, _⟩ := k.g_; subst z; rw [e] at e2; cases e2
theorem Jg.nj {S : Sto} {j g p : Addr} (k : Jg S j g) (hp : S p = none) : p ≠ j := fun z => by obtain ⟨m, n, e⟩ := k.j_; subst z; rw [hp] at e; cases e
theorem Jg.ng {S : Sto} {j g p : Addr} (k : Jg S j g) (hp : S p = none) : p ≠ g := fun z => by obtain ⟨n, e, _⟩ := k.g_; subst z; rw [hp] at e; cases e
theorem Jg.sup {S : Sto} {j g p : Addr} {o : SO} (k : Jg S j g) (h1 : p ≠ j) (h2 : p ≠ g) : Jg (L3.sup S p o) j g :=
  ⟨by rw [sup_ne (Ne.symm h1)]; exact k.j_, by rw [sup_ne (Ne.symm h2)]; exact k.g_⟩
/-- else as before -/
def Oth2 (j g : Addr) (S S' : Sto) : Prop := ∀ b, b ≠ j → b ≠ g → S' b = S b
theorem Oth2.refl {j g : Addr} {S : Sto} : Oth2 j g S S := fun _ _ _ => rfl
theorem Oth2.trans {j g : Addr} {S S1 S2 : Sto} (h : Oth2 j g S S1) (k : Oth2 j g S1 S2) : Oth2 j g S S2 := fun b h1 h2 => (k b h1 h2).trans (h b h1 h2)
def sp_law_pour (x y : D) (S : Sto) (Q : DK) : Prop := ∃ (j g : Addr) (n : Int), x = .ref j ∧ y = .int n ∧ 0 < n ∧ n < 1073741824 ∧ Jg S j g ∧ ∀ r S', 0 ≤ r → r < n → Jg S' j g → Oth2 j g S S' → Q (.int r) S'
-- _law_pour : 0=jug 1=many 2=size
def rd_law_pour : DTS :=
    (dSeq (dIf (dTest (dOp vGt (dCB vLen (dCons (dDGet (dVar 0) (dC (.str "great"))) dNil)) (dC (.int 0)))) (dSeq (dAsg (dCB vInt (dCons (dLM vPop (dDGet (dVar 0) (dC (.str "great"))) dNil) dNil)) (dTg (.nm 2)))
    (dSeq (dIf (dTest (dOp vGe (dVar 2) (dVar 1))) (dDrop (dLM vAppend (dDGet (dVar 0) (dC (.str "great"))) (dCons (dOp vDiv (dVar 2) (dVar 1)) dNil))) dNext)
    (dRet (dOp vMod (dVar 2) (dVar 1))))) dNext)
    (dSeq (dDPut (dVar 0) (dC (.str "turn")) (dOp vAdd (dDGet (dVar 0) (dC (.str "turn"))) (dC (.int 1))))
    (dSeq (dDPut (dVar 0) (dC (.str "mixed")) (dOp vMod (dOp vAdd (dOp vAdd (dOp vMul (dCB vInt (dCons (dDGet (dVar 0) (dC (.str "mixed"))) dNil)) (dC (.int 21013))) (dOp vMul (dDGet (dVar 0) (dC (.str "turn"))) (dC (.int 5153)))) (dC (.int 3))) (dC (.int 2147480009))))
    (dRet (dOp vMod (dCB vInt (dCons (dOp vDiv (dDGet (dVar 0) (dC (.str "mixed"))) (dC (.int 97))) dNil)) (dVar 1))))))
set_option pp.maxSteps 300
theorem rd_law_pour_ok : ∀ ds S P, (a2 sp_law_pour) ds S P → rd_law_pour (DEnds.of P) (dstart ["jug", "many", "size"] ds) S := by
  intro ds S P hsp
  rcases ds with _ | ⟨x, _ | ⟨y, _ | ⟨z, ds⟩⟩⟩ <;> first | exact (hsp : False).elim | skip
  obtain ⟨j, g, n, rfl, rfl, n0, n1, jg, q⟩ := (hsp : sp_law_pour x y S P)
  have jneg := jg.jg
  obtain ⟨⟨m, t, ej⟩, ⟨ns, eg, hns⟩⟩ := jg
  unfold rd_law_pour
  walk_at "run"
  refine ⟨_, dget_eq ej (y := .str "great") rfl (d := .ref g) (by rfl), ?_⟩
  walk_at "run"
  refine st_len_r eg ?_
  rw [List.length_map]
  walk_at "run"
  have fin : ∀ (x : Int) (m' t' : Int) (ns' : List Int) (S' : Sto), S' j = some (.dK (jugD g m' t')) → S' g = some (.lst (ns'.map .int)) → ns'.length ≤ 66 → Oth2 j g S S' → P (.int (x % n)) S' := fun x m' t' ns' S' h1 h2 h3 h4 =>
    q _ S' (Int.emod_nonneg _ (by omega)) (Int.emod_lt_of_pos _ n0) ⟨⟨m', t', h1⟩, ⟨ns', h2, h3⟩⟩ h4
  rcases List.eq_nil_or_concat ns with hnil | ⟨r, e, hcat⟩
  · subst hnil
    rw [show decide (((([] : List Int).length : Nat) : Int) > 0) = false from rfl]
    walk_at "run"
    refine ⟨_, dget_eq ej (y := .str "turn") rfl (d := .int t) (by rfl), ?_⟩
    walk_at "run"
    refine st_dput ej rfl (by show 3 < _; rw [sizeLine_v]; decide) ?_
    rw [show putD (jugD g m t) (Sum.inr "turn") (.int (t + 1)) = jugD g m (t + 1) from rfl]
    walk_at "run"
    refine ⟨_, dget_eq sup_same (y := .str "mixed") rfl (d := .int m) (by rfl), ?_⟩
    walk_at "run"
    refine ⟨_, dget_eq sup_same (y := .str "turn") rfl (d := .int (t + 1)) (by rfl), ?_⟩
    walk_at "run"
    refine st_dput sup_same rfl (by show 3 < _; rw [sizeLine_v]; decide) ?_
    rw [sup_sup]
    generalize hm : ((m * 21013 + (t + 1) * 5153 + 3) % 2147480009 : Int) = m2
    rw [show putD (jugD g m (t + 1)) (Sum.inr "mixed") (.int m2) = jugD g m2 (t + 1) from rfl]
    walk_at "run"
    refine ⟨_, dget_eq sup_same (y := .str "mixed") rfl (d := .int m2) (by rfl), ?_⟩
    walk_at "run"
    exact .of (fin _ _ _ [] _ sup_same (by rw [sup_ne (Ne.symm jneg)]; exact eg) (by simp) fun b h1 h2 => sup_ne h1)
  · have hl : ns.length = r.length + 1 := by rw [hcat, List.length_concat]
    rw [decide_eq_true (show ((ns.length : Nat) : Int) > 0 by omega)]
    walk_at "run"
    refine ⟨_, dget_eq ej (y := .str "great") rfl (d := .ref g) (by rfl), ?_⟩
    walk_at "run"
    rw [isSeq_ref]
    refine ⟨⟨_, eg⟩, ?_⟩
    walk_at "run"
    refine st_popr (ds := r.map .int) (d := .int e) (by rw [eg, hcat, List.concat_eq_append, List.map_append]; rfl) ?_
    walk_at "run"
    by_cases he : e ≥ n
    · rw [decide_eq_true he]
      walk_at "run"
      refine ⟨_, dget_eq (kvs := jugD g m t) (by rw [sup_ne jneg]; exact ej) (y := .str "great") rfl (d := .ref g) (by rfl), ?_⟩
      walk_at "run"
      rw [isSeq_ref]
      refine ⟨⟨_, sup_same⟩, ?_⟩
      walk_at "run"
      refine st_append sup_same (by rw [List.length_map, sizeLine_v]; omega) ?_
      walk_at "run"
      exact .of (fin e m t (r ++ [e / n]) _ (by rw [sup_ne jneg, sup_ne jneg]; exact ej) (by rw [sup_same, List.map_append]; rfl) (by rw [List.length_append]; simp only [List.length_cons, List.length_nil]; omega) fun b h1 h2 => by rw [sup_ne h2, sup_ne h2])
    · rw [decide_eq_false he]
      walk_at "run"
      exact .of (fin e m t r _ (by rw [sup_ne jneg]; exact ej) sup_same (by omega) fun b h1 h2 => sup_ne h2)
theorem use_pour {j g : Addr} {n : Int} {S : Sto} {Q : DK} (jg : Jg S j g) (hn : 0 < n ∧ n < 1073741824) (q : ∀ r S', 0 ≤ r → r < n → Jg S' j g → Oth2 j g S S' → Q (.int r) S') : sp_law_pour (.ref j) (.int n) S Q := ⟨j, g, n, rfl, rfl, hn.1, hn.2, jg, q⟩
theorem st_sl_ro {ns : List Int} {k : Nat} {S : Sto} {Q : DK} (h : Q (.lst ((ns.take k).map .int)) S) : vSl (.ro (ns.map .int)) none (some (k : Int)) S Q := by
  show Q (.lst (cut (ns.map .int) none (some (k : Int)))) S
  rw [cut_to, ← List.map_take]
  exact h
def sp_law_churn (x : D) (S : Sto) (Q : DK) : Prop := ∃ ns : List Int, x = .ro (ns.map .int) ∧ ns.length ≤ 63 ∧ ∀ j g S', Jg S' j g → Q (.ref j) S'
-- _law_churn : 0=script 1=great 2=mixed 3=cell 4=size
def rd_law_churn : DTS :=
    (dSeq (dPar 1 2 (dCons (dLstM dNil) (dCons (dC (.int 70001)) dNil)))
    (dSeq (dFor (iSeq (dSl vSl (dVar 0) dNoPart (dPart (dC (.int 66))))) (dTg (.nm 3)) (dSeq (dAsg (dOp vMod (dCB vAbs (dCons (dCB vInt (dCons (dVar 3) dNil)) dNil)) (dOp vShl (dC (.int 1)) (dC (.int 1800)))) (dTg (.nm 4)))
    (dSeq (dAsg (dOp vMod (dOp vAdd (dOp vAdd (dOp vMul (dVar 2) (dC (.int 52391))) (dOp vMod (dCB vInt (dCons (dVar 4) dNil)) (dC (.int 999983)))) (dC (.int 7))) (dC (.int 2147480009))) (dTg (.nm 2)))
    (dIf (dTest (dOp vGe (dVar 4) (dOp vPow (dC (.int 10)) (dC (.int 18))))) (dDrop (dLM vAppend (dVar 1) (dCons (dVar 4) dNil))) dNext))))
    (dRet (dDisp [Sum.inr "great", Sum.inr "mixed", Sum.inr "turn"] (dCons (dRevM (dVar 1)) (dCons (dVar 2) (dCons (dC (.int 0)) dNil)))))))
theorem rd_law_churn_ok : ∀ ds S P, (a1 sp_law_churn) ds S P → rd_law_churn (DEnds.of P) (dstart ["script", "great", "mixed", "cell", "size"] ds) S := by
  intro ds S P hsp
  rcases ds with _ | ⟨x, _ | ⟨y, ds⟩⟩ <;> first | exact (hsp : False).elim | skip
  obtain ⟨ns, rfl, hl, q⟩ := (hsp : sp_law_churn x S P)
  unfold rd_law_churn
  walk_at "run"
  intro p hp
  walk_at "run"
  refine st_sl_ro (k := 66) ?_
  walk_at "run"
  refine forL_inv (fun i δ S' => ∃ (hs : List Int) (w : Int) (x3 x4 : Option D), S' p = some (.lst (hs.map .int)) ∧ hs.length ≤ i ∧ δ = [some (.ro (ns.map .int)), some (.ref p), some (.int w), x3, x4]) (fun _ _ _ _ => True.intro) _ 0 _ _ ⟨[], 70001, none, none, sup_same, Nat.le_refl _, rfl⟩ ?_ ?_
  · rintro j d _ S' hj ⟨hs, w, x3, x4, e, hh, rfl⟩ D2 hrt _ hnx _
    rw [List.getElem?_map] at hj
    obtain ⟨v, g3, rfl⟩ := Option.map_eq_some_iff.mp hj
    have hjl : j < 66 := by
      have := (List.getElem?_eq_some_iff.mp g3).1
      rw [List.length_take] at this
      omega
    rw [Nat.zero_add] at hh hnx
    walk_at "run"
    refine st_shl (by unfold CPow; decide) ?_
    have hM : (0 : Int) < 1 * 2 ^ (1800 : Int).toNat := by rw [Int.one_mul]; exact Int.pow_pos (by decide)
    generalize (1 : Int) * 2 ^ (1800 : Int).toNat = M at hM
    generalize (if v < 0 then -v else v) = v'
    refine st_mod hM ?_
    walk_at "run"
    refine st_pow (by unfold CPow; decide) ?_
    walk_at "run"
    by_cases z : v' % M ≥ 10 ^ (18 : Int).toNat
    · rw [decide_eq_true z]
      walk_at "run"
      rw [isSeq_ref]
      refine ⟨⟨_, e⟩, ?_⟩
      walk_at "run"
      refine st_append e (by rw [List.length_map, sizeLine_v]; omega) ?_
      walk_at "run"
      exact hnx _ _ ⟨hs ++ [v' % M], _, _, _, by rw [sup_same, List.map_append]; rfl, by rw [List.length_append]; simp only [List.length_cons, List.length_nil]; omega, rfl⟩
    · rw [decide_eq_false z]
      walk_at "run"
      exact hnx _ _ ⟨hs, _, _, _, e, by omega, rfl⟩
  · rintro _ S' ⟨hs, w, x3, x4, e, hh, rfl⟩
    have hh2 : hs.length ≤ 66 := by
      rw [List.length_map, List.length_take] at hh
      omega
    walk_at "run"
    refine ⟨_, seq_r e, fun g hg => ?_⟩
    walk_at "run"
    intro j hj
    have jg : j ≠ g := fun z => by subst z; rw [sup_same] at hj; cases hj
    exact .of (q j g _ ⟨⟨w, 0, sup_same⟩, ⟨hs.reverse, by rw [sup_ne (Ne.symm jg), sup_same, List.map_reverse], by rw [List.length_reverse]; exact hh2⟩⟩)
theorem use_churn {ns : List Int} {S : Sto} {Q : DK} (hl : ns.length ≤ 63) (q : ∀ j g S', Jg S' j g → Q (.ref j) S') : sp_law_churn (.ro (ns.map .int)) S Q := ⟨ns, rfl, hl, q⟩
/-! ### piles -/
theorem lc_pile {j g : Addr} {kinds : Int} {Q : DK} (hk : 0 < kinds ∧ kinds < 1073741824) : ∀ (L : List D) (acc : List Int) (S : Sto), acc.length + L.length ≤ 1000 → Jg S j g →
    (∀ (ms : List Int) S', ms.length = acc.length + L.length → Jg S' j g → Oth2 j g S S' → Q (.lst (ms.map .int)) S') →
    lcL (fun _ => True) (dTg (.nm 2)) dYes (dCall (a2 sp_law_pour) (dCons (dVar 0) (dCons (dVar 1) dNil))) [2] [some (.ref j), some (.int kinds), none] L (acc.map .int) S Q
  | [], acc, S, hl, sk, q => ⟨trivial, q acc S (by simp) sk .refl⟩
  | d :: r, acc, S, hl, sk, q => by
    rw [List.length_cons] at hl
    refine ⟨trivial, by rw [List.length_map, sizeLine_v]; omega, ?_⟩
    walk_at "run"
    refine use_pour sk hk fun w S1 w0 w1 sk1 s1 => ?_
    walk_at "run"
    rw [show acc.map D.int ++ [D.int w] = (acc ++ [w]).map .int by rw [List.map_append]; rfl]
    refine lc_pile hk r (acc ++ [w]) S1 (by rw [List.length_append]; simp only [List.length_cons, List.length_nil]; omega) sk1 fun ms S2 hm sk2 s2 => ?_
    exact q ms S2 (by rw [hm, List.length_append]; simp only [List.length_cons, List.length_nil]; omega) sk2 (s1.trans s2)
theorem mem5 {r : Int} (h0 : 0 ≤ r) (h1 : r < 5) : ∃ k : Nat, ([.int 0, .int 1, .int 1, .int 2, .int 6] : List D)[r.toNat]? = some (iD k) ∧ k ≤ 6 := by
  have e : r = 0 ∨ r = 1 ∨ r = 2 ∨ r = 3 ∨ r = 4 := by omega
  rcases e with rfl | rfl | rfl | rfl | rfl
  · exact ⟨0, rfl, by decide⟩
  · exact ⟨1, rfl, by decide⟩
  · exact ⟨1, rfl, by decide⟩
  · exact ⟨2, rfl, by decide⟩
  · exact ⟨6, rfl, by decide⟩
def sp_law_pile (x y : D) (S : Sto) (Q : DK) : Prop := ∃ (j g : Addr) (n : Int), x = .ref j ∧ y = .int n ∧ 0 < n ∧ n < 1073741824 ∧ Jg S j g ∧ ∀ (ms : List Int) S', Jg S' j g → Oth2 j g S S' → ms.length ≤ 6 → Q (.tup (ms.map .int)) S'
-- _law_pile : 0=jug 1=kinds 2=lap
def rd_law_pile : DTS :=
    (dRet (dCB vTuple (dCons (dLc (iRange1 (dOp vIx (dTup (dCons (dC (.int 0)) (dCons (dC (.int 1)) (dCons (dC (.int 1)) (dCons (dC (.int 2)) (dCons (dC (.int 6)) dNil)))))) (dCall (a2 sp_law_pour) (dCons (dVar 0) (dCons (dC (.int 5)) dNil))))) (dTg (.nm 2)) dYes (dCall (a2 sp_law_pour) (dCons (dVar 0) (dCons (dVar 1) dNil))) [2]) dNil)))
theorem rd_law_pile_ok : ∀ ds S P, (a2 sp_law_pile) ds S P → rd_law_pile (DEnds.of P) (dstart ["jug", "kinds", "lap"] ds) S := by
  intro ds S P hsp
  rcases ds with _ | ⟨x, _ | ⟨y, _ | ⟨z, ds⟩⟩⟩ <;> first | exact (hsp : False).elim | skip
  obtain ⟨j, g, n, rfl, rfl, n0, n1, jg, q⟩ := (hsp : sp_law_pile x y S P)
  unfold rd_law_pile
  walk_at "run"
  refine use_pour jg (by omega) fun r S1 r0 r1 jg1 s1 => ?_
  walk_at "run"
  obtain ⟨k, hk, hk6⟩ := mem5 r0 r1
  obtain ⟨r, rfl⟩ := Int.eq_ofNat_of_zero_le r0
  rw [Int.toNat_natCast] at hk
  refine st_at hk ?_
  walk_at "run"
  refine ⟨by omega, by omega, ?_⟩
  rw [Int.toNat_natCast]
  refine lc_pile ⟨n0, n1⟩ (rngD 0 k) [] S1 (by rw [rng_len]; simp only [List.length_nil]; omega) jg1 fun ms S2 hm jg2 s2 => ?_
  rw [rng_len] at hm
  walk_at "run"
  exact .of (q ms S2 jg2 (s1.trans s2) (by simp only [List.length_nil] at hm; omega))
theorem use_pile {j g : Addr} {n : Int} {S : Sto} {Q : DK} (jg : Jg S j g) (hn : 0 < n ∧ n < 1073741824) (q : ∀ (ms : List Int) S', Jg S' j g → Oth2 j g S S' → ms.length ≤ 6 → Q (.tup (ms.map .int)) S') : sp_law_pile (.ref j) (.int n) S Q := ⟨j, g, n, rfl, rfl, hn.1, hn.2, jg, q⟩
end L3

set_option Elab.async false
set_option maxRecDepth 100000
set_option linter.all false
set_option maxHeartbeats 4000000
namespace L3
open PySem L2 L3.KL
local macro_rules | `(tactic| walk_at "cond") => `(tactic| first | omega | (simp only [List.length_append, List.length_cons, List.length_nil, List.length_take, List.length_drop, List.length_map, List.length_reverse]; omega) | rfl | decide)
local macro_rules | `(tactic| walk_at "side") => `(tactic| first | assumption | omega | (simp only [List.length_append, List.length_cons, List.length_nil, List.length_take, List.length_drop, List.length_map, List.length_reverse, sizeLine_val]; omega) | decide)
local macro_rules | `(tactic| walk_at "st") => `(tactic| first
  | with_reducible refine st_ix0 ?_ | with_reducible refine st_ix1 ?_ | with_reducible refine st_ix2 ?_ | with_reducible refine st_ix3 ?_ | with_reducible refine st_ix4 ?_
  | with_reducible refine st_add_pp (by walk_at "side") ?_ | with_reducible refine st_add_p1 (by walk_at "side") ?_ | with_reducible refine st_add_1p (by walk_at "side") ?_
  | with_reducible refine st_add ?_ | with_reducible refine st_sub ?_ | with_reducible refine st_iadd ?_ | with_reducible refine st_neg ?_
  | with_reducible refine st_len_p ?_ | with_reducible refine st_len_lp ?_ | with_reducible refine st_len_rp ?_ | with_reducible refine st_len_t ?_ | with_reducible refine st_len_l ?_
  | with_reducible refine st_add_t (by walk_at "side") ?_ | with_reducible refine st_add_l (by walk_at "side") ?_ | with_reducible refine st_add_s (by walk_at "side") ?_
  | with_reducible refine st_tru_bl ?_ | with_reducible refine st_tru_int ?_ | with_reducible refine st_tru_tup ?_ | with_reducible refine st_tru_lst ?_ | with_reducible refine st_tru_non ?_
  | with_reducible refine st_at (by assumption) ?_ | with_reducible refine st_atl (by assumption) ?_
  | with_reducible refine st_iteT ?_ | with_reducible refine st_iteF ?_ | with_reducible refine st_not ?_
  | with_reducible refine st_lt ?_ | with_reducible refine st_le ?_ | with_reducible refine st_gt ?_ | with_reducible refine st_ge ?_ | with_reducible refine st_eqi ?_ | with_reducible refine st_nei ?_ | with_reducible refine st_eqs ?_ | with_reducible refine st_nes ?_ | with_reducible refine st_eqb ?_
  | with_reducible refine st_isn_non ?_ | with_reducible refine st_isn_int ?_ | with_reducible refine st_isn_tup ?_ | with_reducible refine st_isn_str ?_ | with_reducible refine st_isn_bl ?_
  | with_reducible refine st_isnt_non ?_ | with_reducible refine st_isnt_int ?_ | with_reducible refine st_isnt_tup ?_ | with_reducible refine st_isnt_str ?_
  | with_reducible refine st_int ?_ | with_reducible refine st_intb ?_ | with_reducible refine st_abs ?_ | with_reducible refine st_min2 ?_ | with_reducible refine st_max2 ?_
  | with_reducible refine st_tup_l ?_ | with_reducible refine st_tup_t ?_ | with_reducible refine st_lst_t ?_ | with_reducible refine st_lst_l ?_
  | with_reducible refine st_sl_from ?_ | with_reducible refine st_sl_to ?_
  | with_reducible refine st_lx0 ?_ | with_reducible refine st_lx1 ?_ | with_reducible refine st_lx2 ?_ | with_reducible refine st_lx3 ?_
  | with_reducible refine st_mod (by walk_at "side") ?_ | with_reducible refine st_div (by walk_at "side") ?_ | with_reducible refine st_mul (by walk_at "side") ?_ | with_reducible refine st_mul' (by walk_at "side") ?_
  | with_reducible refine st_isi rfl ?_
  | (with_reducible refine And.intro (Nat.le_of_ble_eq_true rfl) ?_)
  | (refine And.intro (rfl : (_ : Nat) = _) ?_)
  | with_reducible refine st_dT (by walk_at "cond") ?_ | with_reducible refine st_dF (by walk_at "cond") ?_)
local macro_rules | `(tactic| walk_at "hd") => `(tactic| (with_reducible conv => whnf))
local macro_rules | `(tactic| walk_at "run") => `(tactic| ((with_reducible conv => whnf); repeat (walk_at "st"; (with_reducible conv => whnf))))
/-! ### the law's comparison -/
mutual
def gd : D → Bool
  | .tup ds => gdL ds
  | .str _ => true
  | .int _ => true
  | .non => false
  | .bl _ => false
  | .lst _ => false
  | .ro _ => false
  | .ref _ => false
  | .ty _ => false
  | .key _ => false
  | .dct _ _ => false
def gdL : List D → Bool
  | [] => true
  | d :: ds => gd d && gdL ds
end
mutual
def nds : D → Nat
  | .tup ds => 1 + ndL ds
  | .str _ => 1
  | .int _ => 1
  | .non => 1
  | .bl _ => 1
  | .lst _ => 1
  | .ro _ => 1
  | .ref _ => 1
  | .ty _ => 1
  | .key _ => 1
  | .dct _ _ => 1
def ndL : List D → Nat
  | [] => 0
  | d :: ds => nds d + ndL ds
end
theorem gdL_mem {d : D} : ∀ {ds : List D}, gdL ds = true → d ∈ ds → gd d = true
  | _ :: _, h, m => by
    rw [gdL, Bool.and_eq_true] at h
    rcases List.mem_cons.mp m with rfl | m
    · exact h.1
    · exact gdL_mem h.2 m
theorem nds_pos (d : D) : 1 ≤ nds d := by cases d <;> rw [nds] <;> omega
theorem ndL_len : ∀ ds : List D, ds.length ≤ ndL ds
  | [] => Nat.zero_le _
  | d :: ds => by rw [ndL, List.length_cons]; have := nds_pos d; have := ndL_len ds; omega
theorem ndL_app : ∀ a b : List D, ndL (a ++ b) = ndL a + ndL b
  | [], b => by rw [List.nil_append, ndL, Nat.zero_add]
  | d :: a, b => by rw [List.cons_append, ndL, ndL, ndL_app a b, Nat.add_assoc]
abbrev twD (d : D) : D := .tup [d, d]
theorem st_eqself {d : D} {S : Sto} {Q : DK} (h : gd d = true) (h2 : ∀ ds, d ≠ .tup ds) (q : Q (.bl false) S) : vNe d d S Q := by
  cases d <;> first | (rw [gd] at h; cases h; done) | exact absurd rfl (h2 _) | skip
  · show Q (.bl (!decide _)) S
    simpa using q
  · show Q (.bl (!decide _)) S
    simpa using q
theorem sup_new {S : Sto} {p a : Addr} {o u : SO} (hp : S p = none) (ha : S a = some u) : sup S p o a = some u := by rw [sup_ne fun z => by subst z; rw [hp] at ha; cases ha]; exact ha
def sp_law_equal (x y : D) (S : Sto) (Q : DK) : Prop := ∃ d, x = d ∧ y = d ∧ gd d = true ∧ nds d ≤ 10000000 ∧ Q (.bl true) S
-- _law_equal : 0=told 1=due 2=waiting 3=left 4=right 5=at
def rd_law_equal : DTS :=
    (dSeq (dAsg (dLstM (dCons (dTup (dCons (dVar 0) (dCons (dVar 1) dNil))) dNil)) (dTg (.nm 2)))
    (dSeq (dWhile (dTest (dOp vGt (dCB vLen (dCons (dVar 2) dNil)) (dC (.int 0)))) (dSeq (dAsg (dLM vPop (dVar 2) dNil) (dTg (.tp [3, 4])))
    (dIf (dTest (dCB vIsi (dCons (dVar 4) (dCons (dC (.ty "tuple")) dNil)))) (dSeq (dIf (dOr (dNot (dTest (dCB vIsi (dCons (dVar 3) (dCons (dC (.ty "tuple")) dNil))))) (dTest (dOp vNe (dCB vLen (dCons (dVar 3) dNil)) (dCB vLen (dCons (dVar 4) dNil))))) (dRet (dC (.bl false))) dNext)
    (dFor (iRange1 (dCB vLen (dCons (dVar 4) dNil))) (dTg (.nm 5)) (dDrop (dLM vAppend (dVar 2) (dCons (dTup (dCons (dOp vIx (dVar 3) (dVar 5)) (dCons (dOp vIx (dVar 4) (dVar 5)) dNil))) dNil))))) (dIf (dTest (dCB vIsi (dCons (dVar 4) (dCons (dC (.ty "str")) dNil)))) (dIf (dOr (dNot (dTest (dCB vIsi (dCons (dVar 3) (dCons (dC (.ty "str")) dNil))))) (dTest (dOp vNe (dVar 3) (dVar 4)))) (dRet (dC (.bl false))) dNext) (dIf (dOr (dNot (dTest (dCB vIsi (dCons (dVar 3) (dCons (dC (.ty "int")) dNil))))) (dOr (dTest (dCB vIsi (dCons (dVar 3) (dCons (dC (.ty "bool")) dNil)))) (dTest (dOp vNe (dVar 3) (dVar 4))))) (dRet (dC (.bl false))) dNext)))))
    (dRet (dC (.bl true)))))
set_option pp.maxSteps 300
theorem rd_law_equal_ok : ∀ ds S P, (a2 sp_law_equal) ds S P → rd_law_equal (DEnds.of P) (dstart ["told", "due", "waiting", "left", "right", "at"] ds) S := by
  intro ds S P hsp
  rcases ds with _ | ⟨x, _ | ⟨y, _ | ⟨z, ds⟩⟩⟩ <;> first | exact (hsp : False).elim | skip
  obtain ⟨d, hx, hy, g, hn, q⟩ := (hsp : sp_law_equal x y S P)
  rw [hx, hy]
  unfold rd_law_equal
  walk_at "run"
  intro w hw
  walk_at "run"
  refine ⟨nds d + 1, whileN_inv (fun n δ S' => ∃ (ps : List D) (x3 x4 x5 : Option D), S' = sup S w (.lst (ps.map twD)) ∧ gdL ps = true ∧ ndL ps ≤ n ∧ ndL ps ≤ nds d ∧ δ = [some d, some d, some (.ref w), x3, x4, x5]) ?_ (nds d) _ _ ⟨[d], none, none, none, rfl, by rw [gdL, gdL, g]; rfl, by rw [ndL, ndL]; omega, by rw [ndL, ndL]; omega, rfl⟩⟩
  rintro n _ _ ⟨ps, x3, x4, x5, rfl, gp, np, np2, rfl⟩ D2 hrt _ hnx _
  walk_at "run"
  refine st_len_r sup_same ?_
  rw [List.length_map]
  walk_at "run"
  rcases List.eq_nil_or_concat ps with hnil | ⟨r, e, hcat⟩
  · subst hnil
    rw [show decide (((([] : List D).length : Nat) : Int) > 0) = false from rfl]
    walk_at "run"
    exact ⟨_, S, fun a u ha => sup_new hw ha, .refl _, q⟩
  · rw [List.concat_eq_append] at hcat
    subst hcat
    rw [decide_eq_true (show (((r ++ [e]).length : Nat) : Int) > 0 by simp)]
    walk_at "run"
    rw [isSeq_ref]
    refine ⟨⟨_, sup_same⟩, ?_⟩
    walk_at "run"
    have ge : gd e = true := gdL_mem gp (by simp)
    have gr : gdL r = true := by
      have : ∀ l : List D, gdL (l ++ [e]) = true → gdL l = true := fun l => by
        induction l with
        | nil => intro _; rw [gdL]
        | cons d l ih => intro h; rw [List.cons_append, gdL, Bool.and_eq_true] at h; rw [gdL, h.1, ih h.2]; rfl
      exact this r gp
    rw [ndL_app, ndL, ndL] at np np2
    refine st_popr (ds := r.map twD) (d := twD e) (by rw [sup_same, List.map_append]; rfl) ?_
    rw [sup_sup]
    obtain ⟨k, rfl⟩ : ∃ k, n = k + 1 := ⟨n - 1, by have := nds_pos e; omega⟩
    walk_at "run"
    have atom : (∀ ds, e ≠ .tup ds) → D2.nx [some d, some d, some (.ref w), some e, some e, x5] (sup S w (.lst (r.map twD))) := fun _ => hnx k _ _ rfl ⟨r, _, _, _, rfl, gr, by have := nds_pos e; omega, by omega, rfl⟩
    cases e with
    | str s =>
      walk_at "run"
      exact atom fun _ z => by cases z
    | int i =>
      walk_at "run"
      exact atom fun _ z => by cases z
    | tup ds =>
      rw [gd] at ge
      rw [nds] at np np2
      walk_at "run"
      have hl := ndL_len ds
      refine ⟨by omega, by omega, ?_⟩
      rw [Int.toNat_natCast]
      refine forL_inv (fun j δ S' => ∃ (x5 : Option D), S' = sup S w (.lst ((r ++ ds.take j).map twD)) ∧ δ = [some d, some d, some (.ref w), some (.tup ds), some (.tup ds), x5]) (fun _ _ _ _ => True.intro) _ 0 _ _ ⟨x5, by rw [List.take_zero, List.append_nil], rfl⟩ ?_ ?_
      · rintro j dd _ _ hj ⟨x5, rfl, rfl⟩ D3 hrt3 _ hnx3 _
        obtain ⟨hj2, rfl⟩ := rng_at hj
        rw [Nat.zero_add] at hnx3
        have e1 := List.getElem?_eq_getElem hj2
        walk_at "run"
        rw [isSeq_ref]
        refine ⟨⟨_, sup_same⟩, ?_⟩
        walk_at "run"
        refine st_append sup_same (by rw [List.length_map, List.length_append, List.length_take, sizeLine_v]; have := ndL_len r; omega) ?_
        rw [sup_sup]
        walk_at "run"
        refine hnx3 _ _ ⟨_, ?_, rfl⟩
        rw [Nat.zero_add, List.take_add_one, e1, ← List.append_assoc, List.map_append, List.map_append, List.map_append]
        rfl
      · rintro _ _ ⟨x5, rfl, rfl⟩
        rw [rng_len, Nat.zero_add, List.take_length]
        have ga : gdL (r ++ ds) = true := by
          have : ∀ l : List D, gdL l = true → gdL (l ++ ds) = true := fun l => by
            induction l with
            | nil => intro _; exact ge
            | cons c l ih => intro h; rw [gdL, Bool.and_eq_true] at h; rw [List.cons_append, gdL, h.1, ih h.2]; rfl
          exact this r gr
        exact hnx k _ _ rfl ⟨r ++ ds, _, _, _, rfl, ga, by rw [ndL_app]; omega, by rw [ndL_app]; omega, rfl⟩
    | _ => rw [gd] at ge; cases ge
theorem use_equal {d e : D} {S : Sto} {Q : DK} (h : e = d) (g : gd d = true) (n : nds d ≤ 10000000) (q : Q (.bl true) S) : sp_law_equal e d S Q := ⟨d, h, rfl, g, n, q⟩
end L3

set_option Elab.async false
set_option maxRecDepth 100000
set_option linter.all false
set_option maxHeartbeats 4000000
namespace L3
open PySem L2 L3.KL
local macro_rules | `(tactic| walk_at "cond") => `(tactic| first | omega | (simp only [List.length_append, List.length_cons, List.length_nil, List.length_take, List.length_drop, List.length_map, List.length_reverse]; omega) | rfl | decide)
local macro_rules | `(tactic| walk_at "side") => `(tactic| first | assumption | omega | (simp only [List.length_append, List.length_cons, List.length_nil, List.length_take, List.length_drop, List.length_map, List.length_reverse, sizeLine_val]; omega) | decide)
local macro_rules | `(tactic| walk_at "st") => `(tactic| first
  | with_reducible refine st_ix0 ?_ | with_reducible refine st_ix1 ?_ | with_reducible refine st_ix2 ?_ | with_reducible refine st_ix3 ?_ | with_reducible refine st_ix4 ?_
  | with_reducible refine st_add_pp (by walk_at "side") ?_ | with_reducible refine st_add_p1 (by walk_at "side") ?_ | with_reducible refine st_add_1p (by walk_at "side") ?_
  | with_reducible refine st_add ?_ | with_reducible refine st_sub ?_ | with_reducible refine st_iadd ?_ | with_reducible refine st_neg ?_
  | with_reducible refine st_len_p ?_ | with_reducible refine st_len_lp ?_ | with_reducible refine st_len_rp ?_ | with_reducible refine st_len_t ?_ | with_reducible refine st_len_l ?_
  | with_reducible refine st_add_t (by walk_at "side") ?_ | with_reducible refine st_add_l (by walk_at "side") ?_ | with_reducible refine st_add_s (by walk_at "side") ?_
  | with_reducible refine st_tru_bl ?_ | with_reducible refine st_tru_int ?_ | with_reducible refine st_tru_tup ?_ | with_reducible refine st_tru_lst ?_ | with_reducible refine st_tru_non ?_
  | with_reducible refine st_at (by assumption) ?_ | with_reducible refine st_atl (by assumption) ?_
  | with_reducible refine st_iteT ?_ | with_reducible refine st_iteF ?_ | with_reducible refine st_not ?_
  | with_reducible refine st_lt ?_ | with_reducible refine st_le ?_ | with_reducible refine st_gt ?_ | with_reducible refine st_ge ?_ | with_reducible refine st_eqi ?_ | with_reducible refine st_nei ?_ | with_reducible refine st_eqs ?_ | with_reducible refine st_nes ?_ | with_reducible refine st_eqb ?_
  | with_reducible refine st_isn_non ?_ | with_reducible refine st_isn_int ?_ | with_reducible refine st_isn_tup ?_ | with_reducible refine st_isn_str ?_ | with_reducible refine st_isn_bl ?_
  | with_reducible refine st_isnt_non ?_ | with_reducible refine st_isnt_int ?_ | with_reducible refine st_isnt_tup ?_ | with_reducible refine st_isnt_str ?_
  | with_reducible refine st_int ?_ | with_reducible refine st_intb ?_ | with_reducible refine st_abs ?_ | with_reducible refine st_min2 ?_ | with_reducible refine st_max2 ?_
  | with_reducible refine st_tup_l ?_ | with_reducible refine st_tup_t ?_ | with_reducible refine st_lst_t ?_ | with_reducible refine st_lst_l ?_
  | with_reducible refine st_sl_from ?_ | with_reducible refine st_sl_to ?_
  | with_reducible refine st_lx0 ?_ | with_reducible refine st_lx1 ?_ | with_reducible refine st_lx2 ?_ | with_reducible refine st_lx3 ?_
  | with_reducible refine st_mod (by walk_at "side") ?_ | with_reducible refine st_div (by walk_at "side") ?_ | with_reducible refine st_mul (by walk_at "side") ?_ | with_reducible refine st_mul' (by walk_at "side") ?_
  | with_reducible refine st_isi rfl ?_
  | (with_reducible refine And.intro (Nat.le_of_ble_eq_true rfl) ?_)
  | (refine And.intro (rfl : (_ : Nat) = _) ?_)
  | with_reducible refine st_dT (by walk_at "cond") ?_ | with_reducible refine st_dF (by walk_at "cond") ?_)
local macro_rules | `(tactic| walk_at "hd") => `(tactic| (with_reducible conv => whnf))
local macro_rules | `(tactic| walk_at "run") => `(tactic| ((with_reducible conv => whnf); repeat (walk_at "st"; (with_reducible conv => whnf))))
/-! ### the law's laying -/
def sr_law_lays_nothing (n : Nat) (x : D) (S : Sto) (Q : DK) : Prop := ∃ s, x = sD s ∧ hS s ≤ n ∧ nx s < 10000000 ∧ Q (.bl (ln s)) S
def sp_law_lays_nothing := sr_law_lays_nothing 20
theorem use_llays {n : Nat} {s : Stm} {S : Sto} {Q : DK} (h : hS s ≤ n) (hn : nx s < 10000000) (q : Q (.bl (ln s)) S) : sr_law_lays_nothing n (sD s) S Q := ⟨s, rfl, h, hn, q⟩
-- _law_lays_nothing : 0=statement 1=one
def rd_law_lays_nothing (spr_law_lays_nothing : DSp) : DTS :=
    (dSeq (dIf (dTest (dOp vNe (dOp vIx (dVar 0) (dC (.int 0))) (dC (.str "repeat")))) (dRet (dC (.bl false))) dNext)
    (dRet (dOrV (dOp vEq (dOp vIx (dVar 0) (dC (.int 1))) (dC (.int 0))) (dOp vEq (dCB vLen (dCons (dLc (iTupD (dOp vIx (dVar 0) (dC (.int 2)))) (dTg (.nm 1)) (dNot (dTest (dCall spr_law_lays_nothing (dCons (dVar 1) dNil)))) (dVar 1) [1]) dNil)) (dC (.int 0))))))
set_option pp.maxSteps 300
theorem rd_law_lays_nothing_ok (n : Nat) (spr_law_lays_nothing : DSp) (hs_law_lays_nothing : ∀ m, n = m + 1 → spr_law_lays_nothing = a1 (sr_law_lays_nothing m)) : ∀ ds S P, (a1 (sr_law_lays_nothing n)) ds S P → rd_law_lays_nothing spr_law_lays_nothing (DEnds.of P) (dstart ["statement", "one"] ds) S := by
  intro ds S P hsp
  rcases ds with _ | ⟨x, _ | ⟨y, ds⟩⟩ <;> first | exact (hsp : False).elim | skip
  obtain ⟨s, rfl, hn, hx, q⟩ := (hsp : sr_law_lays_nothing n x S P)
  unfold rd_law_lays_nothing
  cases s with
  | rep k b =>
    rw [hS] at hn
    rw [nx] at hx
    obtain ⟨m, rfl⟩ : ∃ m, n = m + 1 := ⟨n - 1, by omega⟩
    rw [hs_law_lays_nothing m rfl]
    rw [sD]
    walk_at "run"
    by_cases z : (k : Int) = 0
    · rw [decide_eq_true z]
      walk_at "run"
      rw [ln, show (k == 0) = true by simpa using z, Bool.true_or] at q
      exact .of q
    · rw [decide_eq_false z]
      walk_at "run"
      have hk : 1 + nxB b ≤ k * (1 + nxB b) := Nat.le_mul_of_pos_left _ (by omega)
      have hl := len_nx b
      rw [bD_map]
      refine lcL_fil sD sD (fun s => !ln s) True.intro b [] (by rw [sizeLine_v]; simp only [List.length_nil]; omega) (fun s hs P N h => ?_) ?_
      · walk_at "run"
        have h1 := hS_mem hs
        have h2 := nx_mem hs
        refine use_llays (by omega) (by omega) ?_
        cases e : ln s with
        | true => rw [e] at h; exact h
        | false => rw [e] at h; exact h
      · rw [List.nil_append]
        walk_at "run"
        rw [ln, show (k == 0) = false by simpa using z, Bool.false_or, lnA_all] at q
        have e : decide (((((b.filter fun s => !ln s).map sD).length : Nat) : Int) = 0) = b.all ln := by
          rw [List.length_map]
          cases h : b.all ln with
          | true =>
            have : b.filter (fun s => !ln s) = [] := List.filter_eq_nil_iff.mpr fun s hs => by have := List.all_eq_true.mp h s hs; simp [this]
            rw [this]; rfl
          | false =>
            refine decide_eq_false fun z => ?_
            have : b.filter (fun s => !ln s) = [] := List.eq_nil_of_length_eq_zero (by omega)
            have h2 : b.all ln = true := List.all_eq_true.mpr fun s hs => by have := List.filter_eq_nil_iff.mp this s hs; simpa using this
            rw [h] at h2; cases h2
        rw [e]
        exact .of q
  | _ =>
    rw [sD]
    walk_at "run"
    exact .of (by rw [ln] at q; exact q)
theorem once_drop {s : Stm} {b : List Stm} : once (s :: b) = if ln s then once b else isB s := by rw [once]
def sr_law_at_once (n : Nat) (x : D) (S : Sto) (Q : DK) : Prop := ∃ b, x = .tup (bD b) ∧ hB b ≤ n ∧ hB b ≤ 20 ∧ nxB b < 10000000 ∧ Q (.bl (once b)) S
def sp_law_at_once := sr_law_at_once 20
theorem use_once {n : Nat} {b : List Stm} {S : Sto} {Q : DK} (h : hB b ≤ n) (h2 : hB b ≤ 20) (hn : nxB b < 10000000) (q : Q (.bl (once b)) S) : sr_law_at_once n (.tup (bD b)) S Q := ⟨b, rfl, h, h2, hn, q⟩
-- _law_at_once : 0=body 1=one
def rd_law_at_once (spr_law_at_once : DSp) : DTS :=
    (dSeq (dFor (iTupD (dVar 0)) (dTg (.nm 1)) (dIf (dNot (dTest (dCall (a1 sp_law_lays_nothing) (dCons (dVar 1) dNil)))) (dRet (dOrV (dOp vEq (dOp vIx (dVar 1) (dC (.int 0))) (dC (.str "back"))) (dAndV (dOp vEq (dOp vIx (dVar 1) (dC (.int 0))) (dC (.str "repeat"))) (dCall spr_law_at_once (dCons (dOp vIx (dVar 1) (dC (.int 2))) dNil))))) dNext))
    (dRet (dC (.bl false))))
theorem rd_law_at_once_ok (n : Nat) (spr_law_at_once : DSp) (hs_law_at_once : ∀ m, n = m + 1 → spr_law_at_once = a1 (sr_law_at_once m)) : ∀ ds S P, (a1 (sr_law_at_once n)) ds S P → rd_law_at_once spr_law_at_once (DEnds.of P) (dstart ["body", "one"] ds) S := by
  intro ds S P hsp
  rcases ds with _ | ⟨x, _ | ⟨y, ds⟩⟩ <;> first | exact (hsp : False).elim | skip
  obtain ⟨b, rfl, hn, hn2, hx, q⟩ := (hsp : sr_law_at_once n x S P)
  unfold rd_law_at_once
  obtain ⟨m, rfl⟩ : ∃ m, n = m + 1 := ⟨n - 1, by cases b <;> rw [hB] at hn <;> omega⟩
  rw [hs_law_at_once m rfl]
  walk_at "run"
  rw [bD_map]
  refine forL_inv (fun i δ S' => S' = S ∧ once b = once (b.drop i) ∧ ∃ x1, δ = [some (.tup (b.map sD)), x1]) (fun _ _ _ _ => True.intro) _ 0 _ _ ⟨rfl, by rw [List.drop_zero], none, rfl⟩ ?_ ?_
  · rintro j dd _ _ hj ⟨rfl, eo, x1, rfl⟩ D2 hrt _ hnx _
    rw [List.getElem?_map] at hj
    obtain ⟨s, hs, rfl⟩ := Option.map_eq_some_iff.mp hj
    rw [Nat.zero_add] at eo hnx
    have hm := List.mem_of_getElem? hs
    have hh := hS_mem hm
    have hxx := nx_mem hm
    rw [drop_at hs, once_drop] at eo
    walk_at "run"
    refine use_llays (n := 20) (by omega) (by omega) ?_
    cases e : ln s with
    | true =>
      rw [e] at eo
      walk_at "run"
      exact hnx _ _ ⟨rfl, eo, _, rfl⟩
    | false =>
      rw [e] at eo
      simp only [Bool.false_eq_true, if_false] at eo
      rw [eo] at q
      walk_at "run"
      cases s with
      | rep k b' =>
        rw [sD]
        rw [hS] at hh
        rw [nx] at hxx
        have k0 : k ≠ 0 := fun z => by subst z; rw [ln] at e; simp at e
        have hk : 1 + nxB b' ≤ k * (1 + nxB b') := Nat.le_mul_of_pos_left _ (by omega)
        rw [isB, show (k != 0) = true by simpa using k0, Bool.true_and] at q
        walk_at "run"
        refine use_once (by omega) (by omega) (by omega) ?_
        show D2.rt _ _
        rw [hrt]
        exact .of q
      | _ =>
        rw [sD]
        rw [isB] at q
        walk_at "run"
        show D2.rt _ _
        rw [hrt]
        exact .of q
  · rintro _ _ ⟨rfl, eo, x1, rfl⟩
    rw [List.length_map, Nat.zero_add, List.drop_length] at eo
    rw [eo, once] at q
    walk_at "run"
    exact .of q
end L3

set_option Elab.async false
set_option maxRecDepth 100000
set_option linter.all false
set_option maxHeartbeats 4000000
namespace L3
open PySem L2 L3.KL
local macro_rules | `(tactic| walk_at "cond") => `(tactic| first | omega | (simp only [List.length_append, List.length_cons, List.length_nil, List.length_take, List.length_drop, List.length_map, List.length_reverse]; omega) | rfl | decide)
local macro_rules | `(tactic| walk_at "side") => `(tactic| first | assumption | omega | (simp only [List.length_append, List.length_cons, List.length_nil, List.length_take, List.length_drop, List.length_map, List.length_reverse, sizeLine_val]; omega) | decide)
local macro_rules | `(tactic| walk_at "st") => `(tactic| first
  | with_reducible refine st_ix0 ?_ | with_reducible refine st_ix1 ?_ | with_reducible refine st_ix2 ?_ | with_reducible refine st_ix3 ?_ | with_reducible refine st_ix4 ?_
  | with_reducible refine st_add_pp (by walk_at "side") ?_ | with_reducible refine st_add_p1 (by walk_at "side") ?_ | with_reducible refine st_add_1p (by walk_at "side") ?_
  | with_reducible refine st_add ?_ | with_reducible refine st_sub ?_ | with_reducible refine st_iadd ?_ | with_reducible refine st_neg ?_
  | with_reducible refine st_len_p ?_ | with_reducible refine st_len_lp ?_ | with_reducible refine st_len_rp ?_ | with_reducible refine st_len_t ?_ | with_reducible refine st_len_l ?_
  | with_reducible refine st_add_t (by walk_at "side") ?_ | with_reducible refine st_add_l (by walk_at "side") ?_ | with_reducible refine st_add_s (by walk_at "side") ?_
  | with_reducible refine st_tru_bl ?_ | with_reducible refine st_tru_int ?_ | with_reducible refine st_tru_tup ?_ | with_reducible refine st_tru_lst ?_ | with_reducible refine st_tru_non ?_
  | with_reducible refine st_at (by assumption) ?_ | with_reducible refine st_atl (by assumption) ?_
  | with_reducible refine st_iteT ?_ | with_reducible refine st_iteF ?_ | with_reducible refine st_not ?_
  | with_reducible refine st_lt ?_ | with_reducible refine st_le ?_ | with_reducible refine st_gt ?_ | with_reducible refine st_ge ?_ | with_reducible refine st_eqi ?_ | with_reducible refine st_nei ?_ | with_reducible refine st_eqs ?_ | with_reducible refine st_nes ?_ | with_reducible refine st_eqb ?_
  | with_reducible refine st_isn_non ?_ | with_reducible refine st_isn_int ?_ | with_reducible refine st_isn_tup ?_ | with_reducible refine st_isn_str ?_ | with_reducible refine st_isn_bl ?_
  | with_reducible refine st_isnt_non ?_ | with_reducible refine st_isnt_int ?_ | with_reducible refine st_isnt_tup ?_ | with_reducible refine st_isnt_str ?_
  | with_reducible refine st_int ?_ | with_reducible refine st_intb ?_ | with_reducible refine st_abs ?_ | with_reducible refine st_min2 ?_ | with_reducible refine st_max2 ?_
  | with_reducible refine st_tup_l ?_ | with_reducible refine st_tup_t ?_ | with_reducible refine st_lst_t ?_ | with_reducible refine st_lst_l ?_
  | with_reducible refine st_sl_from ?_ | with_reducible refine st_sl_to ?_
  | with_reducible refine st_lx0 ?_ | with_reducible refine st_lx1 ?_ | with_reducible refine st_lx2 ?_ | with_reducible refine st_lx3 ?_
  | with_reducible refine st_mod (by walk_at "side") ?_ | with_reducible refine st_div (by walk_at "side") ?_ | with_reducible refine st_mul (by walk_at "side") ?_ | with_reducible refine st_mul' (by walk_at "side") ?_
  | with_reducible refine st_isi rfl ?_
  | (with_reducible refine And.intro (Nat.le_of_ble_eq_true rfl) ?_)
  | (refine And.intro (rfl : (_ : Nat) = _) ?_)
  | with_reducible refine st_dT (by walk_at "cond") ?_ | with_reducible refine st_dF (by walk_at "cond") ?_)
local macro_rules | `(tactic| walk_at "hd") => `(tactic| (with_reducible conv => whnf))
local macro_rules | `(tactic| walk_at "run") => `(tactic| ((with_reducible conv => whnf); repeat (walk_at "st"; (with_reducible conv => whnf))))
/-! ### the law's rows and marks -/
def lmD : Option MV → D
  | none => .non
  | some (.row n) => .tup [.str "row", iD n]
  | some (.like m) => .tup [.str "as", iD m]
def lmk (ms : List (Option MV)) : Mk := fun i => (ms[i]?).join
theorem lmk_add (ms : List (Option MV)) : lmk (ms ++ [none]) = lmk ms := by
  funext i
  unfold lmk
  by_cases h : i < ms.length
  · rw [List.getElem?_append_left h]
  · rw [List.getElem?_append_right (by omega), List.getElem?_eq_none (by omega : ms.length ≤ i)]
    cases hi : i - ms.length with
    | zero => rfl
    | succ k => rfl
theorem lmk_set (ms : List (Option MV)) {m : Nat} (h : m < ms.length) (v : MV) : lmk (ms.set m (some v)) = mset (lmk ms) m v := by
  funext i
  unfold lmk mset
  by_cases e : i = m
  · subst e
    rw [if_pos rfl, List.getElem?_set_self h]
    rfl
  · rw [if_neg e, List.getElem?_set_ne (Ne.symm e)]
structure Ls (S : Sto) (s r m : Addr) (dl : Dl) (rd : List D) (ms : List (Option MV)) : Prop where
  es : S s = some (.dK [(Sum.inr "rows", .ref r), (Sum.inr "marks", .ref m), (Sum.inr "deeds", deedsD dl)])
  er : S r = some (.lst rd)
  em : S m = some (.lst (ms.map lmD))
  rm : r ≠ m
theorem Ls.sr {S : Sto} {s r m : Addr} {dl : Dl} {rd : List D} {ms : List (Option MV)} (h : Ls S s r m dl rd ms) : s ≠ r := fun z => by have := h.es; rw [z, h.er] at this; cases this
theorem Ls.sm {S : Sto} {s r m : Addr} {dl : Dl} {rd : List D} {ms : List (Option MV)} (h : Ls S s r m dl rd ms) : s ≠ m := fun z => by have := h.es; rw [z, h.em] at this; cases this
/-- what stood stands -/
def Kp (r m : Addr) (S S' : Sto) : Prop := ∀ c o, c ≠ r → c ≠ m → S c = some o → S' c = some o
theorem Kp.refl {r m : Addr} {S : Sto} : Kp r m S S := fun _ _ _ _ h => h
theorem Kp.trans {r m : Addr} {S S1 S2 : Sto} (h : Kp r m S S1) (k : Kp r m S1 S2) : Kp r m S S2 := fun c o h1 h2 e => k c o h1 h2 (h c o h1 h2 e)
theorem kp_r {r m : Addr} {S : Sto} {o : SO} : Kp r m S (sup S r o) := fun c _ h1 _ e => by rw [sup_ne h1]; exact e
theorem kp_m {r m : Addr} {S : Sto} {o : SO} : Kp r m S (sup S m o) := fun c _ _ h2 e => by rw [sup_ne h2]; exact e
theorem Ls.add {S : Sto} {s r m : Addr} {dl : Dl} {rd : List D} {ms : List (Option MV)} (h : Ls S s r m dl rd ms) (d : D) : Ls (sup S r (.lst (rd ++ [d]))) s r m dl (rd ++ [d]) ms :=
  ⟨by rw [sup_ne h.sr]; exact h.es, sup_same, by rw [sup_ne (Ne.symm h.rm)]; exact h.em, h.rm⟩
theorem Ls.marks {S : Sto} {s r m : Addr} {dl : Dl} {rd : List D} {ms : List (Option MV)} (h : Ls S s r m dl rd ms) (ms' : List (Option MV)) : Ls (sup S m (.lst (ms'.map lmD))) s r m dl rd ms' :=
  ⟨by rw [sup_ne h.sm]; exact h.es, by rw [sup_ne h.rm]; exact h.er, sup_same, h.rm⟩
theorem Ls.out {S : Sto} {s r m p : Addr} {dl : Dl} {rd : List D} {ms : List (Option MV)} {o : SO} (h : Ls S s r m dl rd ms) (h1 : p ≠ s) (h2 : p ≠ r) (h3 : p ≠ m) : Ls (sup S p o) s r m dl rd ms :=
  ⟨by rw [sup_ne (Ne.symm h1)]; exact h.es, by rw [sup_ne (Ne.symm h2)]; exact h.er, by rw [sup_ne (Ne.symm h3)]; exact h.em, h.rm⟩
theorem Ls.new {S : Sto} {s r m p : Addr} {dl : Dl} {rd : List D} {ms : List (Option MV)} (h : Ls S s r m dl rd ms) (hp : S p = none) : p ≠ s ∧ p ≠ r ∧ p ≠ m :=
  ⟨(fun z => by have := h.es; rw [← z, hp] at this; cases this), (fun z => by have := h.er; rw [← z, hp] at this; cases this), (fun z => by have := h.em; rw [← z, hp] at this; cases this)⟩
theorem ls_rows {S : Sto} {s r m : Addr} {dl : Dl} {rd : List D} {ms : List (Option MV)} (h : Ls S s r m dl rd ms) : dGetD S (.ref s) (.str "rows") = some (some (.ref r)) := dget_eq h.es (y := .str "rows") rfl (by rfl)
theorem ls_marks {S : Sto} {s r m : Addr} {dl : Dl} {rd : List D} {ms : List (Option MV)} (h : Ls S s r m dl rd ms) : dGetD S (.ref s) (.str "marks") = some (some (.ref m)) := dget_eq h.es (y := .str "marks") rfl (by rfl)
theorem ls_deeds {S : Sto} {s r m : Addr} {dl : Dl} {rd : List D} {ms : List (Option MV)} (h : Ls S s r m dl rd ms) : dGetD S (.ref s) (.str "deeds") = some (some (deedsD dl)) := dget_eq h.es (y := .str "deeds") rfl (by rfl)
def sp_law_mark (x : D) (S : Sto) (Q : DK) : Prop := ∃ s r m dl rd ms, x = .ref m ∧ Ls S s r m dl rd ms ∧ ms.length ≤ 10000000 ∧ ∀ S', Ls S' s r m dl rd (ms ++ [none]) → Kp r m S S' → Q (iD ms.length) S'
-- _law_mark : 0=marks
def rd_law_mark : DTS :=
    (dSeq (dDrop (dLM vAppend (dVar 0) (dCons (dC .non) dNil)))
    (dRet (dOp vSub (dCB vLen (dCons (dVar 0) dNil)) (dC (.int 1)))))
set_option pp.maxSteps 300
theorem rd_law_mark_ok : ∀ ds S P, (a1 sp_law_mark) ds S P → rd_law_mark (DEnds.of P) (dstart ["marks"] ds) S := by
  intro ds S P hsp
  rcases ds with _ | ⟨x, _ | ⟨y, ds⟩⟩ <;> first | exact (hsp : False).elim | skip
  obtain ⟨s, r, m, dl, rd, ms, rfl, h, hl, q⟩ := (hsp : sp_law_mark x S P)
  unfold rd_law_mark
  walk_at "run"
  rw [isSeq_ref]
  refine ⟨⟨_, h.em⟩, ?_⟩
  walk_at "run"
  refine st_append h.em (by rw [List.length_map, sizeLine_v]; omega) ?_
  rw [show ms.map lmD ++ [D.non] = (ms ++ [none]).map lmD by rw [List.map_append]; rfl]
  walk_at "run"
  refine st_len_r sup_same ?_
  rw [List.length_map, List.length_append]
  walk_at "run"
  rw [show ((ms.length + [(none : Option MV)].length : Nat) : Int) - 1 = (ms.length : Int) by simp]
  exact .of (q _ (h.marks _) kp_m)
theorem use_lmark {s r m : Addr} {dl : Dl} {rd : List D} {ms : List (Option MV)} {S : Sto} {Q : DK} (h : Ls S s r m dl rd ms) (hl : ms.length ≤ 10000000) (q : ∀ S', Ls S' s r m dl rd (ms ++ [none]) → Kp r m S S' → Q (iD ms.length) S') : sp_law_mark (.ref m) S Q := ⟨s, r, m, dl, rd, ms, rfl, h, hl, q⟩
/-- a row of the law's own as it stands, its lists new since S0 -/
inductive RowAt (S0 S : Sto) (r m : Addr) (dl : Dl) : D → Mr → Prop
  | deed {d t : Nat} : RowAt S0 S r m dl (.lst [.str "deed", offOf dl d, onOf dl d, iD t]) (.deed d t)
  | call {w t : Nat} : RowAt S0 S r m dl (.lst [.str "call", iD w, iD t]) (.call w t)
  | fix {c : Addr} {ts : List Nat} : S0 c = none → c ≠ r → c ≠ m → S c = some (.lst [.str "choose", .lst (ts.map iD)]) → RowAt S0 S r m dl (.ref c) (.choose ts)
  | grow {c e : Addr} {ts : List Nat} : S0 c = none → S0 e = none → c ≠ r → c ≠ m → e ≠ r → e ≠ m → S c = some (.lst [.str "choose", .ref e]) → S e = some (.lst (ts.map iD)) → RowAt S0 S r m dl (.ref c) (.choose ts)
theorem RowAt.mono {S0 S S' : Sto} {r m : Addr} {dl : Dl} {d : D} {w : Mr} (k : Kp r m S S') (h : RowAt S0 S r m dl d w) : RowAt S0 S' r m dl d w := by
  cases h with
  | deed => exact .deed
  | call => exact .call
  | fix z a b c => exact .fix z a b (k _ _ a b c)
  | grow z z2 a b a2 b2 c e => exact .grow z z2 a b a2 b2 (k _ _ a b c) (k _ _ a2 b2 e)
theorem kp_none {r m a : Addr} {S S' : Sto} (k : Kp r m S S') (h : S' a = none) (h1 : a ≠ r) (h2 : a ≠ m) : S a = none := by
  cases e : S a with
  | none => rfl
  | some o => rw [k a o h1 h2 e] at h; cases h
theorem Kp.nn {r m : Addr} {S S' : Sto} (k : Kp r m S S') : ∀ a, a ≠ r → a ≠ m → S' a = none → S a = none := fun a h1 h2 h => kp_none k h h1 h2
theorem RowAt.weak {S0 S1 S : Sto} {r m : Addr} {dl : Dl} {d : D} {w : Mr} (k : ∀ a, a ≠ r → a ≠ m → S1 a = none → S0 a = none) (h : RowAt S1 S r m dl d w) : RowAt S0 S r m dl d w := by
  cases h with
  | deed => exact .deed
  | call => exact .call
  | fix z a b c => exact .fix (k _ a b z) a b c
  | grow z z2 a b a2 b2 c e => exact .grow (k _ a b z) (k _ a2 b2 z2) a b a2 b2 c e
/-- what was there ahead may change -/
theorem RowAt.old {S0 S : Sto} {r m e : Addr} {dl : Dl} {d : D} {w : Mr} {o : SO} (he : S0 e ≠ none) (h : RowAt S0 S r m dl d w) : RowAt S0 (sup S e o) r m dl d w := by
  have ne : ∀ {c : Addr}, S0 c = none → c ≠ e := fun {c} z k => by subst k; exact he z
  cases h with
  | deed => exact .deed
  | call => exact .call
  | fix z a b c => exact .fix z a b (by rw [sup_ne (ne z)]; exact c)
  | grow z z2 a b a2 b2 c e => exact .grow z z2 a b a2 b2 (by rw [sup_ne (ne z)]; exact c) (by rw [sup_ne (ne z2)]; exact e)
theorem all2_imp {α β : Type} {R R' : α → β → Prop} (h : ∀ a b, R a b → R' a b) : ∀ {l : List α} {m : List β}, All2 R l m → All2 R' l m
  | _, _, .nil => .nil
  | _, _, .cons x t => .cons (h _ _ x) (all2_imp h t)
def isRep : Stm → Bool
  | .rep _ _ => true
  | _ => false
def sr_law_lay (n : Nat) (x y z u : D) (S : Sto) (Q : DK) : Prop := ∃ s r m dl rd ms b bg bh, x = .ref s ∧ y = .tup (bD b) ∧ z = iD bg ∧ u = iD bh ∧ Ls S s r m dl rd ms ∧ bg < ms.length ∧ okB dl.length b = true ∧ hB b ≤ n ∧ hB b ≤ 20 ∧ ms.length + nxB b ≤ 9000000 ∧ rd.length + nxB b ≤ 9000000 ∧
  ∀ S' rd2 nr ms', Ls S' s r m dl (rd ++ rd2) ms' → ms.length ≤ ms'.length → ms'.length ≤ ms.length + nxB b → nr.length = cntB b → All2 (RowAt S S' r m dl) rd2 nr → LyB (lmk ms) (lmk ms') ms.length ms'.length bg bh 0 nr rd.length b → Kp r m S S' → Q .non S'
def sr_law_lay_inner (n : Nat) (x y z u : D) (S : Sto) (Q : DK) : Prop := ∃ s r m dl rd ms o he th M0, x = .ref s ∧ y = sD o ∧ z = iD he ∧ u = iD th ∧ Ls S s r m dl rd ms ∧ he < ms.length ∧ th < ms.length ∧ ln o = false ∧ (∀ d, o ≠ .deed d) ∧ (∀ d, o ≠ .call d) ∧ o ≠ .back ∧ lmk ms = (if isRep o then M0 else mset M0 he (.row rd.length)) ∧
  okS dl.length o = true ∧ hS o ≤ n ∧ hS o ≤ 20 ∧ ms.length + nx o ≤ 9000000 ∧ rd.length + 1 + nx o ≤ 9000000 ∧
  ∀ S' rd2 nr ms', Ls S' s r m dl (rd ++ rd2) ms' → ms.length ≤ ms'.length → ms'.length ≤ ms.length + nx o → nr.length = cnt o → All2 (RowAt S S' r m dl) rd2 nr → LyS M0 (lmk ms') ms.length ms'.length he th 0 nr rd.length o → Kp r m S S' → Q .non S'
def sp_law_lay := sr_law_lay 20
def sp_law_lay_inner := sr_law_lay_inner 20
theorem use_llay {n : Nat} {s r m : Addr} {dl : Dl} {rd : List D} {ms : List (Option MV)} {b : List Stm} {bg bh : Nat} {S : Sto} {Q : DK} (h : Ls S s r m dl rd ms) (hb : bg < ms.length) (ok : okB dl.length b = true) (h1 : hB b ≤ n) (h2 : hB b ≤ 20) (h3 : ms.length + nxB b ≤ 9000000) (h4 : rd.length + nxB b ≤ 9000000)
    (q : ∀ S' rd2 nr ms', Ls S' s r m dl (rd ++ rd2) ms' → ms.length ≤ ms'.length → ms'.length ≤ ms.length + nxB b → nr.length = cntB b → All2 (RowAt S S' r m dl) rd2 nr → LyB (lmk ms) (lmk ms') ms.length ms'.length bg bh 0 nr rd.length b → Kp r m S S' → Q .non S') :
    sr_law_lay n (.ref s) (.tup (bD b)) (iD bg) (iD bh) S Q := ⟨s, r, m, dl, rd, ms, b, bg, bh, rfl, rfl, rfl, rfl, h, hb, ok, h1, h2, h3, h4, q⟩
-- _law_lay : 0=state 1=body 2=begin 3=behind 4=here 5=one 6=then
def rd_law_lay (spr_law_lay_inner : DSp) : DTS :=
    (dSeq (dAsg (dVar 2) (dTg (.nm 4)))
    (dSeq (dFor (iTupD (dVar 1)) (dTg (.nm 5)) (dSeq (dIf (dTest (dCall (a1 sp_law_lays_nothing) (dCons (dVar 5) dNil))) dCont dNext)
    (dSeq (dIf (dOr (dTest (dOp vEq (dOp vIx (dVar 5) (dC (.int 0))) (dC (.str "back")))) (dAnd (dTest (dOp vEq (dOp vIx (dVar 5) (dC (.int 0))) (dC (.str "repeat")))) (dTest (dCall (a1 sp_law_at_once) (dCons (dOp vIx (dVar 5) (dC (.int 2))) dNil))))) (dSeq (dAsg (dTup (dCons (dC (.str "as")) (dCons (dC (.int 0)) dNil))) (dgSub (dDGet (dVar 0) (dC (.str "marks"))) (dVar 4)))
    dRetN) dNext)
    (dSeq (dAsg (dCall (a1 sp_law_mark) (dCons (dDGet (dVar 0) (dC (.str "marks"))) dNil)) (dTg (.nm 6)))
    (dSeq (dIf (dTest (dOp vNe (dOp vIx (dVar 5) (dC (.int 0))) (dC (.str "repeat")))) (dAsg (dTup (dCons (dC (.str "row")) (dCons (dCB vLen (dCons (dDGet (dVar 0) (dC (.str "rows"))) dNil)) dNil))) (dgSub (dDGet (dVar 0) (dC (.str "marks"))) (dVar 4))) dNext)
    (dSeq (dIf (dTest (dOp vEq (dOp vIx (dVar 5) (dC (.int 0))) (dC (.str "deed")))) (dDrop (dLM vAppend (dDGet (dVar 0) (dC (.str "rows"))) (dCons (dLst (dCons (dC (.str "deed")) (dCons (dOp vIx (dOp vIx (dDGet (dVar 0) (dC (.str "deeds"))) (dOp vIx (dVar 5) (dC (.int 1)))) (dC (.int 1))) (dCons (dOp vIx (dOp vIx (dDGet (dVar 0) (dC (.str "deeds"))) (dOp vIx (dVar 5) (dC (.int 1)))) (dC (.int 2))) (dCons (dVar 6) dNil))))) dNil))) (dIf (dTest (dOp vEq (dOp vIx (dVar 5) (dC (.int 0))) (dC (.str "call")))) (dDrop (dLM vAppend (dDGet (dVar 0) (dC (.str "rows"))) (dCons (dLst (dCons (dC (.str "call")) (dCons (dOp vIx (dVar 5) (dC (.int 1))) (dCons (dVar 6) dNil)))) dNil))) (dDrop (dCall spr_law_lay_inner (dCons (dVar 0) (dCons (dVar 5) (dCons (dVar 4) (dCons (dVar 6) dNil))))))))
    (dAsg (dVar 6) (dTg (.nm 4)))))))))
    (dAsg (dTup (dCons (dC (.str "as")) (dCons (dVar 3) dNil))) (dgSub (dDGet (dVar 0) (dC (.str "marks"))) (dVar 4)))))
theorem okB_mem {nd : Nat} {s : Stm} : ∀ {b : List Stm}, okB nd b = true → s ∈ b → okS nd s = true
  | _ :: _, h, m => by
    rw [okB, Bool.and_eq_true] at h
    rcases List.mem_cons.mp m with rfl | m
    · exact h.1
    · exact okB_mem h.2 m
theorem rd_law_lay_ok (n : Nat) (spr_law_lay_inner : DSp) (hs_law_lay_inner : ∀ m, n = m + 1 → spr_law_lay_inner = a4 (sr_law_lay_inner m)) : ∀ ds S P, (a4 (sr_law_lay n)) ds S P → rd_law_lay spr_law_lay_inner (DEnds.of P) (dstart ["state", "body", "begin", "behind", "here", "one", "then"] ds) S := by
  intro ds S P hsp
  rcases ds with _ | ⟨x, _ | ⟨y, _ | ⟨z, _ | ⟨u, _ | ⟨w, ds⟩⟩⟩⟩⟩ <;> first | exact (hsp : False).elim | skip
  obtain ⟨s, r, m, dl, rd, ms, b, bg, bh, rfl, rfl, rfl, rfl, h, hb, ok, hn, hn2, hx, hx2, q⟩ := (hsp : sr_law_lay n x y z u S P)
  unfold rd_law_lay
  obtain ⟨k, rfl⟩ : ∃ k, n = k + 1 := ⟨n - 1, by cases b <;> rw [hB] at hn <;> omega⟩
  rw [hs_law_lay_inner k rfl]
  walk_at "run"
  rw [bD_map]
  refine forL_inv (fun i δ S' => ∃ rd2 nr ms' he x5 x6, Ls S' s r m dl (rd ++ rd2) ms' ∧ he < ms'.length ∧ ms.length ≤ ms'.length ∧ ms'.length + nxB (b.drop i) ≤ ms.length + nxB b ∧ rd2.length + nxB (b.drop i) ≤ nxB b ∧ Kp r m S S' ∧ All2 (RowAt S S' r m dl) rd2 nr ∧
      (∀ nr2 M2 N2, LyB (lmk ms') M2 ms'.length N2 he bh 0 nr2 (rd.length + nr.length) (b.drop i) → ms'.length ≤ N2 → nr2.length = cntB (b.drop i) → LyB (lmk ms) M2 ms.length N2 bg bh 0 (nr ++ nr2) rd.length b ∧ (nr ++ nr2).length = cntB b) ∧
      δ = [some (.ref s), some (.tup (b.map sD)), some (iD bg), some (iD bh), some (iD he), x5, x6]) (fun _ _ _ _ => True.intro) _ 0 _ _
      ⟨[], [], ms, bg, none, none, by rw [List.append_nil]; exact h, hb, Nat.le_refl _, by rw [List.drop_zero]; exact Nat.le_refl _, by rw [List.drop_zero]; simp, Kp.refl, .nil, fun nr2 M2 N2 l _ e => ⟨l, e⟩, rfl⟩ ?_ ?_
  · rintro j dd _ S' hj ⟨rd2, nr, ms', he, x5, x6, h1, hhe, hN, hsz, hsz2, kp, rows_, cps, rfl⟩ D2 hrt _ hnx hct
    rw [List.getElem?_map] at hj
    obtain ⟨o, ho, rfl⟩ := Option.map_eq_some_iff.mp hj
    rw [Nat.zero_add] at hsz hsz2 cps hnx hct
    have hm := List.mem_of_getElem? ho
    have hh := hS_mem hm
    have hxx := nx_mem hm
    have hok := okB_mem ok hm
    have ed := drop_at ho
    rw [ed] at hsz hsz2 cps
    rw [nxB] at hsz hsz2
    have rl := rows_.len
    walk_at "run"
    refine use_llays (n := 20) (by omega) (by omega) ?_
    cases el : ln o with
    | true =>
      walk_at "run"
      refine hct _ _ ⟨rd2, nr, ms', he, _, _, h1, hhe, hN, by omega, by omega, kp, rows_, fun nr2 M2 N2 l n4 n5 => ?_, rfl⟩
      exact cps nr2 M2 N2 (LyB.skip el l) n4 (by rw [n5]; exact (ln_skip el _ 0 0 0).2.2.symm)
    | false =>
      have hl0 : (rd ++ rd2).length = rd.length + nr.length := by rw [List.length_append, rl]
      have next : ∀ (S4 : Sto) (rd3 : List D) (nr3 : List Mr) (ms4 : List (Option MV)), isB o = false → Ls S4 s r m dl ((rd ++ rd2) ++ rd3) ms4 → ms'.length + 1 ≤ ms4.length → ms4.length ≤ ms'.length + 1 + nx o → nr3.length = cnt o → All2 (RowAt S' S4 r m dl) rd3 nr3 →
          LyS (lmk ms') (lmk ms4) (ms'.length + 1) ms4.length he ms'.length 0 nr3 (rd.length + nr.length) o → Kp r m S' S4 → D2.nx [some (.ref s), some (.tup (b.map sD)), some (iD bg), some (iD bh), some (iD ms'.length), some (sD o), some (iD ms'.length)] S4 := fun S4 rd3 nr3 ms4 ib h4 n1 n2 n3 r4 l4 k4 => by
        have cn := cnt_nx o
        have r4l := r4.len
        rw [cntB, ib] at cps
        refine hnx _ _ ⟨rd2 ++ rd3, nr ++ nr3, ms4, ms'.length, _, _, by rw [← List.append_assoc]; exact h4, by omega, by omega, by omega, by rw [List.length_append]; omega, kp.trans k4, (all2_imp (fun _ _ => RowAt.mono k4) rows_).append (all2_imp (fun _ _ => RowAt.weak kp.nn) r4), fun nr2 M2 N2 l n4 n5 => ?_, rfl⟩
        rw [List.append_assoc]
        refine cps (nr3 ++ nr2) M2 N2 (LyB.cons ib hhe n1 n4 l4 ?_) (by omega) (by rw [List.length_append, n3, n5]; rfl)
        rw [List.length_append, n3, ← Nat.add_assoc] at l
        exact l
      have stop : isB o = true → Fin_ P .non (L3.sup S' m (.lst ((ms'.set he (some (.like 0))).map lmD))) := fun ib => by
        rw [cntB, ib] at cps
        obtain ⟨c1, c2⟩ := cps [] (mset (lmk ms') he (.like 0)) ms'.length (LyB.back ib) (Nat.le_refl _) rfl
        rw [List.append_nil] at c1 c2
        rw [← lmk_set _ hhe] at c1
        exact .of (q _ rd2 nr _ (h1.marks _) (by rw [List.length_set]; exact hN) (by rw [List.length_set]; omega) c2 (all2_imp (fun _ _ => RowAt.mono kp_m) rows_) (by rw [List.length_set]; exact c1) (kp.trans kp_m))
      cases o with
      | back =>
        rw [sD]
        walk_at "run"
        refine ⟨_, ls_marks h1, ?_⟩
        walk_at "run"
        refine st_setr h1.em (by rw [List.length_map]; exact hhe) ?_
        rw [show (ms'.map lmD).set he (D.tup [.str "as", .int 0]) = (ms'.set he (some (.like 0))).map lmD by rw [List.map_set]; rfl]
        show D2.rt _ _
        rw [hrt]
        exact stop (by rw [isB])
      | deed dd =>
        rw [sD]
        have ib : isB (Stm.deed dd) = false := by rw [isB]
        walk_at "run"
        refine ⟨_, ls_marks h1, ?_⟩
        refine use_lmark h1 (by omega) fun S2 h2 k2 => ?_
        walk_at "run"
        refine ⟨_, ls_rows h2, ?_⟩
        walk_at "run"
        refine st_len_r h2.er ?_
        rw [hl0]
        walk_at "run"
        refine ⟨_, ls_marks h2, ?_⟩
        walk_at "run"
        refine st_setr h2.em (by rw [List.length_map, List.length_append]; exact Nat.lt_add_right _ hhe) ?_
        have es : ((ms' ++ [none]).map lmD).set he (D.tup [.str "row", .int ((rd.length + nr.length : Nat) : Int)]) = ((ms' ++ [none]).set he (some (MV.row (rd.length + nr.length)))).map lmD := by rw [List.map_set]; rfl
        rw [es]
        have h3 := h2.marks ((ms' ++ [none]).set he (some (MV.row (rd.length + nr.length))))
        have l3 : lmk ((ms' ++ [none]).set he (some (MV.row (rd.length + nr.length)))) = mset (lmk ms') he (.row (rd.length + nr.length)) := by rw [lmk_set _ (by rw [List.length_append]; exact Nat.lt_add_right _ hhe), lmk_add]
        have n3 : ((ms' ++ [none]).set he (some (MV.row (rd.length + nr.length)))).length = ms'.length + 1 := by rw [List.length_set, List.length_append]; rfl
        have k3 := k2.trans (kp_m (r := r) (m := m) (S := S2) (o := .lst (((ms' ++ [none]).set he (some (MV.row (rd.length + nr.length)))).map lmD)))
        generalize ((ms' ++ [none]).set he (some (MV.row (rd.length + nr.length)))) = ms3 at h3 l3 n3 k3
        generalize L3.sup S2 m (.lst (ms3.map lmD)) = S3 at h3 k3
        walk_at "run"
        rw [okS] at hok
        have hdd : dd < dl.length := of_decide_eq_true hok
        obtain ⟨⟨nm, of_, on_⟩, hd⟩ : ∃ u, dl[dd]? = some u := ⟨_, List.getElem?_eq_getElem hdd⟩
        have e1 : (dl.map fun t => D.tup [t.1, t.2.1, t.2.2])[dd]? = some (.tup [nm, of_, on_]) := by rw [List.getElem?_map, hd]; rfl
        have e2 : offOf dl dd = of_ ∧ onOf dl dd = on_ := by simp only [offOf, onOf, hd]; exact ⟨rfl, rfl⟩
        refine ⟨_, ls_rows h3, ?_⟩
        walk_at "run"
        rw [isSeq_ref]
        refine ⟨⟨_, h3.er⟩, ?_⟩
        walk_at "run"
        refine ⟨_, ls_deeds h3, ?_⟩
        walk_at "run"
        refine ⟨_, ls_deeds h3, ?_⟩
        walk_at "run"
        refine st_append h3.er (by rw [hl0, sizeLine_v]; omega) ?_
        walk_at "run"
        refine next _ [_] [.deed dd ms'.length] ms3 ib (h3.add _) (by omega) (by omega) (by rw [cnt]; rfl) (.cons ?_ .nil) ?_ (k3.trans kp_r)
        · rw [← e2.1, ← e2.2]; exact .deed
        · rw [l3, n3]; exact LyS.deed
      | call dd =>
        rw [sD]
        have ib : isB (Stm.call dd) = false := by rw [isB]
        walk_at "run"
        refine ⟨_, ls_marks h1, ?_⟩
        refine use_lmark h1 (by omega) fun S2 h2 k2 => ?_
        walk_at "run"
        refine ⟨_, ls_rows h2, ?_⟩
        walk_at "run"
        refine st_len_r h2.er ?_
        rw [hl0]
        walk_at "run"
        refine ⟨_, ls_marks h2, ?_⟩
        walk_at "run"
        refine st_setr h2.em (by rw [List.length_map, List.length_append]; exact Nat.lt_add_right _ hhe) ?_
        have es : ((ms' ++ [none]).map lmD).set he (D.tup [.str "row", .int ((rd.length + nr.length : Nat) : Int)]) = ((ms' ++ [none]).set he (some (MV.row (rd.length + nr.length)))).map lmD := by rw [List.map_set]; rfl
        rw [es]
        have h3 := h2.marks ((ms' ++ [none]).set he (some (MV.row (rd.length + nr.length))))
        have l3 : lmk ((ms' ++ [none]).set he (some (MV.row (rd.length + nr.length)))) = mset (lmk ms') he (.row (rd.length + nr.length)) := by rw [lmk_set _ (by rw [List.length_append]; exact Nat.lt_add_right _ hhe), lmk_add]
        have n3 : ((ms' ++ [none]).set he (some (MV.row (rd.length + nr.length)))).length = ms'.length + 1 := by rw [List.length_set, List.length_append]; rfl
        have k3 := k2.trans (kp_m (r := r) (m := m) (S := S2) (o := .lst (((ms' ++ [none]).set he (some (MV.row (rd.length + nr.length)))).map lmD)))
        generalize ((ms' ++ [none]).set he (some (MV.row (rd.length + nr.length)))) = ms3 at h3 l3 n3 k3
        generalize L3.sup S2 m (.lst (ms3.map lmD)) = S3 at h3 k3
        walk_at "run"
        refine ⟨_, ls_rows h3, ?_⟩
        walk_at "run"
        rw [isSeq_ref]
        refine ⟨⟨_, h3.er⟩, ?_⟩
        walk_at "run"
        refine st_append h3.er (by rw [hl0, sizeLine_v]; omega) ?_
        walk_at "run"
        refine next _ [_] [.call dd ms'.length] ms3 ib (h3.add _) (by omega) (by omega) (by rw [cnt]; rfl) (.cons .call .nil) ?_ (k3.trans kp_r)
        rw [l3, n3]; exact LyS.call
      | either bs =>
        rw [sD]
        have ib : isB (Stm.either bs) = false := by rw [isB]
        walk_at "run"
        refine ⟨_, ls_marks h1, ?_⟩
        refine use_lmark h1 (by omega) fun S2 h2 k2 => ?_
        walk_at "run"
        refine ⟨_, ls_rows h2, ?_⟩
        walk_at "run"
        refine st_len_r h2.er ?_
        rw [hl0]
        walk_at "run"
        refine ⟨_, ls_marks h2, ?_⟩
        walk_at "run"
        refine st_setr h2.em (by rw [List.length_map, List.length_append]; exact Nat.lt_add_right _ hhe) ?_
        have es : ((ms' ++ [none]).map lmD).set he (D.tup [.str "row", .int ((rd.length + nr.length : Nat) : Int)]) = ((ms' ++ [none]).set he (some (MV.row (rd.length + nr.length)))).map lmD := by rw [List.map_set]; rfl
        rw [es]
        have h3 := h2.marks ((ms' ++ [none]).set he (some (MV.row (rd.length + nr.length))))
        have l3 : lmk ((ms' ++ [none]).set he (some (MV.row (rd.length + nr.length)))) = mset (lmk ms') he (.row (rd.length + nr.length)) := by rw [lmk_set _ (by rw [List.length_append]; exact Nat.lt_add_right _ hhe), lmk_add]
        have n3 : ((ms' ++ [none]).set he (some (MV.row (rd.length + nr.length)))).length = ms'.length + 1 := by rw [List.length_set, List.length_append]; rfl
        have k3 := k2.trans (kp_m (r := r) (m := m) (S := S2) (o := .lst (((ms' ++ [none]).set he (some (MV.row (rd.length + nr.length)))).map lmD)))
        generalize ((ms' ++ [none]).set he (some (MV.row (rd.length + nr.length)))) = ms3 at h3 l3 n3 k3
        generalize L3.sup S2 m (.lst (ms3.map lmD)) = S3 at h3 k3
        walk_at "run"
        refine ⟨s, r, m, dl, rd ++ rd2, ms3, _, he, ms'.length, lmk ms', rfl, (by rw [sD]), rfl, rfl, h3, by omega, by omega, el, (fun _ z => by cases z), (fun _ z => by cases z), (fun z => by cases z), (by rw [l3, hl0]; rfl), hok, by omega, by omega, by omega, by rw [hl0]; omega, fun S4 rd3 nr3 ms4 h4 n4 n5 n6 r4 l4 k4 => ?_⟩
        walk_at "run"
        rw [hl0] at l4
        exact next S4 rd3 nr3 ms4 ib h4 (by omega) (by omega) n6 (all2_imp (fun _ _ => RowAt.weak k3.nn) r4) (by rw [n3] at l4; exact l4) (k3.trans k4)
      | loop b2 =>
        rw [sD]
        have ib : isB (Stm.loop b2) = false := by rw [isB]
        walk_at "run"
        refine ⟨_, ls_marks h1, ?_⟩
        refine use_lmark h1 (by omega) fun S2 h2 k2 => ?_
        walk_at "run"
        refine ⟨_, ls_rows h2, ?_⟩
        walk_at "run"
        refine st_len_r h2.er ?_
        rw [hl0]
        walk_at "run"
        refine ⟨_, ls_marks h2, ?_⟩
        walk_at "run"
        refine st_setr h2.em (by rw [List.length_map, List.length_append]; exact Nat.lt_add_right _ hhe) ?_
        have es : ((ms' ++ [none]).map lmD).set he (D.tup [.str "row", .int ((rd.length + nr.length : Nat) : Int)]) = ((ms' ++ [none]).set he (some (MV.row (rd.length + nr.length)))).map lmD := by rw [List.map_set]; rfl
        rw [es]
        have h3 := h2.marks ((ms' ++ [none]).set he (some (MV.row (rd.length + nr.length))))
        have l3 : lmk ((ms' ++ [none]).set he (some (MV.row (rd.length + nr.length)))) = mset (lmk ms') he (.row (rd.length + nr.length)) := by rw [lmk_set _ (by rw [List.length_append]; exact Nat.lt_add_right _ hhe), lmk_add]
        have n3 : ((ms' ++ [none]).set he (some (MV.row (rd.length + nr.length)))).length = ms'.length + 1 := by rw [List.length_set, List.length_append]; rfl
        have k3 := k2.trans (kp_m (r := r) (m := m) (S := S2) (o := .lst (((ms' ++ [none]).set he (some (MV.row (rd.length + nr.length)))).map lmD)))
        generalize ((ms' ++ [none]).set he (some (MV.row (rd.length + nr.length)))) = ms3 at h3 l3 n3 k3
        generalize L3.sup S2 m (.lst (ms3.map lmD)) = S3 at h3 k3
        walk_at "run"
        refine ⟨s, r, m, dl, rd ++ rd2, ms3, _, he, ms'.length, lmk ms', rfl, (by rw [sD]), rfl, rfl, h3, by omega, by omega, el, (fun _ z => by cases z), (fun _ z => by cases z), (fun z => by cases z), (by rw [l3, hl0]; rfl), hok, by omega, by omega, by omega, by rw [hl0]; omega, fun S4 rd3 nr3 ms4 h4 n4 n5 n6 r4 l4 k4 => ?_⟩
        walk_at "run"
        rw [hl0] at l4
        exact next S4 rd3 nr3 ms4 ib h4 (by omega) (by omega) n6 (all2_imp (fun _ _ => RowAt.weak k3.nn) r4) (by rw [n3] at l4; exact l4) (k3.trans k4)
      | rep k2 b2 =>
        rw [sD]
        have k0 : k2 ≠ 0 := fun z => by subst z; rw [ln] at el; simp at el
        have hk : 1 + nxB b2 ≤ k2 * (1 + nxB b2) := Nat.le_mul_of_pos_left _ (by omega)
        have hh2 : 1 + hB b2 = hS (.rep k2 b2) := by rw [hS]
        have hx2 : nx (.rep k2 b2) = k2 * (1 + nxB b2) := by rw [nx]
        walk_at "run"
        refine use_once (n := 20) (by omega) (by omega) (by omega) ?_
        have ib : isB (Stm.rep k2 b2) = once b2 := by rw [isB, show (k2 != 0) = true by simpa using k0, Bool.true_and]
        cases eo : once b2 with
        | true =>
          rw [eo] at ib
          walk_at "run"
          refine ⟨_, ls_marks h1, ?_⟩
          walk_at "run"
          refine st_setr h1.em (by rw [List.length_map]; exact hhe) ?_
          rw [show (ms'.map lmD).set he (D.tup [.str "as", .int 0]) = (ms'.set he (some (.like 0))).map lmD by rw [List.map_set]; rfl]
          show D2.rt _ _
          rw [hrt]
          exact stop ib
        | false =>
          rw [eo] at ib
          walk_at "run"
          refine ⟨_, ls_marks h1, ?_⟩
          refine use_lmark h1 (by omega) fun S3 h3 k3 => ?_
          walk_at "run"
          have n3 : (ms' ++ [none]).length = ms'.length + 1 := List.length_append
          refine ⟨s, r, m, dl, rd ++ rd2, ms' ++ [none], _, he, ms'.length, lmk ms', rfl, (by rw [sD]), rfl, rfl, h3, by omega, by omega, el, (fun _ z => by cases z), (fun _ z => by cases z), (fun z => by cases z), (by rw [lmk_add]; rfl), hok, by omega, by omega, by omega, by rw [hl0]; omega, fun S4 rd3 nr3 ms4 h4 n4 n5 n6 r4 l4 k4 => ?_⟩
          walk_at "run"
          rw [hl0] at l4
          exact next S4 rd3 nr3 ms4 ib h4 (by omega) (by omega) n6 (all2_imp (fun _ _ => RowAt.weak k3.nn) r4) (by rw [n3] at l4; exact l4) (k3.trans k4)
  · rintro _ S' ⟨rd2, nr, ms', he, x5, x6, h1, hhe, hN, hsz, hsz2, kp, rows_, cps, rfl⟩
    rw [List.length_map, Nat.zero_add, List.drop_length] at hsz hsz2 cps
    rw [nxB] at hsz hsz2
    walk_at "run"
    refine ⟨_, ls_marks h1, ?_⟩
    walk_at "run"
    refine st_setr h1.em (by rw [List.length_map]; exact hhe) ?_
    rw [show (ms'.map lmD).set he (D.tup [.str "as", iD bh]) = (ms'.set he (some (.like bh))).map lmD by rw [List.map_set]; rfl]
    obtain ⟨c1, c2⟩ := cps [] (mset (lmk ms') he (.like bh)) ms'.length LyB.nil (Nat.le_refl _) (by rw [cntB]; rfl)
    rw [List.append_nil] at c1 c2
    rw [← lmk_set _ hhe] at c1
    exact .of (q _ rd2 nr _ (h1.marks _) (by rw [List.length_set]; exact hN) (by rw [List.length_set]; omega) c2 (all2_imp (fun a b => RowAt.mono kp_m) rows_) (by rw [List.length_set]; exact c1) (kp.trans kp_m))
end L3

set_option Elab.async false
set_option maxRecDepth 100000
set_option linter.all false
set_option maxHeartbeats 4000000
namespace L3
open PySem L2 L3.KL
local macro_rules | `(tactic| walk_at "cond") => `(tactic| first | omega | (simp only [List.length_append, List.length_cons, List.length_nil, List.length_take, List.length_drop, List.length_map, List.length_reverse]; omega) | rfl | decide)
local macro_rules | `(tactic| walk_at "side") => `(tactic| first | assumption | omega | (simp only [List.length_append, List.length_cons, List.length_nil, List.length_take, List.length_drop, List.length_map, List.length_reverse, sizeLine_val]; omega) | decide)
local macro_rules | `(tactic| walk_at "st") => `(tactic| first
  | with_reducible refine st_ix0 ?_ | with_reducible refine st_ix1 ?_ | with_reducible refine st_ix2 ?_ | with_reducible refine st_ix3 ?_ | with_reducible refine st_ix4 ?_
  | with_reducible refine st_add_pp (by walk_at "side") ?_ | with_reducible refine st_add_p1 (by walk_at "side") ?_ | with_reducible refine st_add_1p (by walk_at "side") ?_
  | with_reducible refine st_add ?_ | with_reducible refine st_sub ?_ | with_reducible refine st_iadd ?_ | with_reducible refine st_neg ?_
  | with_reducible refine st_len_p ?_ | with_reducible refine st_len_lp ?_ | with_reducible refine st_len_rp ?_ | with_reducible refine st_len_t ?_ | with_reducible refine st_len_l ?_
  | with_reducible refine st_add_t (by walk_at "side") ?_ | with_reducible refine st_add_l (by walk_at "side") ?_ | with_reducible refine st_add_s (by walk_at "side") ?_
  | with_reducible refine st_tru_bl ?_ | with_reducible refine st_tru_int ?_ | with_reducible refine st_tru_tup ?_ | with_reducible refine st_tru_lst ?_ | with_reducible refine st_tru_non ?_
  | with_reducible refine st_at (by assumption) ?_ | with_reducible refine st_atl (by assumption) ?_
  | with_reducible refine st_iteT ?_ | with_reducible refine st_iteF ?_ | with_reducible refine st_not ?_
  | with_reducible refine st_lt ?_ | with_reducible refine st_le ?_ | with_reducible refine st_gt ?_ | with_reducible refine st_ge ?_ | with_reducible refine st_eqi ?_ | with_reducible refine st_nei ?_ | with_reducible refine st_eqs ?_ | with_reducible refine st_nes ?_ | with_reducible refine st_eqb ?_
  | with_reducible refine st_isn_non ?_ | with_reducible refine st_isn_int ?_ | with_reducible refine st_isn_tup ?_ | with_reducible refine st_isn_str ?_ | with_reducible refine st_isn_bl ?_
  | with_reducible refine st_isnt_non ?_ | with_reducible refine st_isnt_int ?_ | with_reducible refine st_isnt_tup ?_ | with_reducible refine st_isnt_str ?_
  | with_reducible refine st_int ?_ | with_reducible refine st_intb ?_ | with_reducible refine st_abs ?_ | with_reducible refine st_min2 ?_ | with_reducible refine st_max2 ?_
  | with_reducible refine st_tup_l ?_ | with_reducible refine st_tup_t ?_ | with_reducible refine st_lst_t ?_ | with_reducible refine st_lst_l ?_
  | with_reducible refine st_sl_from ?_ | with_reducible refine st_sl_to ?_
  | with_reducible refine st_lx0 ?_ | with_reducible refine st_lx1 ?_ | with_reducible refine st_lx2 ?_ | with_reducible refine st_lx3 ?_
  | with_reducible refine st_mod (by walk_at "side") ?_ | with_reducible refine st_div (by walk_at "side") ?_ | with_reducible refine st_mul (by walk_at "side") ?_ | with_reducible refine st_mul' (by walk_at "side") ?_
  | with_reducible refine st_isi rfl ?_
  | (with_reducible refine And.intro (Nat.le_of_ble_eq_true rfl) ?_)
  | (refine And.intro (rfl : (_ : Nat) = _) ?_)
  | with_reducible refine st_dT (by walk_at "cond") ?_ | with_reducible refine st_dF (by walk_at "cond") ?_)
local macro_rules | `(tactic| walk_at "hd") => `(tactic| (with_reducible conv => whnf))
local macro_rules | `(tactic| walk_at "run") => `(tactic| ((with_reducible conv => whnf); repeat (walk_at "st"; (with_reducible conv => whnf))))
def Kr (a b m : Nat) : Prop := a ≤ m ∧ m < b
theorem okC_mem {nd : Nat} {b : List Stm} : ∀ {bs : List (List Stm)}, okC nd bs = true → b ∈ bs → okB nd b = true
  | _ :: _, h, m => by
    rw [okC, Bool.and_eq_true] at h
    rcases List.mem_cons.mp m with rfl | m
    · exact h.1
    · exact okC_mem h.2 m
theorem st_at1 {A : Addr} {x y : D} {S : Sto} {Q : DK} (e : S A = some (.lst [x, y])) (q : Q y S) : vIx (.ref A) (.int 1) S Q := st_atr (k := 1) e rfl q
-- _law_lay_inner : 0=state 1=one 2=here 3=then 4=marks 5=rows 6=lap 7=end 8=row 9=first 10=body
def rd_law_lay_inner (spr_law_lay : DSp) : DTS :=
    (dSeq (dPar 4 5 (dCons (dDGet (dVar 0) (dC (.str "marks"))) (dCons (dDGet (dVar 0) (dC (.str "rows"))) dNil)))
    (dSeq (dIf (dTest (dOp vEq (dOp vIx (dVar 1) (dC (.int 0))) (dC (.str "repeat")))) (dSeq (dFor (iRange1 (dOp vIx (dVar 1) (dC (.int 1)))) (dTg (.nm 6)) (dSeq (dAsg (dIfE (dTest (dOp vEq (dVar 6) (dOp vSub (dOp vIx (dVar 1) (dC (.int 1))) (dC (.int 1))))) (dVar 3) (dCall (a1 sp_law_mark) (dCons (dVar 4) dNil))) (dTg (.nm 7)))
    (dSeq (dDrop (dCall spr_law_lay (dCons (dVar 0) (dCons (dOp vIx (dVar 1) (dC (.int 2))) (dCons (dVar 2) (dCons (dVar 7) dNil))))))
    (dAsg (dVar 7) (dTg (.nm 2))))))
    dRetN) dNext)
    (dSeq (dAsg (dLstM (dCons (dC (.str "choose")) (dCons (dLstM dNil) dNil))) (dTg (.nm 8)))
    (dSeq (dDrop (dLM vAppend (dVar 5) (dCons (dVar 8) dNil)))
    (dSeq (dIf (dTest (dOp vEq (dOp vIx (dVar 1) (dC (.int 0))) (dC (.str "loop")))) (dSeq (dAsg (dCall (a1 sp_law_mark) (dCons (dVar 4) dNil)) (dTg (.nm 9)))
    (dSeq (dAsg (dLst (dCons (dVar 9) (dCons (dVar 3) dNil))) (dgSub (dVar 8) (dC (.int 1))))
    (dSeq (dDrop (dCall spr_law_lay (dCons (dVar 0) (dCons (dOp vIx (dVar 1) (dC (.int 1))) (dCons (dVar 9) (dCons (dVar 2) dNil))))))
    dRetN))) dNext)
    (dFor (iTupD (dOp vIx (dVar 1) (dC (.int 1)))) (dTg (.nm 10)) (dSeq (dAsg (dCall (a1 sp_law_mark) (dCons (dVar 4) dNil)) (dTg (.nm 9)))
    (dSeq (dDrop (dLM vAppend (dOp vIx (dVar 8) (dC (.int 1))) (dCons (dVar 9) dNil)))
    (dDrop (dCall spr_law_lay (dCons (dVar 0) (dCons (dVar 10) (dCons (dVar 9) (dCons (dVar 3) dNil))))))))))))))
set_option pp.maxSteps 300
theorem rd_law_lay_inner_ok (n : Nat) (spr_law_lay : DSp) (hs_law_lay : ∀ m, n = m + 1 → spr_law_lay = a4 (sr_law_lay m)) : ∀ ds S P, (a4 (sr_law_lay_inner n)) ds S P → rd_law_lay_inner spr_law_lay (DEnds.of P) (dstart ["state", "one", "here", "then", "marks", "rows", "lap", "end", "row", "first", "body"] ds) S := by
  intro ds S P hsp
  rcases ds with _ | ⟨x, _ | ⟨y, _ | ⟨z, _ | ⟨u, _ | ⟨w, ds⟩⟩⟩⟩⟩ <;> first | exact (hsp : False).elim | skip
  obtain ⟨s, r, m, dl, rd, ms, o, he, th, M0, rfl, rfl, rfl, rfl, h, hhe, hth, el, nd, nc, nb, hM, ok, hn, hn2, hx, hx2, q⟩ := (hsp : sr_law_lay_inner n x y z u S P)
  unfold rd_law_lay_inner
  walk_at "run"
  refine ⟨_, ls_marks h, ?_⟩
  walk_at "run"
  refine ⟨_, ls_rows h, ?_⟩
  walk_at "run"
  cases o with
  | deed d => exact absurd rfl (nd d)
  | call d => exact absurd rfl (nc d)
  | back => exact absurd rfl nb
  | loop b =>
    rw [hS] at hn hn2
    rw [nx] at hx hx2 q
    rw [okS] at ok
    rw [show (if isRep (Stm.loop b) then M0 else mset M0 he (.row rd.length)) = mset M0 he (.row rd.length) from rfl] at hM
    obtain ⟨k, rfl⟩ : ∃ k, n = k + 1 := ⟨n - 1, by omega⟩
    rw [hs_law_lay k rfl]
    rw [sD]
    walk_at "run"
    intro e he0
    obtain ⟨e1, e2, e3⟩ := h.new he0
    have h1 := h.out (o := .lst []) e1 e2 e3
    walk_at "run"
    intro c hc
    obtain ⟨c1, c2, c3⟩ := h1.new hc
    have ce : c ≠ e := fun z => by subst z; rw [sup_same] at hc; cases hc
    have hcS : S c = none := by rw [sup_ne ce] at hc; exact hc
    have h2 := h1.out (o := .lst [.str "choose", .ref e]) c1 c2 c3
    have k2 : Kp r m S (L3.sup (L3.sup S e (.lst [])) c (.lst [.str "choose", .ref e])) := fun a o _ _ ha => sup_new hc (sup_new he0 ha)
    have hcc : (L3.sup (L3.sup S e (.lst [])) c (.lst [.str "choose", .ref e])) c = some (.lst [.str "choose", .ref e]) := sup_same
    generalize L3.sup (L3.sup S e (.lst [])) c (.lst [.str "choose", .ref e]) = S2 at h2 k2 hcc
    walk_at "run"
    rw [isSeq_ref]
    refine ⟨⟨_, h2.er⟩, ?_⟩
    walk_at "run"
    refine st_append h2.er (by rw [sizeLine_v]; omega) ?_
    have h3 := h2.add (.ref c)
    walk_at "run"
    refine use_lmark h3 (by omega) fun S4 h4 k4 => ?_
    walk_at "run"
    have hc4 : S4 c = some (.lst [.str "choose", .ref e]) := k4 _ _ c2 c3 (by rw [sup_ne c2]; exact hcc)
    refine st_setr (b := 1) hc4 (show 1 < 2 by decide) ?_
    have h5 := h4.out (o := .lst ([D.str "choose", D.ref e].set 1 (.lst [iD ms.length, iD th]))) c1 c2 c3
    have kS : Kp r m S (L3.sup S4 c (.lst ([D.str "choose", D.ref e].set 1 (.lst [iD ms.length, iD th])))) := fun a o a1 a2 ha => by
      have hac : a ≠ c := fun z => by subst z; rw [hcS] at ha; cases ha
      rw [sup_ne hac]
      exact k4 a o a1 a2 (by rw [sup_ne a1]; exact k2 a o a1 a2 ha)
    walk_at "run"
    have n5 : (ms ++ [none]).length = ms.length + 1 := List.length_append
    have r5 : (rd ++ [D.ref c]).length = rd.length + 1 := List.length_append
    refine use_llay h5 (by omega) ok (by omega) (by omega) (by omega) (by omega) fun S6 rd2 nr ms6 h6 n6 n7 n8 r6 l6 k6 => ?_
    walk_at "run"
    have hc6 : S6 c = some (.lst [.str "choose", .lst ([ms.length, th].map iD)]) := k6 _ _ c2 c3 sup_same
    refine .of (q S6 (.ref c :: rd2) (.choose [ms.length, th] :: nr) ms6 (by rw [List.append_assoc] at h6; exact h6) (by omega) (by omega) (by rw [cnt, List.length_cons, n8]; omega) (.cons (.fix hcS c2 c3 hc6) (all2_imp (fun _ _ => RowAt.weak kS.nn) r6)) ?_ ?_)
    · rw [lmk_add, hM, r5, n5] at l6
      exact LyS.loop hhe (by omega) l6
    · exact kS.trans k6
  | either bs =>
    rw [hS] at hn hn2
    rw [nx] at hx hx2 q
    rw [okS] at ok
    rw [show (if isRep (Stm.either bs) then M0 else mset M0 he (.row rd.length)) = mset M0 he (.row rd.length) from rfl] at hM
    obtain ⟨k, rfl⟩ : ∃ k, n = k + 1 := ⟨n - 1, by omega⟩
    rw [hs_law_lay k rfl]
    rw [sD]
    walk_at "run"
    intro e he0
    obtain ⟨e1, e2, e3⟩ := h.new he0
    have h1 := h.out (o := .lst []) e1 e2 e3
    walk_at "run"
    intro c hc
    obtain ⟨c1, c2, c3⟩ := h1.new hc
    have ce : c ≠ e := fun z => by subst z; rw [sup_same] at hc; cases hc
    have hcS : S c = none := by rw [sup_ne ce] at hc; exact hc
    have h2 := h1.out (o := .lst [.str "choose", .ref e]) c1 c2 c3
    have k2 : Kp r m S (L3.sup (L3.sup S e (.lst [])) c (.lst [.str "choose", .ref e])) := fun a o _ _ ha => sup_new hc (sup_new he0 ha)
    have hcc : (L3.sup (L3.sup S e (.lst [])) c (.lst [.str "choose", .ref e])) c = some (.lst [.str "choose", .ref e]) := sup_same
    have hee : (L3.sup (L3.sup S e (.lst [])) c (.lst [.str "choose", .ref e])) e = some (.lst []) := by rw [sup_ne (Ne.symm ce), sup_same]
    generalize L3.sup (L3.sup S e (.lst [])) c (.lst [.str "choose", .ref e]) = S2 at h2 k2 hcc hee
    walk_at "run"
    rw [isSeq_ref]
    refine ⟨⟨_, h2.er⟩, ?_⟩
    walk_at "run"
    refine st_append h2.er (by rw [sizeLine_v]; omega) ?_
    have h3 := h2.add (.ref c)
    walk_at "run"
    rw [csD_map]
    have hc3 : (L3.sup S2 r (.lst (rd ++ [D.ref c]))) c = some (.lst [.str "choose", .ref e]) := by rw [sup_ne c2]; exact hcc
    have he3 : (L3.sup S2 r (.lst (rd ++ [D.ref c]))) e = some (.lst []) := by rw [sup_ne e2]; exact hee
    have k3 : Kp r m S (L3.sup S2 r (.lst (rd ++ [D.ref c]))) := k2.trans kp_r
    generalize L3.sup S2 r (.lst (rd ++ [D.ref c])) = S3 at h3 hc3 he3 k3
    refine forL_inv (fun j δ S' => ∃ rd2 nr ms' bgs x9 x10, Ls S' s r m dl ((rd ++ [D.ref c]) ++ rd2) ms' ∧ S' c = some (.lst [.str "choose", .ref e]) ∧ S' e = some (.lst (bgs.map iD)) ∧ bgs.length = j ∧ ms.length ≤ ms'.length ∧ ms'.length + (bs.length - j) + nxC (bs.drop j) ≤ ms.length + bs.length + nxC bs ∧ rd2.length + nxC (bs.drop j) ≤ nxC bs ∧
        All2 (RowAt S3 S' r m dl) rd2 nr ∧ Kp r m S S' ∧ (∀ a o, a ≠ r → a ≠ m → a ≠ e → S3 a = some o → S' a = some o) ∧
        (∀ bgs2 nr2 M2 N2, Ly (lmk ms') M2 (Kr ms'.length N2) (GC bgs2 th 0 nr2 (rd.length + 1 + nr.length) (bs.drop j)) → ms'.length ≤ N2 → nr2.length = cntC (bs.drop j) → Ly (lmk ms) M2 (Kr ms.length N2) (GC (bgs ++ bgs2) th 0 (nr ++ nr2) (rd.length + 1) bs) ∧ (nr ++ nr2).length = cntC bs) ∧
        δ = [some (.ref s), some (.tup [.str "either", .tup (bs.map fun b => D.tup (bD b))]), some (iD he), some (iD th), some (.ref m), some (.ref r), none, none, some (.ref c), x9, x10]) (fun _ _ _ _ => True.intro) _ 0 _ _
        ⟨[], [], ms, [], none, none, by rw [List.append_nil]; exact h3, hc3, he3, rfl, Nat.le_refl _, by rw [List.drop_zero]; omega, by rw [List.drop_zero]; simp, .nil, k3, fun _ _ _ _ _ h => h, fun bgs2 nr2 M2 N2 l _ e => ⟨l, e⟩, rfl⟩ ?_ ?_
    · rintro j dd _ S' hj ⟨rd2, nr, ms', bgs, x9, x10, h4, hc4, he4, hbl, hN, hsz, hsz2, rows_, kp, kq, cps, rfl⟩ D2 hrt _ hnx _
      rw [List.getElem?_map] at hj
      obtain ⟨b, hb2, rfl⟩ := Option.map_eq_some_iff.mp hj
      have hjl : j < bs.length := (List.getElem?_eq_some_iff.mp hb2).1
      rw [Nat.zero_add] at hsz hsz2 cps hnx hbl
      have hm := List.mem_of_getElem? hb2
      have hh2 := hB_mem hm
      have hok := okC_mem ok hm
      have ed := drop_at hb2
      rw [ed] at hsz hsz2 cps
      rw [nxC] at hsz hsz2
      rw [cntC] at cps
      have rl := rows_.len
      have hl0 : ((rd ++ [D.ref c]) ++ rd2).length = rd.length + 1 + nr.length := by rw [List.length_append, List.length_append, rl]; rfl
      walk_at "run"
      refine use_lmark h4 (by omega) fun S5 h5 k5 => ?_
      walk_at "run"
      have hc5 := k5 _ _ c2 c3 hc4
      have he5 := k5 _ _ e2 e3 he4
      refine st_at1 hc5 ?_
      rw [isSeq_ref]
      refine ⟨⟨_, he5⟩, ?_⟩
      walk_at "run"
      refine st_append he5 (by rw [List.length_map, sizeLine_v]; omega) ?_
      rw [show bgs.map iD ++ [iD ms'.length] = (bgs ++ [ms'.length]).map iD by rw [List.map_append]; rfl]
      have h6 := h5.out (o := .lst ((bgs ++ [ms'.length]).map iD)) e1 e2 e3
      have n6 : (ms' ++ [none]).length = ms'.length + 1 := List.length_append
      have kS : Kp r m S (L3.sup S5 e (.lst ((bgs ++ [ms'.length]).map iD))) := fun a o a1 a2 ha => by
        rw [sup_ne fun z => by subst z; rw [he0] at ha; cases ha]
        exact k5 a o a1 a2 (kp a o a1 a2 ha)
      walk_at "run"
      refine use_llay h6 (by omega) hok (by omega) (by omega) (by omega) (by omega) fun S7 rd3 nr3 ms7 h7 n7 n8 n9 r7 l7 k7 => ?_
      walk_at "run"
      have r7l := r7.len
      have cn := cntB_nx b
      have hc7 := k7 _ _ c2 c3 (show (L3.sup S5 e (.lst ((bgs ++ [ms'.length]).map iD))) c = _ by rw [sup_ne ce]; exact hc5)
      have he7 := k7 _ _ e2 e3 (show (L3.sup S5 e (.lst ((bgs ++ [ms'.length]).map iD))) e = _ from sup_same)
      have q5 : ∀ a o, a ≠ r → a ≠ m → a ≠ e → S3 a = some o → (L3.sup S5 e (.lst ((bgs ++ [ms'.length]).map iD))) a = some o := fun a o a1 a2 a3 ha => by rw [sup_ne a3]; exact k5 a o a1 a2 (kq a o a1 a2 a3 ha)
      have r7' : All2 (RowAt S3 S7 r m dl) rd3 nr3 := all2_imp (fun _ _ => RowAt.weak fun a a1 a2 ha => by
        have ae : a ≠ e := fun z => by subst z; rw [sup_same] at ha; cases ha
        cases h0 : S3 a with
        | none => rfl
        | some o => rw [q5 a o a1 a2 ae h0] at ha; cases ha) r7
      refine hnx _ _ ⟨rd2 ++ rd3, nr ++ nr3, ms7, bgs ++ [ms'.length], _, _, by rw [← List.append_assoc]; exact h7, hc7, he7, by rw [List.length_append, hbl]; rfl, by omega, by omega, by rw [List.length_append]; omega, (all2_imp (fun _ _ x => (RowAt.old (by rw [he3]; simp) (x.mono k5)).mono k7) rows_).append r7', kS.trans k7, fun a o a1 a2 a3 ha => k7 a o a1 a2 (q5 a o a1 a2 a3 ha), fun bgs2 nr2 M2 N2 l n10 n11 => ?_, rfl⟩
      rw [List.append_assoc, List.append_assoc]
      rw [hl0, lmk_add, n6] at l7
      refine cps ([ms'.length] ++ bgs2) (nr3 ++ nr2) M2 N2 (GC.cons (K2 := Kr ms7.length N2) l7 ?_ ?_ ?_) (by omega) (by rw [List.length_append, n9, n11])
      · rw [List.length_append, n9, ← Nat.add_assoc (rd.length + 1)] at l
        exact l
      · intro a ha hb
        unfold Ks at ha
        unfold Kr at hb
        omega
      · intro a ha
        unfold Ks Kr at ha
        unfold Kr
        omega
    · rintro _ S' ⟨rd2, nr, ms', bgs, x9, x10, h4, hc4, he4, hbl, hN, hsz, hsz2, rows_, kp, kq, cps, rfl⟩
      rw [List.length_map, Nat.zero_add, List.drop_length] at cps hsz hsz2
      rw [nxC] at hsz hsz2
      obtain ⟨d1, d2⟩ := cps [] [] (lmk ms') ms'.length (GC.nil.imp (fun _ z => z.elim) fun _ z => z) (Nat.le_refl _) (by rw [cntC]; rfl)
      rw [List.append_nil, List.append_nil] at d1
      rw [List.append_nil] at d2
      refine .of (q S' (.ref c :: rd2) (.choose bgs :: nr) ms' (by rw [List.append_assoc] at h4; exact h4) hN (by omega) (by rw [cnt, List.length_cons, d2]; omega) (.cons (.grow hcS he0 c2 c3 e2 e3 hc4 he4) (all2_imp (fun _ _ => RowAt.weak k3.nn) rows_)) ?_ kp)
      rw [hM] at d1
      exact LyS.either (fun a ha => by unfold Kr at ha; omega) d1
  | rep k2 b =>
    rw [hS] at hn hn2
    rw [nx] at hx hx2 q
    rw [okS] at ok
    rw [show (if isRep (Stm.rep k2 b) then M0 else mset M0 he (.row rd.length)) = M0 from rfl] at hM
    obtain ⟨k, rfl⟩ : ∃ k, n = k + 1 := ⟨n - 1, by omega⟩
    rw [hs_law_lay k rfl]
    rw [sD]
    have k0 : k2 ≠ 0 := fun z => by subst z; rw [ln] at el; simp at el
    have hk : k2 ≤ k2 * (1 + nxB b) := Nat.le_mul_of_pos_right _ (by omega)
    walk_at "run"
    refine ⟨by omega, by omega, ?_⟩
    rw [Int.toNat_natCast]
    refine forL_inv (fun j δ S' => ∃ rd2 nr ms' hj x6 x7, Ls S' s r m dl (rd ++ rd2) ms' ∧ hj < ms'.length ∧ ms.length ≤ ms'.length ∧ ms'.length + (k2 - j) * (1 + nxB b) ≤ ms.length + k2 * (1 + nxB b) ∧ rd2.length + (k2 - j) * (1 + nxB b) ≤ k2 * (1 + nxB b) ∧ All2 (RowAt S S' r m dl) rd2 nr ∧ Kp r m S S' ∧
        ((j < k2 ∧ ∀ nr2 M2 N2, LyR (lmk ms') M2 ms'.length N2 hj th 0 nr2 (rd.length + nr.length) (k2 - j) b → ms'.length ≤ N2 → nr2.length = (k2 - j) * cntB b → LyR M0 M2 ms.length N2 he th 0 (nr ++ nr2) rd.length k2 b ∧ (nr ++ nr2).length = k2 * cntB b) ∨
          (j = k2 ∧ LyR M0 (lmk ms') ms.length ms'.length he th 0 nr rd.length k2 b ∧ nr.length = k2 * cntB b)) ∧
        δ = [some (.ref s), some (.tup [.str "repeat", iD k2, .tup (bD b)]), some (iD hj), some (iD th), some (.ref m), some (.ref r), x6, x7, none, none, none]) (fun _ _ _ _ => True.intro) _ 0 _ _
        ⟨[], [], ms, he, none, none, by rw [List.append_nil]; exact h, hhe, Nat.le_refl _, Nat.le_refl _, by simp, .nil, Kp.refl, .inl ⟨by omega, fun nr2 M2 N2 l _ e => by rw [hM] at l; exact ⟨l, e⟩⟩, rfl⟩ ?_ ?_
    · rintro j dd _ S' hj ⟨rd2, nr, ms', hje, x6, x7, hh, hhj, hN, hsz, hsz2, rows_, kp, cps, rfl⟩ D2 hrt _ hnx _
      obtain ⟨hjk, rfl⟩ := rng_at hj
      rw [Nat.zero_add] at hsz hsz2 cps hnx
      have cps := (cps.resolve_right fun z => by omega).2
      have e0 : k2 - j = (k2 - (j + 1)) + 1 := by omega
      rw [e0] at hsz hsz2 cps
      have e9 : (k2 - (j + 1) + 1) * (1 + nxB b) = (k2 - (j + 1)) * (1 + nxB b) + (1 + nxB b) := Nat.succ_mul _ _
      have e8 : (k2 - (j + 1) + 1) * cntB b = (k2 - (j + 1)) * cntB b + cntB b := Nat.succ_mul _ _
      rw [e9] at hsz hsz2
      rw [e8] at cps
      have rl := rows_.len
      have cn := cntB_nx b
      have hl0 : (rd ++ rd2).length = rd.length + nr.length := by rw [List.length_append, rl]
      walk_at "run"
      by_cases z : (j : Int) = (k2 : Int) - 1
      · rw [decide_eq_true z]
        walk_at "run"
        refine use_llay hh hhj ok (by omega) (by omega) (by omega) (by omega) fun S4 rd3 nr3 ms4 h4 n4 n5 n6 r4 l4 k4 => ?_
        walk_at "run"
        have r4l := r4.len
        have ej : k2 - (j + 1) = 0 := by omega
        rw [ej, Nat.zero_mul] at hsz hsz2
        rw [ej, Nat.zero_mul] at cps
        rw [hl0] at l4
        obtain ⟨d1, d2⟩ := cps nr3 (lmk ms4) ms4.length (LyR.one l4) n4 (by omega)
        refine hnx _ _ ⟨rd2 ++ rd3, nr ++ nr3, ms4, th, _, _, by rw [← List.append_assoc]; exact h4, by omega, by omega, by rw [ej, Nat.zero_mul]; omega, by rw [ej, Nat.zero_mul, List.length_append]; omega, (all2_imp (fun _ _ => RowAt.mono k4) rows_).append (all2_imp (fun _ _ => RowAt.weak kp.nn) r4), kp.trans k4, .inr ⟨by omega, d1, d2⟩, rfl⟩
      · rw [decide_eq_false z]
        walk_at "run"
        refine use_lmark hh (by omega) fun S3 h3 k3 => ?_
        walk_at "run"
        have n3 : (ms' ++ [none]).length = ms'.length + 1 := List.length_append
        refine use_llay h3 (by omega) ok (by omega) (by omega) (by omega) (by omega) fun S4 rd3 nr3 ms4 h4 n4 n5 n6 r4 l4 k4 => ?_
        walk_at "run"
        have r4l := r4.len
        rw [hl0, lmk_add, n3] at l4
        refine hnx _ _ ⟨rd2 ++ rd3, nr ++ nr3, ms4, ms'.length, _, _, by rw [← List.append_assoc]; exact h4, by omega, by omega, by omega, by rw [List.length_append]; omega, (all2_imp (fun _ _ x => (x.mono k3).mono k4) rows_).append (all2_imp (fun _ _ => RowAt.weak (kp.trans k3).nn) r4), (kp.trans k3).trans k4, .inl ⟨by omega, fun nr2 M2 N2 l n10 n11 => ?_⟩, rfl⟩
        rw [List.append_assoc]
        refine cps (nr3 ++ nr2) M2 N2 (LyR.succ hhj (by omega) n10 l4 ?_) (by omega) (by rw [List.length_append, n6, n11]; omega)
        rw [List.length_append, n6, ← Nat.add_assoc] at l
        exact l
    · rintro _ S' ⟨rd2, nr, ms', hje, x6, x7, hh, hhj, hN, hsz, hsz2, rows_, kp, cps, rfl⟩
      rw [rng_len, Nat.zero_add, Nat.sub_self, Nat.zero_mul] at hsz hsz2
      rw [rng_len, Nat.zero_add] at cps
      obtain ⟨_, d1, d2⟩ := cps.resolve_left fun z => by omega
      walk_at "run"
      exact .of (q S' rd2 nr ms' hh hN (by omega) (by rw [cnt]; exact d2) rows_ (LyS.rep d1) kp)
end L3

set_option Elab.async false
set_option maxRecDepth 100000
set_option linter.all false
set_option maxHeartbeats 4000000
namespace L3
open PySem L2 L3.KL
local macro_rules | `(tactic| walk_at "cond") => `(tactic| first | omega | (simp only [List.length_append, List.length_cons, List.length_nil, List.length_take, List.length_drop, List.length_map, List.length_reverse]; omega) | rfl | decide)
local macro_rules | `(tactic| walk_at "side") => `(tactic| first | assumption | omega | (simp only [List.length_append, List.length_cons, List.length_nil, List.length_take, List.length_drop, List.length_map, List.length_reverse, sizeLine_val]; omega) | decide)
local macro_rules | `(tactic| walk_at "st") => `(tactic| first
  | with_reducible refine st_ix0 ?_ | with_reducible refine st_ix1 ?_ | with_reducible refine st_ix2 ?_ | with_reducible refine st_ix3 ?_ | with_reducible refine st_ix4 ?_
  | with_reducible refine st_add_pp (by walk_at "side") ?_ | with_reducible refine st_add_p1 (by walk_at "side") ?_ | with_reducible refine st_add_1p (by walk_at "side") ?_
  | with_reducible refine st_add ?_ | with_reducible refine st_sub ?_ | with_reducible refine st_iadd ?_ | with_reducible refine st_neg ?_
  | with_reducible refine st_len_p ?_ | with_reducible refine st_len_lp ?_ | with_reducible refine st_len_rp ?_ | with_reducible refine st_len_t ?_ | with_reducible refine st_len_l ?_
  | with_reducible refine st_add_t (by walk_at "side") ?_ | with_reducible refine st_add_l (by walk_at "side") ?_ | with_reducible refine st_add_s (by walk_at "side") ?_
  | with_reducible refine st_tru_bl ?_ | with_reducible refine st_tru_int ?_ | with_reducible refine st_tru_tup ?_ | with_reducible refine st_tru_lst ?_ | with_reducible refine st_tru_non ?_
  | with_reducible refine st_at (by assumption) ?_ | with_reducible refine st_atl (by assumption) ?_
  | with_reducible refine st_iteT ?_ | with_reducible refine st_iteF ?_ | with_reducible refine st_not ?_
  | with_reducible refine st_lt ?_ | with_reducible refine st_le ?_ | with_reducible refine st_gt ?_ | with_reducible refine st_ge ?_ | with_reducible refine st_eqi ?_ | with_reducible refine st_nei ?_ | with_reducible refine st_eqs ?_ | with_reducible refine st_nes ?_ | with_reducible refine st_eqb ?_
  | with_reducible refine st_isn_non ?_ | with_reducible refine st_isn_int ?_ | with_reducible refine st_isn_tup ?_ | with_reducible refine st_isn_str ?_ | with_reducible refine st_isn_bl ?_
  | with_reducible refine st_isnt_non ?_ | with_reducible refine st_isnt_int ?_ | with_reducible refine st_isnt_tup ?_ | with_reducible refine st_isnt_str ?_
  | with_reducible refine st_int ?_ | with_reducible refine st_intb ?_ | with_reducible refine st_abs ?_ | with_reducible refine st_min2 ?_ | with_reducible refine st_max2 ?_
  | with_reducible refine st_tup_l ?_ | with_reducible refine st_tup_t ?_ | with_reducible refine st_lst_t ?_ | with_reducible refine st_lst_l ?_
  | with_reducible refine st_sl_from ?_ | with_reducible refine st_sl_to ?_
  | with_reducible refine st_lx0 ?_ | with_reducible refine st_lx1 ?_ | with_reducible refine st_lx2 ?_ | with_reducible refine st_lx3 ?_
  | with_reducible refine st_mod (by walk_at "side") ?_ | with_reducible refine st_div (by walk_at "side") ?_ | with_reducible refine st_mul (by walk_at "side") ?_ | with_reducible refine st_mul' (by walk_at "side") ?_
  | with_reducible refine st_isi rfl ?_
  | (with_reducible refine And.intro (Nat.le_of_ble_eq_true rfl) ?_)
  | (refine And.intro (rfl : (_ : Nat) = _) ?_)
  | with_reducible refine st_dT (by walk_at "cond") ?_ | with_reducible refine st_dF (by walk_at "cond") ?_)
local macro_rules | `(tactic| walk_at "hd") => `(tactic| (with_reducible conv => whnf))
local macro_rules | `(tactic| walk_at "run") => `(tactic| ((with_reducible conv => whnf); repeat (walk_at "st"; (with_reducible conv => whnf))))
theorem all2_at {α β : Type} {R : α → β → Prop} : ∀ {l : List α} {m : List β} {j : Nat} {a : α}, All2 R l m → l[j]? = some a → ∃ b, m[j]? = some b ∧ R a b
  | _, _, 0, _, .cons r _, e => by simp at e; subst e; exact ⟨_, rfl, r⟩
  | _, _, j + 1, _, .cons _ t, e => by
    obtain ⟨b, h1, h2⟩ := all2_at (j := j) t (by simpa using e)
    exact ⟨b, by simpa using h1, h2⟩
  | _, _, _, _, .nil, e => by simp at e
theorem word_laid0 {M0 M1 : KL.Mk} {N N' la bg : Nat} {nr : List Mr} {b : List Stm} (a : Ly M0 M1 (Ks bg N N') (GB bg la la nr 0 b)) (hl : la < N) (hb : la ≠ bg) (hn : nr.length = cntB b) : All2 (RR (mset M1 la (.row nr.length))) nr (rowsB b 0 (cntB b) (cntB b)) := by
  have g := a.use (mset M1 la (.row nr.length)) fun m hm => if_neg fun e => by unfold Ks at hm; omega
  have r : Rs (mset M1 la (.row nr.length)) la (cntB b) := .row (by rw [← hn]; exact if_pos rfl)
  exact (g _ _ r r).2
theorem st_ixl {ds : List D} {i : Int} {d : D} {S : Sto} {Q : DK} (e : atI ds i = some d) (q : Q d S) : vIx (.lst ds) (.int i) S Q := by simp only [vIx, e]; exact q
def sp_law_found (x y : D) (S : Sto) (Q : DK) : Prop := ∃ m ms k t, x = .ref m ∧ y = iD k ∧ S m = some (.lst (ms.map lmD)) ∧ Rs (lmk ms) k t ∧ Q (iD t) S
-- _law_found : 0=marks 1=mark
def rd_law_found : DTS :=
    (dSeq (dWhile (dTest (dOp vEq (dOp vIx (dOp vIx (dVar 0) (dVar 1)) (dC (.int 0))) (dC (.str "as")))) (dAsg (dOp vIx (dOp vIx (dVar 0) (dVar 1)) (dC (.int 1))) (dTg (.nm 1))))
    (dRet (dOp vIx (dOp vIx (dVar 0) (dVar 1)) (dC (.int 1)))))
set_option pp.maxSteps 300
theorem lmk_some {ms : List (Option MV)} {k : Nat} {v : MV} (h : lmk ms k = some v) : (ms.map lmD)[k]? = some (lmD (some v)) := by
  unfold lmk at h
  rw [List.getElem?_map]
  cases e : ms[k]? with
  | none => rw [e] at h; cases h
  | some o =>
    rw [e] at h
    rw [show o = some v from h]
    rfl
theorem rd_law_found_ok : ∀ ds S P, (a2 sp_law_found) ds S P → rd_law_found (DEnds.of P) (dstart ["marks", "mark"] ds) S := by
  intro ds S P hsp
  rcases ds with _ | ⟨x, _ | ⟨y, _ | ⟨z, ds⟩⟩⟩ <;> first | exact (hsp : False).elim | skip
  obtain ⟨m, ms, k, t, rfl, rfl, em, ⟨dp, hr⟩, q⟩ := (hsp : sp_law_found x y S P)
  unfold rd_law_found
  walk_at "run"
  refine ⟨dp + 1, whileN_inv (fun n δ S' => S' = S ∧ ∃ m', Res (lmk ms) n m' t ∧ δ = [some (.ref m), some (iD m')]) ?_ dp _ _ ⟨rfl, k, hr, rfl⟩⟩
  rintro n _ _ ⟨rfl, m', hr', rfl⟩ D2 hrt _ hnx _
  cases hr' with
  | row e =>
    have e2 := lmk_some e
    walk_at "run"
    refine st_atr em e2 ?_
    simp only [lmD]
    walk_at "run"
    refine st_atr em e2 ?_
    simp only [lmD]
    walk_at "run"
    exact .of q
  | like e k2 =>
    have e2 := lmk_some e
    walk_at "run"
    refine st_atr em e2 ?_
    simp only [lmD]
    walk_at "run"
    refine st_atr em e2 ?_
    simp only [lmD]
    walk_at "run"
    exact hnx _ _ _ rfl ⟨rfl, _, k2, rfl⟩
theorem use_found {m : Addr} {ms : List (Option MV)} {k t : Nat} {S : Sto} {Q : DK} (em : S m = some (.lst (ms.map lmD))) (h : Rs (lmk ms) k t) (q : Q (iD t) S) : sp_law_found (.ref m) (iD k) S Q := ⟨m, ms, k, t, rfl, rfl, em, h, q⟩
def sp_law_word (x y : D) (S : Sto) (Q : DK) : Prop := ∃ dl b, x = deedsD dl ∧ y = .tup (bD b) ∧ Fit dl.length b ∧ Q (wordD dl b) S
-- _law_word : 0=deeds 1=body 2=state 3=told 4=row 5=mark
def rd_law_word : DTS :=
    (dSeq (dAsg (dDisp [Sum.inr "rows", Sum.inr "marks", Sum.inr "deeds"] (dCons (dLstM dNil) (dCons (dLstM (dCons (dC .non) dNil)) (dCons (dVar 0) dNil)))) (dTg (.nm 2)))
    (dSeq (dDrop (dCall (a4 sp_law_lay) (dCons (dVar 2) (dCons (dVar 1) (dCons (dCall (a1 sp_law_mark) (dCons (dDGet (dVar 2) (dC (.str "marks"))) dNil)) (dCons (dC (.int 0)) dNil))))))
    (dSeq (dAsg (dTup (dCons (dC (.str "row")) (dCons (dCB vLen (dCons (dDGet (dVar 2) (dC (.str "rows"))) dNil)) dNil))) (dgSub (dDGet (dVar 2) (dC (.str "marks"))) (dC (.int 0))))
    (dSeq (dAsg (dLstM dNil) (dTg (.nm 3)))
    (dSeq (dFor (iSeq (dDGet (dVar 2) (dC (.str "rows")))) (dTg (.nm 4)) (dIf (dTest (dOp vEq (dOp vIx (dVar 4) (dC (.int 0))) (dC (.str "choose")))) (dDrop (dLM vAppend (dVar 3) (dCons (dTup (dCons (dC (.str "choose")) (dCons (dCB vTuple (dCons (dLc (iSeq (dOp vIx (dVar 4) (dC (.int 1)))) (dTg (.nm 5)) dYes (dCall (a2 sp_law_found) (dCons (dDGet (dVar 2) (dC (.str "marks"))) (dCons (dVar 5) dNil))) [5]) dNil)) dNil))) dNil))) (dDrop (dLM vAppend (dVar 3) (dCons (dOp vAdd (dCB vTuple (dCons (dSl vSl (dVar 4) dNoPart (dPart (dUn vNeg (dC (.int 1))))) dNil)) (dTup (dCons (dCall (a2 sp_law_found) (dCons (dDGet (dVar 2) (dC (.str "marks"))) (dCons (dOp vIx (dVar 4) (dUn vNeg (dC (.int 1)))) dNil))) dNil))) dNil)))))
    (dRet (dOp vAdd (dCB vTuple (dCons (dVar 3) dNil)) (dTup (dCons (dTup (dCons (dC (.str "return")) dNil)) dNil)))))))))
theorem rd_law_word_ok : ∀ ds S P, (a2 sp_law_word) ds S P → rd_law_word (DEnds.of P) (dstart ["deeds", "body", "state", "told", "row", "mark"] ds) S := by
  intro ds S P hsp
  rcases ds with _ | ⟨x, _ | ⟨y, _ | ⟨z, ds⟩⟩⟩ <;> first | exact (hsp : False).elim | skip
  obtain ⟨dl, b, rfl, rfl, ft, q⟩ := (hsp : sp_law_word x y S P)
  unfold rd_law_word
  walk_at "run"
  intro r hr
  walk_at "run"
  intro m hm
  have mr : m ≠ r := fun z => by subst z; rw [sup_same] at hm; cases hm
  walk_at "run"
  intro s hs
  have sm : s ≠ m := fun z => by subst z; rw [sup_same] at hs; cases hs
  have sr : s ≠ r := fun z => by subst z; rw [sup_ne sm, sup_same] at hs; cases hs
  have hm0 : S m = none := by rw [sup_ne mr] at hm; exact hm
  have hs0 : S s = none := by rw [sup_ne sm, sup_ne sr] at hs; exact hs
  have h0 : Ls (L3.sup (L3.sup (L3.sup S r (.lst [])) m (.lst [.non])) s (.dK [(Sum.inr "rows", .ref r), (Sum.inr "marks", .ref m), (Sum.inr "deeds", deedsD dl)])) s r m dl [] [none] :=
    ⟨sup_same, by rw [sup_ne (Ne.symm sr), sup_ne (Ne.symm mr), sup_same], by rw [sup_ne (Ne.symm sm), sup_same]; rfl, Ne.symm mr⟩
  have k0 : ∀ a o, S a = some o → (L3.sup (L3.sup (L3.sup S r (.lst [])) m (.lst [.non])) s (.dK [(Sum.inr "rows", .ref r), (Sum.inr "marks", .ref m), (Sum.inr "deeds", deedsD dl)])) a = some o := fun a o h => by
    rw [sup_ne fun z => by subst z; rw [hs0] at h; cases h]
    rw [sup_ne fun z => by subst z; rw [hm0] at h; cases h]
    rw [sup_ne fun z => by subst z; rw [hr] at h; cases h]
    exact h
  walk_at "run"
  change ∃ d, dGetD (L3.sup (L3.sup (L3.sup S r (.lst [])) m (.lst [.non])) s (.dK [(Sum.inr "rows", .ref r), (Sum.inr "marks", .ref m), (Sum.inr "deeds", deedsD dl)])) _ _ = _ ∧ _
  refine ⟨_, ls_marks h0, ?_⟩
  refine use_lmark h0 (by decide) fun S1 h1 k1 => ?_
  walk_at "run"
  have fh := ft.h
  have fn := ft.n
  refine use_llay (n := 20) (bg := 1) (bh := 0) h1 (by decide) ft.ok fh fh (by show 2 + nxB b ≤ _; omega) (by show 0 + nxB b ≤ _; omega) fun S2 rd2 nr ms2 h2 n2 n3 n4 r2 l2 k2 => ?_
  rw [List.nil_append] at h2
  have rl := r2.len
  have cn := cntB_nx b
  walk_at "run"
  refine ⟨_, ls_rows h2, ?_⟩
  walk_at "run"
  refine st_len_r h2.er ?_
  walk_at "run"
  refine ⟨_, ls_marks h2, ?_⟩
  walk_at "run"
  have n2' : 2 ≤ ms2.length := n2
  refine st_setr (b := 0) h2.em (by rw [List.length_map]; omega) ?_
  have es : (ms2.map lmD).set 0 (D.tup [.str "row", .int (rd2.length : Nat)]) = (ms2.set 0 (some (MV.row nr.length))).map lmD := by rw [List.map_set, rl]; rfl
  rw [es]
  have h3 := h2.marks (ms2.set 0 (some (MV.row nr.length)))
  have r3 : All2 (RowAt S1 (L3.sup S2 m (.lst ((ms2.set 0 (some (MV.row nr.length))).map lmD))) r m dl) rd2 nr := all2_imp (fun _ _ => RowAt.mono kp_m) r2
  have all := word_laid0 l2 (by decide) (by decide) n4
  rw [← lmk_set _ (by omega)] at all
  have k3 : ∀ a o, S a = some o → (L3.sup S2 m (.lst ((ms2.set 0 (some (MV.row nr.length))).map lmD))) a = some o := fun a o h => by
    have a1 : a ≠ r := fun z => by subst z; rw [hr] at h; cases h
    have a2 : a ≠ m := fun z => by subst z; rw [hm0] at h; cases h
    rw [sup_ne a2]
    exact k2 a o a1 a2 (k1 a o a1 a2 (k0 a o h))
  generalize ms2.set 0 (some (MV.row nr.length)) = ms3 at h3 r3 all k3
  generalize L3.sup S2 m (.lst (ms3.map lmD)) = S3 at h3 r3 k3
  walk_at "run"
  intro t ht
  obtain ⟨t1, t2, t3⟩ := h3.new ht
  walk_at "run"
  have h4 := h3.out (o := .lst []) t1 t2 t3
  refine ⟨_, ls_rows h4, ?_⟩
  walk_at "run"
  rw [it_r h4.er]
  walk_at "run"
  refine forL_inv (fun j δ S' => S' = L3.sup S3 t (.lst (((rowsB b 0 (cntB b) (cntB b)).take j).map (rwD dl))) ∧ ∃ x4 x5, δ = [some (deedsD dl), some (.tup (bD b)), some (.ref s), some (.ref t), x4, x5]) (fun j δ S' h => by show S' r = _; rw [h.1, sup_ne (Ne.symm t2)]; exact h3.er) _ 0 _ _
    ⟨by rw [List.take_zero]; rfl, none, none, rfl⟩ ?_ ?_
  · rintro j dv _ _ hj ⟨rfl, x4, x5, rfl⟩ D2 hrt _ hnx _
    rw [Nat.zero_add] at hnx ⊢
    obtain ⟨w, hw, rw1⟩ := all2_at r3 hj
    obtain ⟨rr, hrr, rr1⟩ := all2_at all hw
    have h5 := h3.out (o := .lst (((rowsB b 0 (cntB b) (cntB b)).take j).map (rwD dl))) t1 t2 t3
    have hjl : j < (rowsB b 0 (cntB b) (cntB b)).length := (List.getElem?_eq_some_iff.mp hrr).1
    have hrl := rowsB_len b 0 (cntB b) (cntB b)
    have rok := rowsB_ok dl.length b 0 (cntB b) (cntB b) ft.ok rr (List.mem_of_getElem? hrr)
    have step : D2.nx [some (deedsD dl), some (.tup (bD b)), some (.ref s), some (.ref t), some dv, x5] (L3.sup S3 t (.lst (((rowsB b 0 (cntB b) (cntB b)).take j).map (rwD dl) ++ [rwD dl rr]))) := by
      refine hnx _ _ ⟨?_, _, _, rfl⟩
      rw [List.take_add_one, hrr, List.map_append]
      rfl
    have szt : (((rowsB b 0 (cntB b) (cntB b)).take j).map (rwD dl)).length < sizeLine := by rw [List.length_map, List.length_take, sizeLine_v]; omega
    have other : ∀ {c : Addr} {o : SO}, S3 c = some o → (L3.sup S3 t (.lst (((rowsB b 0 (cntB b) (cntB b)).take j).map (rwD dl)))) c = some o := fun {c o} h => by
      rw [sup_ne fun z => by subst z; rw [ht] at h; cases h]; exact h
    cases rr1 with
    | ret => cases rw1
    | @deed d t1_ r1_ k =>
      cases rw1
      walk_at "run"
      rw [isSeq_ref]
      refine ⟨⟨_, sup_same⟩, ?_⟩
      walk_at "run"
      refine st_slL ?_
      walk_at "run"
      refine ⟨_, ls_marks h5, ?_⟩
      walk_at "run"
      refine st_ixl (d := iD t1_) rfl ?_
      walk_at "run"
      refine use_found h5.em k ?_
      walk_at "run"
      refine ⟨by rw [sizeLine_v]; exact (by decide : 3 + 1 ≤ 16777216), ?_⟩
      walk_at "run"
      refine st_append sup_same szt ?_
      rw [sup_sup]
      exact step
    | @call w1_ t1_ r1_ k =>
      cases rw1
      walk_at "run"
      rw [isSeq_ref]
      refine ⟨⟨_, sup_same⟩, ?_⟩
      walk_at "run"
      refine st_slL ?_
      walk_at "run"
      refine ⟨_, ls_marks h5, ?_⟩
      walk_at "run"
      refine st_ixl (d := iD t1_) rfl ?_
      walk_at "run"
      refine use_found h5.em k ?_
      walk_at "run"
      refine ⟨by rw [sizeLine_v]; exact (by decide : 2 + 1 ≤ 16777216), ?_⟩
      walk_at "run"
      refine st_append sup_same szt ?_
      rw [sup_sup]
      exact step
    | @choose ts rs k =>
      have kl := k.len
      cases rw1 with
      | fix z1 z2 z3 hc =>
        walk_at "run"
        refine st_atr (k := 0) (other hc) rfl ?_
        walk_at "run"
        rw [isSeq_ref]
        refine ⟨⟨_, sup_same⟩, ?_⟩
        walk_at "run"
        refine st_at1 (other hc) ?_
        walk_at "run"
        rw [it_l]
        walk_at "run"
        refine lcL_rel iD iD True.intro k [] (by have := rok.2 _ rfl; rw [kl, sizeLine_v]; simp only [List.length_nil]; omega) (fun m1 t1_ _ _ hk P' hP => ?_) ?_
        · walk_at "run"
          refine ⟨_, ls_marks h5, ?_⟩
          walk_at "run"
          refine use_found h5.em hk ?_
          exact hP
        · walk_at "run"
          refine st_append sup_same szt ?_
          rw [sup_sup]
          exact step
      | grow z1 z1' z2 z3 z2' z3' hc he =>
        walk_at "run"
        refine st_atr (k := 0) (other hc) rfl ?_
        walk_at "run"
        rw [isSeq_ref]
        refine ⟨⟨_, sup_same⟩, ?_⟩
        walk_at "run"
        refine st_at1 (other hc) ?_
        walk_at "run"
        rw [it_r (other he)]
        walk_at "run"
        refine lcL_rel iD iD (other he) k [] (by have := rok.2 _ rfl; rw [kl, sizeLine_v]; simp only [List.length_nil]; omega) (fun m1 t1_ _ _ hk P' hP => ?_) ?_
        · walk_at "run"
          refine ⟨_, ls_marks h5, ?_⟩
          walk_at "run"
          refine use_found h5.em hk ?_
          exact hP
        · walk_at "run"
          refine st_append sup_same szt ?_
          rw [sup_sup]
          exact step
  · rintro _ _ ⟨rfl, x4, x5, rfl⟩
    walk_at "run"
    refine st_tup_r sup_same ?_
    have rl2 : 0 + rd2.length = (rowsB b 0 (cntB b) (cntB b)).length := by rw [rowsB_len, Nat.zero_add, rl, n4]
    show dTup (dCons (dTup (dCons (dC (D.str (Str.ofString "return"))) dNil)) dNil) [some (deedsD dl), some (D.tup (bD b)), some (D.ref s), some (D.ref t), x4, x5] _ fun y S2 => vAdd (.tup (((rowsB b 0 (cntB b) (cntB b)).take (0 + rd2.length)).map (rwD dl))) y S2 (DEnds.of P).rt
    rw [rl2, List.take_length]
    have hrl := rowsB_len b 0 (cntB b) (cntB b)
    walk_at "run"
    refine ⟨_, S, fun a o h => sup_new ht (k3 a o h), .refl _, ?_⟩
    have e : wordD dl b = .tup ((rowsB b 0 (cntB b) (cntB b)).map (rwD dl) ++ [D.tup [D.str (Str.ofString "return")]]) := by unfold wordD word; rw [List.map_append]; rfl
    rw [← e]
    exact q
end L3

set_option Elab.async false
set_option maxRecDepth 100000
set_option linter.all false
set_option maxHeartbeats 4000000
namespace L3
open PySem L2 L3.KL
local macro_rules | `(tactic| walk_at "cond") => `(tactic| first | omega | (simp only [List.length_append, List.length_cons, List.length_nil, List.length_take, List.length_drop, List.length_map, List.length_reverse]; omega) | rfl | decide)
local macro_rules | `(tactic| walk_at "side") => `(tactic| first | assumption | omega | (simp only [List.length_append, List.length_cons, List.length_nil, List.length_take, List.length_drop, List.length_map, List.length_reverse, sizeLine_val]; omega) | decide)
local macro_rules | `(tactic| walk_at "st") => `(tactic| first
  | with_reducible refine st_ix0 ?_ | with_reducible refine st_ix1 ?_ | with_reducible refine st_ix2 ?_ | with_reducible refine st_ix3 ?_ | with_reducible refine st_ix4 ?_
  | with_reducible refine st_add_pp (by walk_at "side") ?_ | with_reducible refine st_add_p1 (by walk_at "side") ?_ | with_reducible refine st_add_1p (by walk_at "side") ?_
  | with_reducible refine st_add ?_ | with_reducible refine st_sub ?_ | with_reducible refine st_iadd ?_ | with_reducible refine st_neg ?_
  | with_reducible refine st_len_p ?_ | with_reducible refine st_len_lp ?_ | with_reducible refine st_len_rp ?_ | with_reducible refine st_len_t ?_ | with_reducible refine st_len_l ?_
  | with_reducible refine st_add_t (by walk_at "side") ?_ | with_reducible refine st_add_l (by walk_at "side") ?_ | with_reducible refine st_add_s (by walk_at "side") ?_
  | with_reducible refine st_tru_bl ?_ | with_reducible refine st_tru_int ?_ | with_reducible refine st_tru_tup ?_ | with_reducible refine st_tru_lst ?_ | with_reducible refine st_tru_non ?_
  | with_reducible refine st_at (by assumption) ?_ | with_reducible refine st_atl (by assumption) ?_
  | with_reducible refine st_iteT ?_ | with_reducible refine st_iteF ?_ | with_reducible refine st_not ?_
  | with_reducible refine st_lt ?_ | with_reducible refine st_le ?_ | with_reducible refine st_gt ?_ | with_reducible refine st_ge ?_ | with_reducible refine st_eqi ?_ | with_reducible refine st_nei ?_ | with_reducible refine st_eqs ?_ | with_reducible refine st_nes ?_ | with_reducible refine st_eqb ?_
  | with_reducible refine st_isn_non ?_ | with_reducible refine st_isn_int ?_ | with_reducible refine st_isn_tup ?_ | with_reducible refine st_isn_str ?_ | with_reducible refine st_isn_bl ?_
  | with_reducible refine st_isnt_non ?_ | with_reducible refine st_isnt_int ?_ | with_reducible refine st_isnt_tup ?_ | with_reducible refine st_isnt_str ?_
  | with_reducible refine st_int ?_ | with_reducible refine st_intb ?_ | with_reducible refine st_abs ?_ | with_reducible refine st_min2 ?_ | with_reducible refine st_max2 ?_
  | with_reducible refine st_tup_l ?_ | with_reducible refine st_tup_t ?_ | with_reducible refine st_lst_t ?_ | with_reducible refine st_lst_l ?_
  | with_reducible refine st_sl_from ?_ | with_reducible refine st_sl_to ?_
  | with_reducible refine st_lx0 ?_ | with_reducible refine st_lx1 ?_ | with_reducible refine st_lx2 ?_ | with_reducible refine st_lx3 ?_
  | with_reducible refine st_mod (by walk_at "side") ?_ | with_reducible refine st_div (by walk_at "side") ?_ | with_reducible refine st_mul (by walk_at "side") ?_ | with_reducible refine st_mul' (by walk_at "side") ?_
  | with_reducible refine st_isi rfl ?_
  | (with_reducible refine And.intro (Nat.le_of_ble_eq_true rfl) ?_)
  | (refine And.intro (rfl : (_ : Nat) = _) ?_)
  | with_reducible refine st_dT (by walk_at "cond") ?_ | with_reducible refine st_dF (by walk_at "cond") ?_)
local macro_rules | `(tactic| walk_at "hd") => `(tactic| (with_reducible conv => whnf))
local macro_rules | `(tactic| walk_at "run") => `(tactic| ((with_reducible conv => whnf); repeat (walk_at "st"; (with_reducible conv => whnf))))
/-! ### what is drawn: how big -/
mutual
def sz : Stm → Int
  | .deed _ => 1
  | .call _ => 1
  | .back => 1
  | .either bs => 1 + szC bs
  | .loop b => 1 + szB b
  | .rep n b => (n : Int) * szB b
def szB : List Stm → Int
  | [] => 0
  | s :: b => sz s + szB b
def szC : List (List Stm) → Int
  | [] => 0
  | b :: bs => szB b + szC bs
end
theorem szB_map : ∀ b : List Stm, szB b = (b.map sz).sum
  | [] => by rw [szB]; rfl
  | s :: b => by rw [szB, szB_map b]; rfl
theorem szC_map : ∀ bs : List (List Stm), szC bs = (bs.map szB).sum
  | [] => by rw [szC]; rfl
  | b :: bs => by rw [szC, szC_map bs]; rfl
mutual
/-- eithers of at most three -/
def br : Stm → Bool
  | .deed _ => true
  | .call _ => true
  | .back => true
  | .either bs => decide (bs.length ≤ 3) && brC bs
  | .loop b => decide (b.length ≤ 4) && brB b
  | .rep k b => decide (b.length ≤ 4 ∧ k ≤ 100) && brB b
def brB : List Stm → Bool
  | [] => true
  | s :: b => br s && brB b
def brC : List (List Stm) → Bool
  | [] => true
  | b :: bs => (decide (b.length ≤ 4) && brB b) && brC bs
end
theorem brB_all : ∀ {b : List Stm}, (∀ s ∈ b, br s = true) → brB b = true
  | [], _ => by rw [brB]
  | s :: b, h => by rw [brB, h s List.mem_cons_self, brB_all fun t ht => h t (List.mem_cons_of_mem _ ht)]; rfl
theorem brC_all : ∀ {b : List (List Stm)}, (∀ s ∈ b, s.length ≤ 4 ∧ brB s = true) → brC b = true
  | [], _ => by rw [brC]
  | s :: b, h => by rw [brC, decide_eq_true (h s List.mem_cons_self).1, (h s List.mem_cons_self).2, brC_all fun t ht => h t (List.mem_cons_of_mem _ ht)]; rfl
theorem brB_mem {s : Stm} : ∀ {b : List Stm}, brB b = true → s ∈ b → br s = true
  | t :: b, h, m => by
    rw [brB, Bool.and_eq_true] at h
    rcases List.mem_cons.mp m with rfl | m
    · exact h.1
    · exact brB_mem h.2 m
theorem brC_mem {s : List Stm} : ∀ {b : List (List Stm)}, brC b = true → s ∈ b → s.length ≤ 4 ∧ brB s = true
  | t :: b, h, m => by
    rw [brC, Bool.and_eq_true, Bool.and_eq_true] at h
    rcases List.mem_cons.mp m with rfl | m
    · exact ⟨of_decide_eq_true h.1.1, h.1.2⟩
    · exact brC_mem h.2 m
theorem okB_all {nd : Nat} : ∀ {b : List Stm}, (∀ s ∈ b, okS nd s = true) → okB nd b = true
  | [], _ => by rw [okB]
  | s :: b, h => by rw [okB, h s List.mem_cons_self, okB_all fun t ht => h t (List.mem_cons_of_mem _ ht)]; rfl
theorem okC_all {nd : Nat} : ∀ {b : List (List Stm)}, (∀ s ∈ b, okB nd s = true) → okC nd b = true
  | [], _ => by rw [okC]
  | s :: b, h => by rw [okC, h s List.mem_cons_self, okC_all fun t ht => h t (List.mem_cons_of_mem _ ht)]; rfl
theorem hB_all {k : Nat} (k1 : 1 ≤ k) : ∀ {b : List Stm}, (∀ s ∈ b, 1 + hS s ≤ k) → hB b ≤ k
  | [], _ => by rw [hB]; exact k1
  | s :: b, h => by rw [hB]; have := h s List.mem_cons_self; have := hB_all k1 fun t ht => h t (List.mem_cons_of_mem _ ht); omega
theorem hC_all {k : Nat} : ∀ {b : List (List Stm)}, (∀ s ∈ b, hB s ≤ k) → hC b ≤ k
  | [], _ => by rw [hC]; omega
  | s :: b, h => by rw [hC]; have := h s List.mem_cons_self; have := hC_all fun t ht => h t (List.mem_cons_of_mem _ ht); omega
theorem nxB_all {k : Nat} : ∀ {b : List Stm}, (∀ s ∈ b, 1 + nx s ≤ k) → nxB b ≤ b.length * k
  | [], _ => by rw [nxB]; omega
  | s :: b, h => by rw [nxB, List.length_cons, Nat.succ_mul]; have := h s List.mem_cons_self; have := nxB_all fun t ht => h t (List.mem_cons_of_mem _ ht); omega
theorem nxC_all {k : Nat} : ∀ {b : List (List Stm)}, (∀ s ∈ b, nxB s ≤ k) → nxC b ≤ b.length * k
  | [], _ => by rw [nxC]; omega
  | s :: b, h => by rw [nxC, List.length_cons, Nat.succ_mul]; have := h s List.mem_cons_self; have := nxC_all fun t ht => h t (List.mem_cons_of_mem _ ht); omega
def bdN : Nat → Nat
  | 0 => 1
  | e + 1 => 4 + 12 * bdN e
theorem bdN_pos : ∀ e, 1 ≤ bdN e
  | 0 => Nat.le_refl _
  | e + 1 => by rw [bdN]; omega
structure Sd (nd e : Nat) (s : Stm) : Prop where
  ok : okS nd s = true
  br_ : br s = true
  h : 1 + hS s ≤ 2 + 2 * e
  n : 1 + nx s ≤ bdN e
def Bd (nd e : Nat) (b : List Stm) : Prop := b.length ≤ 4 ∧ ∀ s ∈ b, Sd nd e s
theorem Bd.ok {nd e : Nat} {b : List Stm} (h : Bd nd e b) : okB nd b = true := okB_all fun s k => (h.2 s k).ok
theorem Bd.br_ {nd e : Nat} {b : List Stm} (h : Bd nd e b) : brB b = true := brB_all fun s k => (h.2 s k).br_
theorem Bd.h {nd e : Nat} {b : List Stm} (h : Bd nd e b) : hB b ≤ 2 + 2 * e := hB_all (by omega) fun s k => (h.2 s k).h
theorem Bd.n {nd e : Nat} {b : List Stm} (h : Bd nd e b) : nxB b ≤ 4 * bdN e := Nat.le_trans (nxB_all fun s k => (h.2 s k).n) (Nat.mul_le_mul_right _ h.1)
theorem sd_deed {nd e d : Nat} (h : d < nd) : Sd nd e (.deed d) := ⟨by rw [okS]; exact decide_eq_true h, by rw [br], by rw [hS]; omega, by rw [nx]; exact bdN_pos e⟩
theorem sd_call {nd e d : Nat} : Sd nd e (.call d) := ⟨by rw [okS], by rw [br], by rw [hS]; omega, by rw [nx]; exact bdN_pos e⟩
theorem sd_back {nd e : Nat} : Sd nd e .back := ⟨by rw [okS], by rw [br], by rw [hS]; omega, by rw [nx]; exact bdN_pos e⟩
theorem sd_either {nd e : Nat} {bs : List (List Stm)} (hl : bs.length ≤ 3) (h : ∀ b ∈ bs, Bd nd e b) : Sd nd (e + 1) (.either bs) :=
  ⟨by rw [okS]; exact okC_all fun b k => (h b k).ok, by rw [br, decide_eq_true hl, brC_all fun b k => ⟨(h b k).1, (h b k).br_⟩]; rfl, by rw [hS]; have := hC_all fun b k => (h b k).h; omega,
   by rw [nx, bdN]; have := nxC_all fun b k => (h b k).n; have := Nat.mul_le_mul_right (4 * bdN e) hl; omega⟩
theorem sd_loop {nd e : Nat} {b : List Stm} (h : Bd nd e b) : Sd nd (e + 1) (.loop b) :=
  ⟨by rw [okS]; exact h.ok, by rw [br, decide_eq_true h.1, h.br_]; rfl, by rw [hS]; have := h.h; omega, by rw [nx, bdN]; have := h.n; omega⟩
theorem sd_rep {nd e k : Nat} {b : List Stm} (hk : k ≤ 3) (h : Bd nd e b) : Sd nd (e + 1) (.rep k b) :=
  ⟨by rw [okS]; exact h.ok, by rw [br, decide_eq_true (⟨h.1, by omega⟩ : b.length ≤ 4 ∧ k ≤ 100), h.br_]; rfl, by rw [hS]; have := h.h; omega, by rw [nx, bdN]; have := h.n; have := Nat.mul_le_mul_right (1 + nxB b) hk; omega⟩
/-! ### sizes -/
theorem st_sumI {α : Type} {v : α → Int} {l : List α} {n : Int} {S : Sto} {Q : DK} (e : n = (l.map v).sum) (q : Q (.int n) S) : vSum [.lst (l.map fun a => D.int (v a))] S Q := by
  subst e
  have h : asInts (l.map fun a => D.int (v a)) = some (l.map v) := by
    clear q
    induction l with
    | nil => rfl
    | cons a l ih => simp only [List.map_cons, asInts, ih]; rfl
  simp only [vSum, seqOf, Option.bind, h]
  exact q
def sr_law_size (n : Nat) (x : D) (S : Sto) (Q : DK) : Prop := ∃ s, x = sD s ∧ hS s ≤ n ∧ br s = true ∧ Q (.int (sz s)) S
def sp_law_size := sr_law_size 20
theorem use_lsize {n : Nat} {s : Stm} {S : Sto} {Q : DK} (h : hS s ≤ n) (hn : br s = true) (q : Q (.int (sz s)) S) : sr_law_size n (sD s) S Q := ⟨s, rfl, h, hn, q⟩
-- _law_size : 0=statement 1=body 2=one
def rd_law_size (spr_law_size : DSp) : DTS :=
    (dSeq (dIf (dTest (dOp vEq (dOp vIx (dVar 0) (dC (.int 0))) (dC (.str "either")))) (dRet (dOp vAdd (dC (.int 1)) (dCB vSum (dCons (dLc (iTupD (dOp vIx (dVar 0) (dC (.int 1)))) (dTg (.nm 1)) dYes (dCB vSum (dCons (dLc (iTupD (dVar 1)) (dTg (.nm 2)) dYes (dCall spr_law_size (dCons (dVar 2) dNil)) [2]) dNil)) [1]) dNil)))) dNext)
    (dSeq (dIf (dTest (dOp vEq (dOp vIx (dVar 0) (dC (.int 0))) (dC (.str "loop")))) (dRet (dOp vAdd (dC (.int 1)) (dCB vSum (dCons (dLc (iTupD (dOp vIx (dVar 0) (dC (.int 1)))) (dTg (.nm 2)) dYes (dCall spr_law_size (dCons (dVar 2) dNil)) [2]) dNil)))) dNext)
    (dSeq (dIf (dTest (dOp vEq (dOp vIx (dVar 0) (dC (.int 0))) (dC (.str "repeat")))) (dRet (dOp vMul (dOp vIx (dVar 0) (dC (.int 1))) (dCB vSum (dCons (dLc (iTupD (dOp vIx (dVar 0) (dC (.int 2)))) (dTg (.nm 2)) dYes (dCall spr_law_size (dCons (dVar 2) dNil)) [2]) dNil)))) dNext)
    (dRet (dC (.int 1))))))
set_option pp.maxSteps 300
theorem rd_law_size_ok (n : Nat) (spr_law_size : DSp) (hs_law_size : ∀ m, n = m + 1 → spr_law_size = a1 (sr_law_size m)) : ∀ ds S P, (a1 (sr_law_size n)) ds S P → rd_law_size spr_law_size (DEnds.of P) (dstart ["statement", "body", "one"] ds) S := by
  intro ds S P hsp
  rcases ds with _ | ⟨x, _ | ⟨y, ds⟩⟩ <;> first | exact (hsp : False).elim | skip
  obtain ⟨s, rfl, hn, hx, q⟩ := (hsp : sr_law_size n x S P)
  unfold rd_law_size
  cases s with
  | rep k b =>
    rw [hS] at hn
    rw [br, Bool.and_eq_true] at hx
    obtain ⟨hl, hk⟩ := of_decide_eq_true hx.1
    obtain ⟨m, rfl⟩ : ∃ m, n = m + 1 := ⟨n - 1, by omega⟩
    rw [hs_law_size m rfl]
    rw [sD]
    walk_at "run"
    rw [bD_map]
    refine lcL_map sD (fun s => .int (sz s)) True.intro b [] (by rw [sizeLine_v]; simp only [List.length_nil]; omega) (fun s hs P' h => ?_) ?_
    · walk_at "run"
      have h1 := hS_mem hs
      refine use_lsize (by omega) (brB_mem hx.2 hs) ?_
      exact h
    · rw [List.nil_append]
      walk_at "run"
      refine st_sumI (szB_map b) ?_
      walk_at "run"
      rw [sz] at q
      exact .of q
  | loop b =>
    rw [hS] at hn
    rw [br, Bool.and_eq_true] at hx
    have hl := of_decide_eq_true hx.1
    obtain ⟨m, rfl⟩ : ∃ m, n = m + 1 := ⟨n - 1, by omega⟩
    rw [hs_law_size m rfl]
    rw [sD]
    walk_at "run"
    rw [bD_map]
    refine lcL_map sD (fun s => .int (sz s)) True.intro b [] (by rw [sizeLine_v]; simp only [List.length_nil]; omega) (fun s hs P' h => ?_) ?_
    · walk_at "run"
      have h1 := hS_mem hs
      refine use_lsize (by omega) (brB_mem hx.2 hs) ?_
      exact h
    · rw [List.nil_append]
      walk_at "run"
      refine st_sumI (szB_map b) ?_
      walk_at "run"
      rw [sz] at q
      exact .of q
  | either bs =>
    rw [hS] at hn
    rw [br, Bool.and_eq_true] at hx
    have hl := of_decide_eq_true hx.1
    obtain ⟨m, rfl⟩ : ∃ m, n = m + 1 := ⟨n - 1, by omega⟩
    rw [hs_law_size m rfl]
    rw [sD]
    walk_at "run"
    rw [csD_map]
    refine lcL_map (fun b => .tup (bD b)) (fun b => .int (szB b)) True.intro bs [] (by rw [sizeLine_v]; simp only [List.length_nil]; omega) (fun b hb P' h => ?_) ?_
    · obtain ⟨b4, bb⟩ := brC_mem hx.2 hb
      have h0 := hB_mem hb
      walk_at "run"
      rw [bD_map]
      refine lcL_map sD (fun s => .int (sz s)) True.intro b [] (by rw [sizeLine_v]; simp only [List.length_nil]; omega) (fun s hs P' h => ?_) ?_
      · walk_at "run"
        have h1 := hS_mem hs
        refine use_lsize (by omega) (brB_mem bb hs) ?_
        exact h
      · rw [List.nil_append]
        walk_at "run"
        refine st_sumI (szB_map b) ?_
        exact h
    · rw [List.nil_append]
      walk_at "run"
      refine st_sumI (szC_map bs) ?_
      walk_at "run"
      rw [sz] at q
      exact .of q
  | _ =>
    rw [sD]
    walk_at "run"
    exact .of (by rw [sz] at q; exact q)
end L3

set_option Elab.async false
set_option maxRecDepth 100000
set_option linter.all false
set_option maxHeartbeats 4000000
namespace L3
open PySem L2 L3.KL
local macro_rules | `(tactic| walk_at "cond") => `(tactic| first | omega | (simp only [List.length_append, List.length_cons, List.length_nil, List.length_take, List.length_drop, List.length_map, List.length_reverse]; omega) | rfl | decide)
local macro_rules | `(tactic| walk_at "side") => `(tactic| first | assumption | omega | (simp only [List.length_append, List.length_cons, List.length_nil, List.length_take, List.length_drop, List.length_map, List.length_reverse, sizeLine_val]; omega) | decide)
local macro_rules | `(tactic| walk_at "st") => `(tactic| first
  | with_reducible refine st_ix0 ?_ | with_reducible refine st_ix1 ?_ | with_reducible refine st_ix2 ?_ | with_reducible refine st_ix3 ?_ | with_reducible refine st_ix4 ?_
  | with_reducible refine st_add_pp (by walk_at "side") ?_ | with_reducible refine st_add_p1 (by walk_at "side") ?_ | with_reducible refine st_add_1p (by walk_at "side") ?_
  | with_reducible refine st_add ?_ | with_reducible refine st_sub ?_ | with_reducible refine st_iadd ?_ | with_reducible refine st_neg ?_
  | with_reducible refine st_len_p ?_ | with_reducible refine st_len_lp ?_ | with_reducible refine st_len_rp ?_ | with_reducible refine st_len_t ?_ | with_reducible refine st_len_l ?_
  | with_reducible refine st_add_t (by walk_at "side") ?_ | with_reducible refine st_add_l (by walk_at "side") ?_ | with_reducible refine st_add_s (by walk_at "side") ?_
  | with_reducible refine st_tru_bl ?_ | with_reducible refine st_tru_int ?_ | with_reducible refine st_tru_tup ?_ | with_reducible refine st_tru_lst ?_ | with_reducible refine st_tru_non ?_
  | with_reducible refine st_at (by assumption) ?_ | with_reducible refine st_atl (by assumption) ?_
  | with_reducible refine st_iteT ?_ | with_reducible refine st_iteF ?_ | with_reducible refine st_not ?_
  | with_reducible refine st_lt ?_ | with_reducible refine st_le ?_ | with_reducible refine st_gt ?_ | with_reducible refine st_ge ?_ | with_reducible refine st_eqi ?_ | with_reducible refine st_nei ?_ | with_reducible refine st_eqs ?_ | with_reducible refine st_nes ?_ | with_reducible refine st_eqb ?_
  | with_reducible refine st_isn_non ?_ | with_reducible refine st_isn_int ?_ | with_reducible refine st_isn_tup ?_ | with_reducible refine st_isn_str ?_ | with_reducible refine st_isn_bl ?_
  | with_reducible refine st_isnt_non ?_ | with_reducible refine st_isnt_int ?_ | with_reducible refine st_isnt_tup ?_ | with_reducible refine st_isnt_str ?_
  | with_reducible refine st_int ?_ | with_reducible refine st_intb ?_ | with_reducible refine st_abs ?_ | with_reducible refine st_min2 ?_ | with_reducible refine st_max2 ?_
  | with_reducible refine st_tup_l ?_ | with_reducible refine st_tup_t ?_ | with_reducible refine st_lst_t ?_ | with_reducible refine st_lst_l ?_
  | with_reducible refine st_sl_from ?_ | with_reducible refine st_sl_to ?_
  | with_reducible refine st_lx0 ?_ | with_reducible refine st_lx1 ?_ | with_reducible refine st_lx2 ?_ | with_reducible refine st_lx3 ?_
  | with_reducible refine st_mod (by walk_at "side") ?_ | with_reducible refine st_div (by walk_at "side") ?_ | with_reducible refine st_mul (by walk_at "side") ?_ | with_reducible refine st_mul' (by walk_at "side") ?_
  | with_reducible refine st_isi rfl ?_
  | (with_reducible refine And.intro (Nat.le_of_ble_eq_true rfl) ?_)
  | (refine And.intro (rfl : (_ : Nat) = _) ?_)
  | with_reducible refine st_dT (by walk_at "cond") ?_ | with_reducible refine st_dF (by walk_at "cond") ?_)
local macro_rules | `(tactic| walk_at "hd") => `(tactic| (with_reducible conv => whnf))
local macro_rules | `(tactic| walk_at "run") => `(tactic| ((with_reducible conv => whnf); repeat (walk_at "st"; (with_reducible conv => whnf))))
/-! ### drawn bodies -/
def Kb (j g l : Addr) (S S' : Sto) : Prop := ∀ a o, a ≠ j → a ≠ g → a ≠ l → S a = some o → S' a = some o
theorem Kb.refl {j g l : Addr} {S : Sto} : Kb j g l S S := fun _ _ _ _ _ h => h
theorem Kb.trans {j g l : Addr} {S S1 S2 : Sto} (h : Kb j g l S S1) (k : Kb j g l S1 S2) : Kb j g l S S2 := fun a o a1 a2 a3 e => k a o a1 a2 a3 (h a o a1 a2 a3 e)
theorem Oth2.kb {j g l : Addr} {S S' : Sto} (h : Oth2 j g S S') : Kb j g l S S' := fun a o a1 a2 _ e => by rw [h a a1 a2]; exact e
theorem Jg.out {j g a : Addr} {o : SO} {S : Sto} (h : Jg S j g) (a1 : a ≠ j) (a2 : a ≠ g) : Jg (L3.sup S a o) j g :=
  ⟨by obtain ⟨m, t, e⟩ := h.j_; exact ⟨m, t, by rw [sup_ne (Ne.symm a1)]; exact e⟩, by obtain ⟨m, e, t⟩ := h.g_; exact ⟨m, by rw [sup_ne (Ne.symm a2)]; exact e, t⟩⟩
/-- the jug, and what is left -/
structure Jl (S : Sto) (j g l : Addr) : Prop where
  jg : Jg S j g
  lj : l ≠ j
  lg : l ≠ g
  l_ : ∃ k : Int, S l = some (.lst [.int k])
theorem Jl.oth {S S' : Sto} {j g l : Addr} (h : Jl S j g l) (k : Jg S' j g) (o : Oth2 j g S S') : Jl S' j g l := ⟨k, h.lj, h.lg, by obtain ⟨n, e⟩ := h.l_; exact ⟨n, by rw [o l h.lj h.lg]; exact e⟩⟩
theorem Jl.set {S : Sto} {j g l : Addr} {k : Int} (h : Jl S j g l) : Jl (L3.sup S l (.lst [.int k])) j g l := ⟨h.jg.out h.lj h.lg, h.lj, h.lg, k, sup_same⟩
theorem Jl.out {S : Sto} {j g l a : Addr} {o : SO} (h : Jl S j g l) (a1 : a ≠ j) (a2 : a ≠ g) (a3 : a ≠ l) : Jl (L3.sup S a o) j g l := ⟨h.jg.out a1 a2, h.lj, h.lg, by obtain ⟨n, e⟩ := h.l_; exact ⟨n, by rw [sup_ne (Ne.symm a3)]; exact e⟩⟩
theorem Jl.new {S : Sto} {j g l p : Addr} (h : Jl S j g l) (hp : S p = none) : p ≠ j ∧ p ≠ g ∧ p ≠ l := ⟨h.jg.nj hp, h.jg.ng hp, fun z => by obtain ⟨n, e⟩ := h.l_; subst z; rw [hp] at e; cases e⟩
theorem kb_l {j g l : Addr} {o : SO} {S : Sto} : Kb j g l S (L3.sup S l o) := fun a u _ _ a3 e => by rw [sup_ne a3]; exact e
def sr_law_body (n : Nat) (x y z u : D) (S : Sto) (Q : DK) : Prop := ∃ (j g l : Addr) (e nd nn : Nat) (ee : Int), x = .ref j ∧ y = .ref l ∧ z = .int ee ∧ u = .tup [iD nd, iD nn] ∧ ee = (e : Int) ∧ e ≤ 4 ∧ e ≤ n ∧ nd < 1000 ∧ 0 < nn ∧ nn < 1000 ∧ Jl S j g l ∧
  ∀ b S', Bd nd e b → Jl S' j g l → Kb j g l S S' → Q (.tup (bD b)) S'
def sp_law_body := sr_law_body 20
theorem use_lbody {n : Nat} {j g l : Addr} {e nd nn : Nat} {ee : Int} {S : Sto} {Q : DK} (he : ee = (e : Int)) (e4 : e ≤ 4) (en : e ≤ n) (d : nd < 1000) (n0 : 0 < nn ∧ nn < 1000) (h : Jl S j g l)
    (q : ∀ b S', Bd nd e b → Jl S' j g l → Kb j g l S S' → Q (.tup (bD b)) S') : sr_law_body n (.ref j) (.ref l) (.int ee) (.tup [iD nd, iD nn]) S Q := ⟨j, g, l, e, nd, nn, ee, rfl, rfl, rfl, rfl, he, e4, en, d, n0.1, n0.2, h, q⟩
theorem csD_app (a : List (List Stm)) (b : List Stm) : csD a ++ [.tup (bD b)] = csD (a ++ [b]) := by rw [csD_map, csD_map, List.map_append]; rfl
theorem bD_app (a : List Stm) (b : Stm) : bD a ++ [sD b] = bD (a ++ [b]) := by rw [bD_map, bD_map, List.map_append]; rfl
theorem lc_bods {m : Nat} {j g l : Addr} {e nd nn : Nat} {x4 x5 x6 x7 : Option D} {Q : DK} (e4 : e + 1 ≤ 4) (en : e ≤ m) (hd : nd < 1000) (hn : 0 < nn ∧ nn < 1000) : ∀ (L : List D) (acc : List (List Stm)) (S : Sto), acc.length + L.length ≤ 3 → (∀ b ∈ acc, Bd nd e b) → Jl S j g l →
    (∀ (bs : List (List Stm)) S', bs.length ≤ 3 → (∀ b ∈ bs, Bd nd e b) → Jl S' j g l → Kb j g l S S' → Q (.lst (csD bs)) S') →
    lcL (fun _ => True) (dTg (.nm 7)) dYes (dCall (a4 (sr_law_body m)) (dCons (dVar 0) (dCons (dVar 1) (dCons (dOp vSub (dVar 2) (dC (.int 1))) (dCons (dVar 3) dNil))))) [7] [some (.ref j), some (.ref l), some (.int ((e + 1 : Nat) : Int)), some (.tup [iD nd, iD nn]), x4, x5, x6, x7] L (csD acc) S Q
  | [], acc, S, hl, ha, sk, q => ⟨trivial, q acc S (by simp only [List.length_nil] at hl; omega) ha sk .refl⟩
  | d :: r, acc, S, hl, ha, sk, q => by
    rw [List.length_cons] at hl
    refine ⟨trivial, by rw [csD_map, List.length_map, sizeLine_v]; omega, ?_⟩
    walk_at "run"
    refine use_lbody (e := e) (by omega) (by omega) en hd hn sk fun b S1 hb sk1 k1 => ?_
    walk_at "run"
    rw [csD_app]
    refine lc_bods e4 en hd hn r (acc ++ [b]) S1 (by rw [List.length_append]; simp only [List.length_cons, List.length_nil]; omega) (fun c hc => ?_) sk1 fun bs S2 hm hb2 sk2 k2 => ?_
    · rcases List.mem_append.mp hc with hc | hc
      · exact ha c hc
      · rw [List.mem_singleton.mp hc]; exact hb
    exact q bs S2 hm hb2 sk2 (k1.trans k2)
-- _law_body : 0=jug 1=left 2=deep 3=sizes 4=told 5=lap 6=kind 7=turn
def rd_law_body (spr_law_body : DSp) : DTS :=
    (dSeq (dAsg (dLstM dNil) (dTg (.nm 4)))
    (dSeq (dFor (iRange1 (dOp vAdd (dCall (a2 sp_law_pour) (dCons (dVar 0) (dCons (dC (.int 4)) dNil))) (dCB vInt (dCons (dOp vGt (dVar 2) (dC (.int 3))) dNil)))) (dTg (.nm 5)) (dSeq (dIf (dTest (dOp vLt (dOp vIx (dVar 1) (dC (.int 0))) (dC (.int 1)))) dBreak dNext)
    (dSeq (dAsg (dOp vSub (dOp vIx (dVar 1) (dC (.int 0))) (dC (.int 1))) (dgSub (dVar 1) (dC (.int 0))))
    (dSeq (dAsg (dCall (a2 sp_law_pour) (dCons (dVar 0) (dCons (dC (.int 9)) dNil))) (dTg (.nm 6)))
    (dIf (dOr (dTest (dOp vEq (dVar 6) (dC (.int 0)))) (dAnd (dTest (dOp vEq (dVar 2) (dC (.int 0)))) (dTest (dOp vGt (dVar 6) (dC (.int 5)))))) (dDrop (dLM vAppend (dVar 4) (dCons (dTup (dCons (dC (.str "back")) dNil)) dNil))) (dIf (dTest (dOp vEq (dVar 6) (dC (.int 6)))) (dDrop (dLM vAppend (dVar 4) (dCons (dTup (dCons (dC (.str "either")) (dCons (dCB vTuple (dCons (dLc (iRange1 (dOp vAdd (dC (.int 2)) (dCall (a2 sp_law_pour) (dCons (dVar 0) (dCons (dC (.int 2)) dNil))))) (dTg (.nm 7)) dYes (dCall spr_law_body (dCons (dVar 0) (dCons (dVar 1) (dCons (dOp vSub (dVar 2) (dC (.int 1))) (dCons (dVar 3) dNil))))) [7]) dNil)) dNil))) dNil))) (dIf (dTest (dOp vEq (dVar 6) (dC (.int 7)))) (dDrop (dLM vAppend (dVar 4) (dCons (dTup (dCons (dC (.str "loop")) (dCons (dCall spr_law_body (dCons (dVar 0) (dCons (dVar 1) (dCons (dOp vSub (dVar 2) (dC (.int 1))) (dCons (dVar 3) dNil))))) dNil))) dNil))) (dIf (dTest (dOp vEq (dVar 6) (dC (.int 8)))) (dDrop (dLM vAppend (dVar 4) (dCons (dTup (dCons (dC (.str "repeat")) (dCons (dOp vIx (dTup (dCons (dC (.int 0)) (dCons (dC (.int 1)) (dCons (dC (.int 2)) (dCons (dC (.int 3)) dNil))))) (dCall (a2 sp_law_pour) (dCons (dVar 0) (dCons (dC (.int 4)) dNil)))) (dCons (dCall spr_law_body (dCons (dVar 0) (dCons (dVar 1) (dCons (dOp vSub (dVar 2) (dC (.int 1))) (dCons (dVar 3) dNil))))) dNil)))) dNil))) (dIf (dAnd (dTest (dOp vGt (dVar 6) (dC (.int 2)))) (dTest (dOp vGt (dOp vIx (dVar 3) (dC (.int 0))) (dC (.int 0))))) (dDrop (dLM vAppend (dVar 4) (dCons (dTup (dCons (dC (.str "deed")) (dCons (dCall (a2 sp_law_pour) (dCons (dVar 0) (dCons (dOp vIx (dVar 3) (dC (.int 0))) dNil))) dNil))) dNil))) (dDrop (dLM vAppend (dVar 4) (dCons (dTup (dCons (dC (.str "call")) (dCons (dCall (a2 sp_law_pour) (dCons (dVar 0) (dCons (dOp vIx (dVar 3) (dC (.int 1))) dNil))) dNil))) dNil))))))))))))
    (dRet (dCB vTuple (dCons (dVar 4) dNil)))))
set_option pp.maxSteps 300
theorem rd_law_body_ok (n : Nat) (spr_law_body : DSp) (hs_law_body : ∀ m, n = m + 1 → spr_law_body = a4 (sr_law_body m)) : ∀ ds S P, (a4 (sr_law_body n)) ds S P → rd_law_body spr_law_body (DEnds.of P) (dstart ["jug", "left", "deep", "sizes", "told", "lap", "kind", "turn"] ds) S := by
  intro ds S P hsp
  rcases ds with _ | ⟨x, _ | ⟨y, _ | ⟨z, _ | ⟨u, _ | ⟨w, ds⟩⟩⟩⟩⟩ <;> first | exact (hsp : False).elim | skip
  obtain ⟨j, g, l, e, nd, nn, ee, rfl, rfl, rfl, rfl, rfl, e4, en, hd, n0, n1, sk, q⟩ := (hsp : sr_law_body n x y z u S P)
  unfold rd_law_body
  walk_at "run"
  intro t ht
  obtain ⟨tj, tg_, tl⟩ := sk.new ht
  walk_at "run"
  have sk0 := sk.out (o := .lst []) tj tg_ tl
  refine use_pour sk0.jg (by omega) fun r S1 r0 r1 jg1 s1 => ?_
  walk_at "run"
  have sk1 := sk0.oth jg1 s1
  have t1 : S1 t = some (.lst (bD [])) := by rw [s1 t tj tg_, sup_same]; rfl
  have k1 : Kb j g l S S1 := fun a o a1 a2 a3 h => by rw [s1 a a1 a2]; exact sup_new ht h
  have cnt : ∃ c : Nat, (r + if decide (3 < (e : Int)) = true then 1 else 0) = (c : Int) ∧ c ≤ 4 := by
    obtain ⟨r, rfl⟩ := Int.eq_ofNat_of_zero_le r0
    by_cases z : (3 : Int) < e
    · rw [if_pos (decide_eq_true z)]; exact ⟨r + 1, rfl, by omega⟩
    · rw [if_neg (by simpa using z)]; exact ⟨r, by omega, by omega⟩
  obtain ⟨c, hc, c4⟩ := cnt
  rw [hc]
  refine ⟨by omega, by omega, ?_⟩
  rw [Int.toNat_natCast]
  have clen := rng_len c
  refine forL_inv (fun i δ S' => ∃ b x5 x6 x7, b.length ≤ i ∧ (∀ s ∈ b, Sd nd e s) ∧ S' t = some (.lst (bD b)) ∧ Jl S' j g l ∧ Kb j g l S S' ∧ δ = [some (.ref j), some (.ref l), some (.int (e : Int)), some (.tup [iD nd, iD nn]), some (.ref t), x5, x6, x7]) (fun _ _ _ _ => True.intro) _ 0 _ _
    ⟨[], none, none, none, Nat.le_refl _, (fun s h => absurd h List.not_mem_nil), t1, sk1, k1, rfl⟩ ?_ ?_
  · rintro i dv _ S2 hi ⟨b, x5, x6, x7, bl, hb, t2, sk2, k2, rfl⟩ D2 hrt hbk hnx _
    rw [Nat.zero_add] at hnx bl
    have hi4 : i < 4 := by have := (List.getElem?_eq_some_iff.mp hi).1; omega
    obtain ⟨kk, el⟩ := sk2.l_
    walk_at "run"
    refine st_atr (k := 0) el rfl ?_
    walk_at "run"
    by_cases z : kk < 1
    · rw [decide_eq_true z]
      walk_at "run"
      change D2.bk _ _
      rw [hbk]
      walk_at "run"
      refine st_tup_r t2 ?_
      exact .of (q b S2 ⟨by omega, hb⟩ sk2 k2)
    rw [decide_eq_false z]
    walk_at "run"
    refine st_atr (k := 0) el rfl ?_
    walk_at "run"
    refine st_setr (b := 0) el (by simp) ?_
    walk_at "run"
    have sk3 : Jl (L3.sup S2 l (.lst ([D.int kk].set 0 (.int (kk - 1))))) j g l := sk2.set
    have t3 : (L3.sup S2 l (.lst ([D.int kk].set 0 (.int (kk - 1))))) t = some (.lst (bD b)) := by rw [sup_ne tl]; exact t2
    have k3 : Kb j g l S (L3.sup S2 l (.lst ([D.int kk].set 0 (.int (kk - 1))))) := k2.trans kb_l
    refine use_pour sk3.jg (by omega) fun w S4 w0 w1 jg4 s4 => ?_
    have sk4 := sk3.oth jg4 s4
    have t4 : S4 t = some (.lst (bD b)) := by rw [s4 t tj tg_]; exact t3
    have k4 := k3.trans s4.kb (l := l)
    have ft : ∀ {S' : Sto}, Kb j g l S4 S' → S' t = some (.lst (bD b)) := fun k => k t _ tj tg_ tl t4
    have szt : (bD b).length < sizeLine := by rw [bD_map, List.length_map, sizeLine_v]; omega
    have step : ∀ (s : Stm) (S' : Sto) (y5 y7 : Option D), Sd nd e s → Jl S' j g l → Kb j g l S4 S' → D2.nx [some (.ref j), some (.ref l), some (.int (e : Int)), some (.tup [iD nd, iD nn]), some (.ref t), y5, some (.int w), y7] (L3.sup S' t (.lst (bD b ++ [sD s]))) := fun s S' y5 y7 h1 h2 h3 => by
      refine hnx _ _ ⟨b ++ [s], y5, _, y7, by rw [List.length_append]; simp only [List.length_cons, List.length_nil]; omega, fun u hu => ?_, by rw [bD_app]; exact sup_same, h2.out tj tg_ tl, ?_, rfl⟩
      · rcases List.mem_append.mp hu with hu | hu
        · exact hb u hu
        · rw [List.mem_singleton.mp hu]; exact h1
      · intro a o a1 a2 a3 h
        have ne : a ≠ t := fun z => by subst z; rw [ht] at h; cases h
        rw [sup_ne ne]
        exact h3 a o a1 a2 a3 (k4 a o a1 a2 a3 h)
    walk_at "run"
    by_cases z0 : w = 0
    · rw [decide_eq_true z0]
      walk_at "run"
      rw [isSeq_ref]
      refine ⟨⟨_, t4⟩, ?_⟩
      walk_at "run"
      refine st_append t4 szt ?_
      exact step .back S4 _ _ sd_back sk4 .refl
    rw [decide_eq_false z0]
    by_cases z5 : w > 5
    · by_cases ze : (e : Int) = 0
      · walk_at "run"
        rw [isSeq_ref]
        refine ⟨⟨_, t4⟩, ?_⟩
        walk_at "run"
        refine st_append t4 szt ?_
        exact step .back S4 _ _ sd_back sk4 .refl
      obtain ⟨e, rfl⟩ : ∃ e', e = e' + 1 := ⟨e - 1, by omega⟩
      obtain ⟨m, rfl⟩ : ∃ m, n = m + 1 := ⟨n - 1, by omega⟩
      rw [hs_law_body m rfl]
      have w678 : w = 6 ∨ w = 7 ∨ w = 8 := by omega
      rcases w678 with rfl | rfl | rfl
      · walk_at "run"
        rw [isSeq_ref]
        refine ⟨⟨_, t4⟩, ?_⟩
        walk_at "run"
        refine use_pour sk4.jg (by omega) fun v S5 v0 v1 jg5 s5 => ?_
        have sk5 := sk4.oth jg5 s5
        obtain ⟨v, rfl⟩ := Int.eq_ofNat_of_zero_le v0
        walk_at "run"
        refine ⟨by omega, by omega, ?_⟩
        refine lc_bods e4 (by omega) hd ⟨n0, n1⟩ (rngD 0 _) [] S5 (by rw [rng_len]; simp only [List.length_nil]; omega) (fun b h => absurd h List.not_mem_nil) sk5 fun bs S6 bs3 hbs sk6 k6 => ?_
        walk_at "run"
        refine st_append (ft (s5.kb.trans k6)) szt ?_
        exact step (.either bs) S6 _ _ (sd_either bs3 hbs) sk6 (s5.kb.trans k6)
      · walk_at "run"
        rw [isSeq_ref]
        refine ⟨⟨_, t4⟩, ?_⟩
        walk_at "run"
        refine use_lbody (e := e) (by omega) (by omega) (by omega) hd ⟨n0, n1⟩ sk4 fun b2 S5 hb2 sk5 k5 => ?_
        walk_at "run"
        refine st_append (ft k5) szt ?_
        exact step (.loop b2) S5 _ _ (sd_loop hb2) sk5 k5
      · walk_at "run"
        rw [isSeq_ref]
        refine ⟨⟨_, t4⟩, ?_⟩
        walk_at "run"
        refine use_pour sk4.jg (by omega) fun v S5 v0 v1 jg5 s5 => ?_
        have sk5 := sk4.oth jg5 s5
        obtain ⟨v, rfl⟩ := Int.eq_ofNat_of_zero_le v0
        walk_at "run"
        have v3 : ([D.int 0, D.int 1, D.int 2, D.int 3] : List D)[v]? = some (iD v) := by
          have : v = 0 ∨ v = 1 ∨ v = 2 ∨ v = 3 := by omega
          rcases this with rfl | rfl | rfl | rfl <;> rfl
        refine st_at v3 ?_
        walk_at "run"
        refine use_lbody (e := e) (by omega) (by omega) (by omega) hd ⟨n0, n1⟩ sk5 fun b2 S6 hb2 sk6 k6 => ?_
        walk_at "run"
        refine st_append (ft (s5.kb.trans k6)) szt ?_
        exact step (.rep v b2) S6 _ _ (sd_rep (by omega) hb2) sk6 (s5.kb.trans k6)
    · by_cases ze : (e : Int) = 0
      all_goals
        walk_at "run"
        by_cases z2 : w > 2
        · by_cases zd : (nd : Int) > 0
          · walk_at "run"
            rw [isSeq_ref]
            refine ⟨⟨_, t4⟩, ?_⟩
            walk_at "run"
            refine use_pour sk4.jg (by omega) fun v S5 v0 v1 jg5 s5 => ?_
            have sk5 := sk4.oth jg5 s5
            obtain ⟨v, rfl⟩ := Int.eq_ofNat_of_zero_le v0
            walk_at "run"
            refine st_append (ft s5.kb) szt ?_
            exact step (.deed v) S5 _ _ (sd_deed (by omega)) sk5 s5.kb
          · walk_at "run"
            rw [isSeq_ref]
            refine ⟨⟨_, t4⟩, ?_⟩
            walk_at "run"
            refine use_pour sk4.jg (by omega) fun v S5 v0 v1 jg5 s5 => ?_
            have sk5 := sk4.oth jg5 s5
            obtain ⟨v, rfl⟩ := Int.eq_ofNat_of_zero_le v0
            walk_at "run"
            refine st_append (ft s5.kb) szt ?_
            exact step (.call v) S5 _ _ sd_call sk5 s5.kb
        · walk_at "run"
          rw [isSeq_ref]
          refine ⟨⟨_, t4⟩, ?_⟩
          walk_at "run"
          refine use_pour sk4.jg (by omega) fun v S5 v0 v1 jg5 s5 => ?_
          have sk5 := sk4.oth jg5 s5
          obtain ⟨v, rfl⟩ := Int.eq_ofNat_of_zero_le v0
          walk_at "run"
          refine st_append (ft s5.kb) szt ?_
          exact step (.call v) S5 _ _ sd_call sk5 s5.kb
  · rintro _ S2 ⟨b, x5, x6, x7, bl, hb, t2, sk2, k2, rfl⟩
    walk_at "run"
    refine st_tup_r t2 ?_
    rw [rng_len] at bl
    exact .of (q b S2 ⟨by omega, hb⟩ sk2 k2)
end L3

set_option Elab.async false
set_option maxRecDepth 100000
set_option linter.all false
set_option maxHeartbeats 4000000
namespace L3
open PySem L2 L3.KL
local macro_rules | `(tactic| walk_at "cond") => `(tactic| first | omega | (simp only [List.length_append, List.length_cons, List.length_nil, List.length_take, List.length_drop, List.length_map, List.length_reverse]; omega) | rfl | decide)
local macro_rules | `(tactic| walk_at "side") => `(tactic| first | assumption | omega | (simp only [List.length_append, List.length_cons, List.length_nil, List.length_take, List.length_drop, List.length_map, List.length_reverse, sizeLine_val]; omega) | decide)
local macro_rules | `(tactic| walk_at "st") => `(tactic| first
  | with_reducible refine st_ix0 ?_ | with_reducible refine st_ix1 ?_ | with_reducible refine st_ix2 ?_ | with_reducible refine st_ix3 ?_ | with_reducible refine st_ix4 ?_
  | with_reducible refine st_add_pp (by walk_at "side") ?_ | with_reducible refine st_add_p1 (by walk_at "side") ?_ | with_reducible refine st_add_1p (by walk_at "side") ?_
  | with_reducible refine st_add ?_ | with_reducible refine st_sub ?_ | with_reducible refine st_iadd ?_ | with_reducible refine st_neg ?_
  | with_reducible refine st_len_p ?_ | with_reducible refine st_len_lp ?_ | with_reducible refine st_len_rp ?_ | with_reducible refine st_len_t ?_ | with_reducible refine st_len_l ?_
  | with_reducible refine st_add_t (by walk_at "side") ?_ | with_reducible refine st_add_l (by walk_at "side") ?_ | with_reducible refine st_add_s (by walk_at "side") ?_
  | with_reducible refine st_tru_bl ?_ | with_reducible refine st_tru_int ?_ | with_reducible refine st_tru_tup ?_ | with_reducible refine st_tru_lst ?_ | with_reducible refine st_tru_non ?_
  | with_reducible refine st_at (by assumption) ?_ | with_reducible refine st_atl (by assumption) ?_
  | with_reducible refine st_iteT ?_ | with_reducible refine st_iteF ?_ | with_reducible refine st_not ?_
  | with_reducible refine st_lt ?_ | with_reducible refine st_le ?_ | with_reducible refine st_gt ?_ | with_reducible refine st_ge ?_ | with_reducible refine st_eqi ?_ | with_reducible refine st_nei ?_ | with_reducible refine st_eqs ?_ | with_reducible refine st_nes ?_ | with_reducible refine st_eqb ?_
  | with_reducible refine st_isn_non ?_ | with_reducible refine st_isn_int ?_ | with_reducible refine st_isn_tup ?_ | with_reducible refine st_isn_str ?_ | with_reducible refine st_isn_bl ?_
  | with_reducible refine st_isnt_non ?_ | with_reducible refine st_isnt_int ?_ | with_reducible refine st_isnt_tup ?_ | with_reducible refine st_isnt_str ?_
  | with_reducible refine st_int ?_ | with_reducible refine st_intb ?_ | with_reducible refine st_abs ?_ | with_reducible refine st_min2 ?_ | with_reducible refine st_max2 ?_
  | with_reducible refine st_tup_l ?_ | with_reducible refine st_tup_t ?_ | with_reducible refine st_lst_t ?_ | with_reducible refine st_lst_l ?_
  | with_reducible refine st_sl_from ?_ | with_reducible refine st_sl_to ?_
  | with_reducible refine st_lx0 ?_ | with_reducible refine st_lx1 ?_ | with_reducible refine st_lx2 ?_ | with_reducible refine st_lx3 ?_
  | with_reducible refine st_mod (by walk_at "side") ?_ | with_reducible refine st_div (by walk_at "side") ?_ | with_reducible refine st_mul (by walk_at "side") ?_ | with_reducible refine st_mul' (by walk_at "side") ?_
  | with_reducible refine st_isi rfl ?_
  | (with_reducible refine And.intro (Nat.le_of_ble_eq_true rfl) ?_)
  | (refine And.intro (rfl : (_ : Nat) = _) ?_)
  | with_reducible refine st_dT (by walk_at "cond") ?_ | with_reducible refine st_dF (by walk_at "cond") ?_)
local macro_rules | `(tactic| walk_at "hd") => `(tactic| (with_reducible conv => whnf))
local macro_rules | `(tactic| walk_at "run") => `(tactic| ((with_reducible conv => whnf); repeat (walk_at "st"; (with_reducible conv => whnf))))
/-! ### drawn programs -/
def DlOk (dl : Dl) : Prop := ∀ t ∈ dl, ∃ ms ns : List Int, t.2.1 = .tup (ms.map .int) ∧ ms.length ≤ 6 ∧ t.2.2 = .tup (ns.map .int) ∧ ns.length ≤ 6
theorem str3 {k : Int} (h0 : 0 ≤ k) (h3 : k ≤ 3) : k.natAbs.log2 < 1920 ∧ (Str.ofString (toString k)).length ≤ 10 := by
  have : k = 0 ∨ k = 1 ∨ k = 2 ∨ k = 3 := by omega
  rcases this with rfl | rfl | rfl | rfl <;> decide
theorem lc_deeds {j g : Addr} {kinds : Int} {x1 x3 x5 x6 x7 x8 x9 x10 x11 x12 : Option D} {Q : DK} (hk : 0 < kinds ∧ kinds < 1073741824) : ∀ (L : List D) (acc : Dl) (x4 : Option D) (S : Sto), acc.length + L.length ≤ 3 → (∀ d ∈ L, ∃ k : Int, d = .int k ∧ 0 ≤ k ∧ k ≤ 3) → DlOk acc → Jg S j g →
    (∀ (dl : Dl) S', dl.length ≤ 3 → DlOk dl → Jg S' j g → Oth2 j g S S' → Q (.lst (dl.map fun t => .tup [t.1, t.2.1, t.2.2])) S') →
    lcL (fun _ => True) (dTg (.nm 4)) dYes (dTup (dCons (dOp vAdd (dC (.str "d")) (dCB vStr (dCons (dVar 4) dNil))) (dCons (dCall (a2 sp_law_pile) (dCons (dVar 0) (dCons (dVar 2) dNil))) (dCons (dCall (a2 sp_law_pile) (dCons (dVar 0) (dCons (dVar 2) dNil))) dNil)))) [4] [some (.ref j), x1, some (.int kinds), x3, x4, x5, x6, x7, x8, x9, x10, x11, x12] L (acc.map fun t => .tup [t.1, t.2.1, t.2.2]) S Q
  | [], acc, x4, S, hl, hL, ha, sk, q => ⟨trivial, q acc S (by simp only [List.length_nil] at hl; omega) ha sk .refl⟩
  | d :: r, acc, x4, S, hl, hL, ha, sk, q => by
    rw [List.length_cons] at hl
    obtain ⟨k, rfl, k0, k3⟩ := hL d List.mem_cons_self
    obtain ⟨s1, s2⟩ := str3 k0 k3
    refine ⟨trivial, by rw [List.length_map, sizeLine_v]; omega, ?_⟩
    walk_at "run"
    refine ⟨s1, ?_⟩
    walk_at "run"
    refine ⟨by rw [sizeLine_v]; exact Nat.le_trans (Nat.add_le_add_left s2 _) (by decide), ?_⟩
    walk_at "run"
    refine use_pile sk hk fun m1 S1 sk1 o1 l1 => ?_
    walk_at "run"
    refine use_pile sk1 hk fun m2 S2 sk2 o2 l2 => ?_
    walk_at "run"
    have app : ∀ u : D × D × D, acc.map (fun t => D.tup [t.1, t.2.1, t.2.2]) ++ [.tup [u.1, u.2.1, u.2.2]] = (acc ++ [u]).map fun t => D.tup [t.1, t.2.1, t.2.2] := fun u => by rw [List.map_append]; rfl
    rw [app (_, _, _)]
    refine lc_deeds hk r _ _ S2 (by rw [List.length_append]; simp only [List.length_cons, List.length_nil]; omega) (fun d hd => hL d (List.mem_cons_of_mem _ hd)) (fun t ht => ?_) sk2 fun dl S3 h1 h2 sk3 o3 => q dl S3 h1 h2 sk3 ((o1.trans o2).trans o3)
    rcases List.mem_append.mp ht with ht | ht
    · exact ha t ht
    · rw [List.mem_singleton.mp ht]; exact ⟨m1, m2, rfl, l1, rfl, l2⟩
theorem first_ix {m : Int} : ∀ {ns : List Int}, m ∈ ns → ∃ j : Nat, ns[j]? = some m ∧ ∀ i z, i < j → ns[i]? = some z → z ≠ m
  | n :: ns, h => by
    by_cases e : n = m
    · subst e; exact ⟨0, rfl, fun i z hi => absurd hi (Nat.not_lt_zero _)⟩
    · rcases List.mem_cons.mp h with rfl | h
      · exact absurd rfl e
      obtain ⟨j, h1, h2⟩ := first_ix h
      refine ⟨j + 1, by simpa using h1, fun i z hi hz => ?_⟩
      cases i with
      | zero => simp at hz; subst hz; exact e
      | succ i => exact h2 i z (by omega) (by simpa using hz)
theorem cut_drop {α : Type} (xs : List α) : cut xs none (some (-1)) = xs.dropLast := by
  unfold cut
  rw [List.dropLast_eq_take]
  unfold HT.sIx
  show List.take ((-1 + (xs.length : Int)).toNat - 0) (List.drop 0 xs) = _
  rw [List.drop_zero, show (-1 + (xs.length : Int)).toNat - 0 = xs.length - 1 by omega]
def lens (bs : List (List Stm)) : Nat := (bs.map List.length).sum
theorem lens_set {b : List Stm} : ∀ {bs : List (List Stm)} {j : Nat}, bs[j]? = some b → 0 < b.length → lens bs = lens (bs.set j b.dropLast) + 1
  | c :: bs, 0, h, h0 => by
    simp at h; subst h
    simp only [lens, List.set_cons_zero, List.map_cons, List.sum_cons, List.length_dropLast]
    omega
  | c :: bs, j + 1, h, h0 => by
    have ih := lens_set (bs := bs) (j := j) (by simpa using h) h0
    simp only [lens, List.set_cons_succ, List.map_cons, List.sum_cons] at ih ⊢
    omega
theorem szC_empty : ∀ {bs : List (List Stm)}, (∀ b ∈ bs, b.length = 0) → szC bs = 0
  | [], _ => by rw [szC]
  | b :: bs, h => by
    rw [szC, szC_empty fun c hc => h c (List.mem_cons_of_mem _ hc), List.eq_nil_of_length_eq_zero (h b List.mem_cons_self), szB]
    rfl
def Ka (j g : Addr) (S S' : Sto) : Prop := ∀ a o, a ≠ j → a ≠ g → S a = some o → S' a = some o
def sp_law_program (x y : D) (S : Sto) (Q : DK) : Prop := ∃ (j g : Addr) (n : Int), x = .ref j ∧ y = .int n ∧ Jg S j g ∧
  ∀ k dl nm bs S', dl.length ≤ 3 → DlOk dl → bs.length ≤ 3 → (∀ b ∈ bs, Bd dl.length 4 b) → Jg S' j g → Ka j g S S' → Q (progD k dl nm bs) S'
theorem use_lprogram {j g : Addr} {n : Int} {S : Sto} {Q : DK} (h : Jg S j g) (q : ∀ k dl nm bs S', dl.length ≤ 3 → DlOk dl → bs.length ≤ 3 → (∀ b ∈ bs, Bd dl.length 4 b) → Jg S' j g → Ka j g S S' → Q (progD k dl nm bs) S') : sp_law_program (.ref j) (.int n) S Q := ⟨j, g, n, rfl, rfl, h, q⟩
theorem rngD_mem {n : Nat} (h : n ≤ 3) : ∀ d ∈ rngD 0 n, ∃ k : Int, d = .int k ∧ 0 ≤ k ∧ k ≤ 3 := fun d hd => by
  unfold rngD at hd
  obtain ⟨i, hi, rfl⟩ := List.mem_map.mp hd
  have := List.mem_range.mp hi
  exact ⟨_, rfl, by omega, by omega⟩
theorem lc_names {j g l : Addr} {dl : Dl} {ns : List D} {x1 x2 x4 x7 x9 x10 x11 x12 : Option D} {Q : DK} (hd : dl.length ≤ 3) (hn : 0 < ns.length ∧ ns.length ≤ 3) : ∀ (L : List D) (acc : List (List Stm)) (x8 : Option D) (S : Sto), acc.length + L.length ≤ 3 → (∀ b ∈ acc, Bd dl.length 4 b) → Jl S j g l →
    (∀ (bs : List (List Stm)) S', bs.length ≤ 3 → (∀ b ∈ bs, Bd dl.length 4 b) → Jl S' j g l → Kb j g l S S' → Q (.lst (csD bs)) S') →
    lcL (fun _ => True) (dTg (.nm 8)) dYes (dCall (a4 sp_law_body) (dCons (dVar 0) (dCons (dVar 6) (dCons (dC (.int 4)) (dCons (dTup (dCons (dCB vLen (dCons (dVar 3) dNil)) (dCons (dCB vLen (dCons (dVar 5) dNil)) dNil))) dNil))))) [8]
      [some (.ref j), x1, x2, some (.tup (dl.map fun t => .tup [t.1, t.2.1, t.2.2])), x4, some (.tup ns), some (.ref l), x7, x8, x9, x10, x11, x12] L (csD acc) S Q
  | [], acc, x8, S, hl, ha, sk, q => ⟨trivial, q acc S (by simp only [List.length_nil] at hl; omega) ha sk .refl⟩
  | d :: r, acc, x8, S, hl, ha, sk, q => by
    rw [List.length_cons] at hl
    refine ⟨trivial, by rw [csD_map, List.length_map, sizeLine_v]; omega, ?_⟩
    walk_at "run"
    rw [List.length_map]
    refine use_lbody (e := 4) rfl (by omega) (by omega) (by omega) ⟨hn.1, by omega⟩ sk fun b S1 hb sk1 k1 => ?_
    walk_at "run"
    rw [csD_app]
    refine lc_names hd hn r (acc ++ [b]) _ S1 (by rw [List.length_append]; simp only [List.length_cons, List.length_nil]; omega) (fun c hc => ?_) sk1 fun bs S2 hm hb2 sk2 k2 => ?_
    · rcases List.mem_append.mp hc with hc | hc
      · exact ha c hc
      · rw [List.mem_singleton.mp hc]; exact hb
    exact q bs S2 hm hb2 sk2 (k1.trans k2)
-- _law_program : 0=jug 1=many 2=kinds 3=deeds 4=k 5=names 6=left 7=bodies 8=name 9=body 10=one 11=sizes 12=at
def rd_law_program : DTS :=
    (dSeq (dAsg (dOp vAdd (dC (.int 1)) (dCall (a2 sp_law_pour) (dCons (dVar 0) (dCons (dC (.int 3)) dNil)))) (dTg (.nm 2)))
    (dSeq (dAsg (dCB vTuple (dCons (dLc (iRange1 (dCall (a2 sp_law_pour) (dCons (dVar 0) (dCons (dC (.int 4)) dNil)))) (dTg (.nm 4)) dYes (dTup (dCons (dOp vAdd (dC (.str "d")) (dCB vStr (dCons (dVar 4) dNil))) (dCons (dCall (a2 sp_law_pile) (dCons (dVar 0) (dCons (dVar 2) dNil))) (dCons (dCall (a2 sp_law_pile) (dCons (dVar 0) (dCons (dVar 2) dNil))) dNil)))) [4]) dNil)) (dTg (.nm 3)))
    (dSeq (dAsg (dSl vSl (dTup (dCons (dC (.str "main")) (dCons (dC (.str "f")) (dCons (dC (.str "g")) dNil)))) dNoPart (dPart (dOp vAdd (dC (.int 1)) (dCall (a2 sp_law_pour) (dCons (dVar 0) (dCons (dC (.int 3)) dNil)))))) (dTg (.nm 5)))
    (dSeq (dAsg (dLstM (dCons (dVar 1) dNil)) (dTg (.nm 6)))
    (dSeq (dAsg (dLcM (iTupD (dVar 5)) (dTg (.nm 8)) dYes (dCall (a4 sp_law_body) (dCons (dVar 0) (dCons (dVar 6) (dCons (dC (.int 4)) (dCons (dTup (dCons (dCB vLen (dCons (dVar 3) dNil)) (dCons (dCB vLen (dCons (dVar 5) dNil)) dNil))) dNil))))) [8]) (dTg (.nm 7)))
    (dSeq (dWhile (dTest (dOp vGt (dCB vSum (dCons (dLc (iSeq (dVar 7)) (dTg (.nm 9)) dYes (dCB vSum (dCons (dLc (iTupD (dVar 9)) (dTg (.nm 10)) dYes (dCall (a1 sp_law_size) (dCons (dVar 10) dNil)) [10]) dNil)) [9]) dNil)) (dC (.int 390)))) (dSeq (dAsg (dLcM (iSeq (dVar 7)) (dTg (.nm 9)) dYes (dCB vLen (dCons (dVar 9) dNil)) [9]) (dTg (.nm 11)))
    (dSeq (dAsg (dLM vIndexI (dVar 11) (dCons (dCB vMaxL (dCons (dVar 11) dNil)) dNil)) (dTg (.nm 12)))
    (dAsg (dSl vSl (dOp vIx (dVar 7) (dVar 12)) dNoPart (dPart (dUn vNeg (dC (.int 1))))) (dgSub (dVar 7) (dVar 12))))))
    (dRet (dTup (dCons (dCB vTuple (dCons (dLc (iRange1 (dVar 2)) (dTg (.nm 4)) dYes (dOp vAdd (dC (.str "k")) (dCB vStr (dCons (dVar 4) dNil))) [4]) dNil)) (dCons (dVar 3) (dCons (dVar 5) (dCons (dCB vTuple (dCons (dVar 7) dNil)) dNil))))))))))))
set_option pp.maxSteps 300
theorem rd_law_program_ok : ∀ ds S P, (a2 sp_law_program) ds S P → rd_law_program (DEnds.of P) (dstart ["jug", "many", "kinds", "deeds", "k", "names", "left", "bodies", "name", "body", "one", "sizes", "at"] ds) S := by
  intro ds S P hsp
  rcases ds with _ | ⟨x, _ | ⟨y, _ | ⟨z, ds⟩⟩⟩ <;> first | exact (hsp : False).elim | skip
  obtain ⟨j, g, n, rfl, rfl, jg, q⟩ := (hsp : sp_law_program x y S P)
  unfold rd_law_program
  walk_at "run"
  refine use_pour jg (by omega) fun r S1 r0 r1 jg1 s1 => ?_
  walk_at "run"
  obtain ⟨r, rfl⟩ := Int.eq_ofNat_of_zero_le r0
  refine use_pour jg1 (by omega) fun c S2 c0 c1 jg2 s2 => ?_
  walk_at "run"
  obtain ⟨c, rfl⟩ := Int.eq_ofNat_of_zero_le c0
  refine ⟨by omega, by omega, ?_⟩
  rw [Int.toNat_natCast]
  refine lc_deeds ⟨by omega, by omega⟩ (rngD 0 c) [] _ S2 (by rw [rng_len]; simp only [List.length_nil]; omega) (rngD_mem (by omega)) (fun t h => absurd h List.not_mem_nil) jg2 fun dl S3 d3 dok jg3 s3 => ?_
  walk_at "run"
  refine use_pour jg3 (by omega) fun v S4 v0 v1 jg4 s4 => ?_
  walk_at "run"
  obtain ⟨v, rfl⟩ := Int.eq_ofNat_of_zero_le v0
  refine st_slT ?_
  walk_at "run"
  have hnl : (cut [D.str (Str.ofString "main"), D.str (Str.ofString "f"), D.str (Str.ofString "g")] none (some (1 + (v : Int)))).length = 1 + v := by
    rw [show (1 + (v : Int)) = ((1 + v : Nat) : Int) by omega, cut_to, List.length_take]
    simp only [List.length_cons, List.length_nil]; omega
  generalize cut [D.str (Str.ofString "main"), D.str (Str.ofString "f"), D.str (Str.ofString "g")] none (some (1 + (v : Int))) = nml at hnl
  intro l hl
  have sk5 : Jl (L3.sup S4 l (.lst [.int n])) j g l := ⟨jg4.out (jg4.nj hl) (jg4.ng hl), jg4.nj hl, jg4.ng hl, n, sup_same⟩
  have k5 : Ka j g S (L3.sup S4 l (.lst [.int n])) := fun a o a1 a2 h => sup_new hl (by rw [s4 a a1 a2, s3 a a1 a2, s2 a a1 a2, s1 a a1 a2]; exact h)
  have nl : S l = none := by rw [← s1 l sk5.lj sk5.lg, ← s2 l sk5.lj sk5.lg, ← s3 l sk5.lj sk5.lg, ← s4 l sk5.lj sk5.lg]; exact hl
  walk_at "run"
  refine lc_names d3 (by omega) nml [] _ _ (by rw [hnl]; simp only [List.length_nil]; omega) (fun t h => absurd h List.not_mem_nil) sk5 fun bs S6 b3 hb sk6 k6 => ?_
  have k6' : Ka j g S S6 := fun a o a1 a2 h => k6 a o a1 a2 (fun z => by subst z; rw [nl] at h; cases h) (k5 a o a1 a2 h)
  walk_at "run"
  intro p hp
  walk_at "run"
  rw [csD_map]
  refine ⟨lens bs + 1, whileN_inv (fun mm δ S' => ∃ bs x9 x10 x11 x12, bs.length ≤ 3 ∧ lens bs = mm ∧ (∀ b ∈ bs, Bd dl.length 4 b) ∧ S' p = some (.lst (bs.map fun b => .tup (bD b))) ∧ Jg S' j g ∧ Ka j g S S' ∧
    δ = [some (.ref j), some (.int n), some (.int (1 + r)), some (.tup (dl.map fun t => .tup [t.1, t.2.1, t.2.2])), none, some (.tup nml), some (.ref l), some (.ref p), none, x9, x10, x11, x12]) ?_ _ _ _ ⟨bs, none, none, none, none, b3, rfl, hb, sup_same, sk6.jg.out (sk6.jg.nj hp) (sk6.jg.ng hp), (fun a o a1 a2 h => sup_new hp (k6' a o a1 a2 h)), ?_⟩⟩
  · rintro n2 _ S7 ⟨bs, x9, x10, x11, x12, b3, hn, hb, e7, jg7, k7, rfl⟩ D2 hrt _ hnx _
    walk_at "run"
    rw [it_r e7]
    walk_at "run"
    refine lcL_map (fun b => .tup (bD b)) (fun b => .int (szB b)) e7 bs [] (by rw [sizeLine_v]; simp only [List.length_nil]; omega) (fun b hb_ P' h => ?_) ?_
    · have hbb := hb b hb_
      have h4 := hbb.1
      walk_at "run"
      rw [bD_map]
      refine lcL_map sD (fun s => .int (sz s)) True.intro b [] (by rw [sizeLine_v]; simp only [List.length_nil]; omega) (fun s hs P' h => ?_) ?_
      · walk_at "run"
        have h1 := (hbb.2 s hs).h
        refine use_lsize (by omega) (hbb.2 s hs).br_ ?_
        exact h
      · rw [List.nil_append]
        walk_at "run"
        refine st_sumI (szB_map b) ?_
        exact h
    rw [List.nil_append]
    walk_at "run"
    refine st_sumI (szC_map bs) ?_
    walk_at "run"
    by_cases z : szC bs > 390
    · rw [decide_eq_true z]
      walk_at "run"
      rw [it_r e7]
      walk_at "run"
      refine lcL_map (fun b => .tup (bD b)) (fun b => .int (b.length : Nat)) e7 bs [] (by rw [sizeLine_v]; simp only [List.length_nil]; omega) (fun b hb_ P' h => ?_) ?_
      · walk_at "run"
        rw [bD_map, List.length_map]
        exact h
      rw [List.nil_append]
      walk_at "run"
      intro u hu
      walk_at "run"
      rw [isSeq_ref]
      refine ⟨⟨_, sup_same⟩, ?_⟩
      walk_at "run"
      have eL : bs.map (fun b => D.int (b.length : Nat)) = (bs.map fun b => ((b.length : Nat) : Int)).map .int := by rw [List.map_map]; rfl
      obtain ⟨b0, hb0, hp0⟩ : ∃ b ∈ bs, 0 < b.length := by
        refine Classical.byContradiction fun c => ?_
        have := szC_empty (bs := bs) fun b hb => Classical.byContradiction fun d => c ⟨b, hb, by omega⟩
        omega
      refine ⟨bs.map fun b => ((b.length : Nat) : Int), by rw [seq_r sup_same, eL], by rw [List.length_map]; exact List.length_pos_of_mem hb0, fun m hm hmx => ?_⟩
      walk_at "run"
      obtain ⟨at_, ha, hfirst⟩ := first_ix hm
      refine ⟨bs.map fun b => ((b.length : Nat) : Int), at_, by rw [seq_r sup_same, eL], ha, hfirst, ?_⟩
      obtain ⟨b, hba, hbl⟩ : ∃ b, bs[at_]? = some b ∧ ((b.length : Nat) : Int) = m := by
        rw [List.getElem?_map] at ha
        cases e : bs[at_]? with
        | none => rw [e] at ha; cases ha
        | some b => rw [e] at ha; exact ⟨b, rfl, by simpa using ha⟩
      have hb1 : 0 < b.length := by
        have := hmx _ (List.mem_map.mpr ⟨b0, hb0, rfl⟩)
        omega
      have pu : p ≠ u := fun z => by subst z; rw [e7] at hu; cases hu
      have e8 : (L3.sup S7 u (.lst (bs.map fun b => D.int (b.length : Nat)))) p = some (.lst (bs.map fun b => .tup (bD b))) := by rw [sup_ne pu]; exact e7
      walk_at "run"
      refine st_atr (k := at_) e8 (d := .tup (bD b)) (by rw [List.getElem?_map, hba]; rfl) ?_
      walk_at "run"
      refine st_slT ?_
      rw [cut_drop]
      walk_at "run"
      have al := (List.getElem?_eq_some_iff.mp hba).1
      refine st_setr (b := at_) e8 (by rw [List.length_map]; exact al) ?_
      have es : (bs.map fun b => D.tup (bD b)).set at_ (.tup (bD b).dropLast) = (bs.set at_ b.dropLast).map fun b => .tup (bD b) := by
        rw [List.map_set, bD_map, bD_map, List.map_dropLast]
      rw [es]
      refine hnx (lens (bs.set at_ b.dropLast)) _ _ (by rw [← hn]; exact lens_set hba hb1) ⟨_, _, _, _, _, by rw [List.length_set]; exact b3, rfl, fun c hc => ?_, sup_same, (jg7.out (jg7.nj hu) (jg7.ng hu)).out ?_ ?_, ?_, rfl⟩
      · rcases List.mem_or_eq_of_mem_set hc with hc | rfl
        · exact hb c hc
        · have hbb := hb b (List.mem_of_getElem? hba)
          exact ⟨by rw [List.length_dropLast]; have := hbb.1; omega, fun s hs => hbb.2 s (List.dropLast_subset _ hs)⟩
      · exact sk6.jg.nj hp
      · exact sk6.jg.ng hp
      · intro a o a1 a2 h
        have ap : a ≠ p := fun z => by subst z; rw [k6' a o a1 a2 h] at hp; cases hp
        rw [sup_ne ap]
        exact sup_new hu (k7 a o a1 a2 h)
    · rw [decide_eq_false z]
      walk_at "run"
      refine ⟨by omega, by omega, ?_⟩
      rw [show (1 + (r : Int)).toNat = 1 + r by omega]
      refine lcL_map (fun i : Nat => .int (0 + (i : Nat))) (fun i : Nat => .str (Str.ofString "k" ++ Str.ofString (toString (0 + (i : Int))))) True.intro (List.range (1 + r)) [] (by rw [List.length_range, sizeLine_v]; simp only [List.length_nil]; omega) (fun i hi P' h => ?_) ?_
      · have i3 := List.mem_range.mp hi
        obtain ⟨q1, q2⟩ := str3 (k := 0 + (i : Int)) (by omega) (by omega)
        walk_at "run"
        refine ⟨q1, ?_⟩
        walk_at "run"
        refine ⟨by rw [sizeLine_v]; exact Nat.le_trans (Nat.add_le_add_left q2 _) (by decide), ?_⟩
        exact h
      rw [List.nil_append]
      walk_at "run"
      refine st_tup_r e7 ?_
      walk_at "run"
      exact .of (q _ dl (.tup nml) bs S7 d3 dok b3 hb jg7 k7)
  · rfl
end L3

set_option Elab.async false
set_option maxRecDepth 100000
set_option linter.all false
set_option maxHeartbeats 4000000
namespace L3
open PySem L2 L3.KL
local macro_rules | `(tactic| walk_at "cond") => `(tactic| first | omega | (simp only [List.length_append, List.length_cons, List.length_nil, List.length_take, List.length_drop, List.length_map, List.length_reverse]; omega) | rfl | decide)
local macro_rules | `(tactic| walk_at "side") => `(tactic| first | assumption | omega | (simp only [List.length_append, List.length_cons, List.length_nil, List.length_take, List.length_drop, List.length_map, List.length_reverse, sizeLine_val]; omega) | decide)
local macro_rules | `(tactic| walk_at "st") => `(tactic| first
  | with_reducible refine st_ix0 ?_ | with_reducible refine st_ix1 ?_ | with_reducible refine st_ix2 ?_ | with_reducible refine st_ix3 ?_ | with_reducible refine st_ix4 ?_
  | with_reducible refine st_add_pp (by walk_at "side") ?_ | with_reducible refine st_add_p1 (by walk_at "side") ?_ | with_reducible refine st_add_1p (by walk_at "side") ?_
  | with_reducible refine st_add ?_ | with_reducible refine st_sub ?_ | with_reducible refine st_iadd ?_ | with_reducible refine st_neg ?_
  | with_reducible refine st_len_p ?_ | with_reducible refine st_len_lp ?_ | with_reducible refine st_len_rp ?_ | with_reducible refine st_len_t ?_ | with_reducible refine st_len_l ?_
  | with_reducible refine st_add_t (by walk_at "side") ?_ | with_reducible refine st_add_l (by walk_at "side") ?_ | with_reducible refine st_add_s (by walk_at "side") ?_
  | with_reducible refine st_tru_bl ?_ | with_reducible refine st_tru_int ?_ | with_reducible refine st_tru_tup ?_ | with_reducible refine st_tru_lst ?_ | with_reducible refine st_tru_non ?_
  | with_reducible refine st_at (by assumption) ?_ | with_reducible refine st_atl (by assumption) ?_
  | with_reducible refine st_iteT ?_ | with_reducible refine st_iteF ?_ | with_reducible refine st_not ?_
  | with_reducible refine st_lt ?_ | with_reducible refine st_le ?_ | with_reducible refine st_gt ?_ | with_reducible refine st_ge ?_ | with_reducible refine st_eqi ?_ | with_reducible refine st_nei ?_ | with_reducible refine st_eqs ?_ | with_reducible refine st_nes ?_ | with_reducible refine st_eqb ?_
  | with_reducible refine st_isn_non ?_ | with_reducible refine st_isn_int ?_ | with_reducible refine st_isn_tup ?_ | with_reducible refine st_isn_str ?_ | with_reducible refine st_isn_bl ?_
  | with_reducible refine st_isnt_non ?_ | with_reducible refine st_isnt_int ?_ | with_reducible refine st_isnt_tup ?_ | with_reducible refine st_isnt_str ?_
  | with_reducible refine st_int ?_ | with_reducible refine st_intb ?_ | with_reducible refine st_abs ?_ | with_reducible refine st_min2 ?_ | with_reducible refine st_max2 ?_
  | with_reducible refine st_tup_l ?_ | with_reducible refine st_tup_t ?_ | with_reducible refine st_lst_t ?_ | with_reducible refine st_lst_l ?_
  | with_reducible refine st_sl_from ?_ | with_reducible refine st_sl_to ?_
  | with_reducible refine st_lx0 ?_ | with_reducible refine st_lx1 ?_ | with_reducible refine st_lx2 ?_ | with_reducible refine st_lx3 ?_
  | with_reducible refine st_mod (by walk_at "side") ?_ | with_reducible refine st_div (by walk_at "side") ?_ | with_reducible refine st_mul (by walk_at "side") ?_ | with_reducible refine st_mul' (by walk_at "side") ?_
  | with_reducible refine st_isi rfl ?_
  | (with_reducible refine And.intro (Nat.le_of_ble_eq_true rfl) ?_)
  | (refine And.intro (rfl : (_ : Nat) = _) ?_)
  | with_reducible refine st_dT (by walk_at "cond") ?_ | with_reducible refine st_dF (by walk_at "cond") ?_)
local macro_rules | `(tactic| walk_at "hd") => `(tactic| (with_reducible conv => whnf))
local macro_rules | `(tactic| walk_at "run") => `(tactic| ((with_reducible conv => whnf); repeat (walk_at "st"; (with_reducible conv => whnf))))
/-! ### how big the codes are -/
mutual
theorem rows_br : ∀ (s : Stm) (n T L : Nat), br s = true → ∀ x ∈ rows s n T L, ∀ ts, x = .choose ts → ts.length ≤ 3
  | .deed d, n, T, L, h, x, hx, ts, e => by
    rw [rows] at hx
    rw [List.mem_singleton.mp hx] at e
    cases e
  | .call d, n, T, L, h, x, hx, ts, e => by
    rw [rows] at hx
    rw [List.mem_singleton.mp hx] at e
    cases e
  | .back, n, T, L, h, x, hx, ts, e => by
    rw [rows] at hx
    cases hx
  | .either bs, n, T, L, h, x, hx, ts, e => by
    rw [rows] at hx
    rw [br, Bool.and_eq_true] at h
    rcases List.mem_cons.mp hx with rfl | hx
    · cases e; rw [entC_len]; exact of_decide_eq_true h.1
    · exact rowsC_br bs _ _ _ h.2 x hx ts e
  | .loop b, n, T, L, h, x, hx, ts, e => by
    rw [rows] at hx
    rw [br, Bool.and_eq_true] at h
    rcases List.mem_cons.mp hx with rfl | hx
    · cases e; simp
    · exact rowsB_br b _ _ _ h.2 x hx ts e
  | .rep k b, n, T, L, h, x, hx, ts, e => by
    rw [rows] at hx
    rw [br, Bool.and_eq_true] at h
    obtain ⟨n', T', h1, h2⟩ := mem_lapR hx
    exact rowsB_br b _ _ _ h.2 x h1 ts e
theorem rowsB_br : ∀ (b : List Stm) (n T L : Nat), brB b = true → ∀ x ∈ rowsB b n T L, ∀ ts, x = .choose ts → ts.length ≤ 3
  | [], n, T, L, h, x, hx, ts, e => by rw [rowsB] at hx; cases hx
  | s :: b, n, T, L, h, x, hx, ts, e => by
    rw [rowsB] at hx
    rw [brB, Bool.and_eq_true] at h
    split at hx
    · cases hx
    · rcases List.mem_append.mp hx with hx | hx
      · exact rows_br s _ _ _ h.1 x hx ts e
      · exact rowsB_br b _ _ _ h.2 x hx ts e
theorem rowsC_br : ∀ (bs : List (List Stm)) (n T L : Nat), brC bs = true → ∀ x ∈ rowsC bs n T L, ∀ ts, x = .choose ts → ts.length ≤ 3
  | [], n, T, L, h, x, hx, ts, e => by rw [rowsC] at hx; cases hx
  | b :: bs, n, T, L, h, x, hx, ts, e => by
    rw [rowsC] at hx
    rw [brC, Bool.and_eq_true, Bool.and_eq_true] at h
    rcases List.mem_append.mp hx with hx | hx
    · exact rowsB_br b _ _ _ h.1.2 x hx ts e
    · exact rowsC_br bs _ _ _ h.2 x hx ts e
end
theorem word_br {b : List Stm} (h : brB b = true) : ∀ x ∈ word b, ∀ ts, x = .choose ts → ts.length ≤ 3 := fun x hx ts e => by
  unfold word at hx
  rcases List.mem_append.mp hx with hx | hx
  · exact rowsB_br b _ _ _ h x hx ts e
  · rw [List.mem_singleton.mp hx] at e; cases e
theorem gdL_all : ∀ {ds : List D}, (∀ d ∈ ds, gd d = true) → gdL ds = true
  | [], _ => by rw [gdL]
  | d :: ds, h => by rw [gdL, h d List.mem_cons_self, gdL_all fun e he => h e (List.mem_cons_of_mem _ he)]; rfl
theorem ndL_all {k : Nat} : ∀ {ds : List D}, (∀ d ∈ ds, nds d ≤ k) → ndL ds ≤ ds.length * k
  | [], _ => by rw [ndL]; omega
  | d :: ds, h => by rw [ndL, List.length_cons, Nat.succ_mul]; have := h d List.mem_cons_self; have := ndL_all fun e he => h e (List.mem_cons_of_mem _ he); omega
theorem gd_ints (ms : List Int) : gd (.tup (ms.map .int)) = true := by
  rw [gd]
  exact gdL_all fun d hd => by obtain ⟨m, _, rfl⟩ := List.mem_map.mp hd; rw [gd]
theorem nds_ints (ms : List Int) : nds (.tup (ms.map .int)) ≤ 1 + ms.length := by
  rw [nds]
  have := ndL_all (ds := ms.map D.int) (k := 1) fun d hd => by obtain ⟨m, _, rfl⟩ := List.mem_map.mp hd; rw [nds]; omega
  rw [List.length_map] at this
  omega
theorem gd_tup {ds : List D} (h : ∀ d ∈ ds, gd d = true) : gd (.tup ds) = true := by rw [gd]; exact gdL_all h
theorem nds_tup {ds : List D} {k n : Nat} (hl : ds.length ≤ n) (h : ∀ d ∈ ds, nds d ≤ k) : nds (.tup ds) ≤ 1 + n * k := by
  rw [nds]
  have := ndL_all h
  have := Nat.mul_le_mul_right k hl
  omega
theorem rw_ok {dl : Dl} (dok : DlOk dl) {x : Rw} (h : okR dl.length x) (hc : ∀ ts, x = .choose ts → ts.length ≤ 3) : gd (rwD dl x) = true ∧ nds (rwD dl x) ≤ 20 := by
  cases x with
  | deed d t =>
    obtain ⟨u, hu⟩ : ∃ u, dl[d]? = some u := ⟨_, List.getElem?_eq_getElem h⟩
    obtain ⟨ms, ns, e1, l1, e2, l2⟩ := dok u (List.mem_of_getElem? hu)
    have a1 : offOf dl d = .tup (ms.map .int) := by unfold offOf; rw [hu]; exact e1
    have a2 : onOf dl d = .tup (ns.map .int) := by unfold onOf; rw [hu]; exact e2
    rw [rwD, a1, a2]
    have g1 := gd_ints ms
    have g2 := gd_ints ns
    have n1 := nds_ints ms
    have n2 := nds_ints ns
    constructor
    · rw [gd, gdL, gdL, gdL, gdL, gdL, g1, g2, gd, gd]; rfl
    · rw [nds, ndL, ndL, ndL, ndL, ndL]
      have e3 : nds (.str "deed") = 1 := by rw [nds]
      have e4 : nds (iD t) = 1 := by rw [nds]
      omega
  | call w t =>
    constructor
    · rw [rwD, gd, gdL, gdL, gdL, gdL, gd, gd, gd]; rfl
    · rw [rwD, nds, ndL, ndL, ndL, ndL, nds, nds, nds]; omega
  | choose ts =>
    have h3 := hc ts rfl
    have e : ts.map iD = (ts.map fun n => ((n : Nat) : Int)).map .int := by rw [List.map_map]; rfl
    have g1 := gd_ints (ts.map fun n => ((n : Nat) : Int))
    have n1 := nds_ints (ts.map fun n => ((n : Nat) : Int))
    rw [List.length_map] at n1
    rw [rwD, e]
    constructor
    · rw [gd, gdL, gdL, gdL, g1, gd]; rfl
    · rw [nds, ndL, ndL, ndL]
      have e3 : nds (.str "choose") = 1 := by rw [nds]
      omega
  | ret =>
    constructor
    · rw [rwD, gd, gdL, gdL, gd]; rfl
    · rw [rwD, nds, ndL, ndL, nds]; omega
structure Wk (nd : Nat) (b : List Stm) : Prop where
  ok : okB nd b = true
  h : hB b ≤ 20
  n : nxB b ≤ 113104
  br_ : brB b = true
theorem Wk.fit {nd : Nat} {b : List Stm} (h : Wk nd b) : Fit nd b := ⟨h.ok, h.h, by have := h.n; omega⟩
theorem Wk.of {nd : Nat} {b : List Stm} (h : Bd nd 4 b) : Wk nd b := ⟨h.ok, by have := h.h; omega, h.n, h.br_⟩
theorem word_good {dl : Dl} (dok : DlOk dl) {b : List Stm} (h : Wk dl.length b) : gd (wordD dl b) = true ∧ nds (wordD dl b) ≤ 2262101 := by
  have al : ∀ d ∈ (word b).map (rwD dl), gd d = true ∧ nds d ≤ 20 := fun d hd => by
    obtain ⟨x, hx, rfl⟩ := List.mem_map.mp hd
    exact rw_ok dok (word_ok h.ok x hx).1 (word_br h.br_ x hx)
  refine ⟨gd_tup fun d hd => (al d hd).1, ?_⟩
  refine Nat.le_trans (nds_tup (k := 20) (n := 113105) ?_ fun d hd => (al d hd).2) (by decide)
  rw [List.length_map, word_len]
  have := cntB_nx b
  have := h.n
  omega
theorem code_good {dl : Dl} (dok : DlOk dl) {bs : List (List Stm)} (hl : bs.length ≤ 3) (h : ∀ b ∈ bs, Wk dl.length b) : gd (codeD dl bs) = true ∧ nds (codeD dl bs) ≤ 10000000 := by
  have al : ∀ d ∈ bs.map (wordD dl), gd d = true ∧ nds d ≤ 2262101 := fun d hd => by
    obtain ⟨x, hx, rfl⟩ := List.mem_map.mp hd
    exact word_good dok (h x hx)
  exact ⟨gd_tup fun d hd => (al d hd).1, Nat.le_trans (nds_tup (k := 2262101) (n := 3) (by rw [List.length_map]; exact hl) fun d hd => (al d hd).2) (by decide)⟩
/-! ### what is asked -/
theorem use_rows_number {xs : List (List D)} {S : Sto} {Q : DK} (hl : xs.length ≤ 1000) (q : Q (.int (xs.map fun l => (l.length : Int)).sum) S) : sp_rows_number (.tup (xs.map .tup)) S Q := ⟨xs, rfl, hl, q⟩
def Pk (dl : Dl) (bs : List (List Stm)) : Prop := DlOk dl ∧ bs.length ≤ 3 ∧ ∀ b ∈ bs, Wk dl.length b
def sp_law_asked (x : D) (S : Sto) (Q : DK) : Prop := ∃ k dl nm bs, x = progD k dl nm bs ∧ Pk dl bs ∧ Q (.bl true) S
theorem use_lasked {k : D} {dl : Dl} {nm : D} {bs : List (List Stm)} {S : Sto} {Q : DK} (h : Pk dl bs) (q : Q (.bl true) S) : sp_law_asked (progD k dl nm bs) S Q := ⟨k, dl, nm, bs, rfl, h, q⟩
theorem use_lword {dl : Dl} {b : List Stm} {S : Sto} {Q : DK} (h : Fit dl.length b) (q : Q (wordD dl b) S) : sp_law_word (deedsD dl) (.tup (bD b)) S Q := ⟨dl, b, rfl, rfl, h, q⟩
-- _law_asked : 0=program 1=due 2=body 3=told 4=rows
def rd_law_asked : DTS :=
    (dSeq (dAsg (dCB vTuple (dCons (dLc (iTupD (dOp vIx (dVar 0) (dC (.int 3)))) (dTg (.nm 2)) dYes (dCall (a2 sp_law_word) (dCons (dOp vIx (dVar 0) (dC (.int 1))) (dCons (dVar 2) dNil))) [2]) dNil)) (dTg (.nm 1)))
    (dSeq (dAsg (dCall (a1 sp_code_of) (dCons (dVar 0) dNil)) (dTg (.nm 3)))
    (dRet (dAndV (dCall (a2 sp_law_equal) (dCons (dVar 3) (dCons (dVar 1) dNil))) (dCall (a2 sp_law_equal) (dCons (dCall (a1 sp_rows_number) (dCons (dVar 1) dNil)) (dCons (dCB vSum (dCons (dLc (iTupD (dVar 1)) (dTg (.nm 4)) dYes (dCB vLen (dCons (dVar 4) dNil)) [4]) dNil)) dNil)))))))
set_option pp.maxSteps 300
theorem rd_law_asked_ok : ∀ ds S P, (a1 sp_law_asked) ds S P → rd_law_asked (DEnds.of P) (dstart ["program", "due", "body", "told", "rows"] ds) S := by
  intro ds S P hsp
  rcases ds with _ | ⟨x, _ | ⟨y, ds⟩⟩ <;> first | exact (hsp : False).elim | skip
  obtain ⟨k, dl, nm, bs, rfl, ⟨dok, b3, wk⟩, q⟩ := (hsp : sp_law_asked x S P)
  obtain ⟨g1, g2⟩ := code_good dok b3 wk
  unfold rd_law_asked
  simp only [progD]
  walk_at "run"
  refine lcL_map (fun b => .tup (bD b)) (wordD dl) True.intro bs [] (by rw [sizeLine_v]; simp only [List.length_nil]; omega) (fun b hb P' hP => ?_) ?_
  · walk_at "run"
    exact use_lword (wk b hb).fit hP
  rw [List.nil_append]
  walk_at "run"
  refine use_code_of (k := k) (nm := nm) (by omega) (fun b hb => (wk b hb).fit) ?_
  walk_at "run"
  refine use_equal rfl g1 g2 ?_
  walk_at "run"
  have e : bs.map (wordD dl) = (bs.map fun b => (word b).map (rwD dl)).map .tup := by rw [List.map_map]; rfl
  rw [e]
  refine use_rows_number (by rw [List.length_map]; omega) ?_
  walk_at "run"
  refine lcL_map D.tup (fun l => .int (l.length : Nat)) True.intro (bs.map fun b => (word b).map (rwD dl)) [] (by rw [sizeLine_v, List.length_map]; simp only [List.length_nil]; omega) (fun b hb P' hP => ?_) ?_
  · walk_at "run"
    exact hP
  rw [List.nil_append]
  walk_at "run"
  rw [show ((bs.map fun b => (word b).map (rwD dl)).map fun l => D.int (l.length : Nat)) = ((bs.map fun b => (word b).map (rwD dl)).map fun l => (l.length : Int)).map .int by simp only [List.map_map]; rfl]
  refine st_sumL ?_
  walk_at "run"
  refine use_equal rfl (by rw [gd]) (by rw [nds]; omega) ?_
  exact .of q
/-! ### the wide program -/
def wideB (t p : Nat) : List Stm := [.rep t [.either [[.deed 0], [.call 0, .back, .deed 0], []], .loop [.deed 0, .rep p [.back]], .deed 0], .loop [.rep 2 [.rep 3 [.deed 0, .loop []]]], .call 0]
theorem wide_ok {t p : Nat} (ht : t ≤ 40) (hp : p ≤ 2) : Wk 1 (wideB t p) := by
  have hp' : p = 0 ∨ p = 1 ∨ p = 2 := by omega
  constructor
  · rfl
  · simp only [wideB, hB, hS, hC]; omega
  · rcases hp' with rfl | rfl | rfl
    · simp only [wideB, nxB, nx, nxC, List.length_cons, List.length_nil]; omega
    · simp only [wideB, nxB, nx, nxC, List.length_cons, List.length_nil]; omega
    · simp only [wideB, nxB, nx, nxC, List.length_cons, List.length_nil]; omega
  · simp only [wideB, brB, br, brC, List.length_cons, List.length_nil]
    rw [decide_eq_true (p := (0 + 1 + 1 + 1 ≤ 4 ∧ t ≤ 100)) ⟨by omega, by omega⟩, decide_eq_true (p := (0 + 1 ≤ 4 ∧ p ≤ 100)) ⟨by omega, by omega⟩]
    rfl
def wideD : Dl := [(.str "put", .tup [], .tup [.int 0])]
theorem wide_dok : DlOk wideD := fun t ht => by
  rw [List.mem_singleton.mp ht]
  exact ⟨[], [0], rfl, by decide, rfl, by decide⟩
def sp_law_wide (x : D) (S : Sto) (Q : DK) : Prop := ∃ j g, x = .ref j ∧ Jg S j g ∧ ∀ k dl nm bs S', Pk dl bs → Jg S' j g → Ka j g S S' → Q (progD k dl nm bs) S'
theorem use_lwide {j g : Addr} {S : Sto} {Q : DK} (h : Jg S j g) (q : ∀ k dl nm bs S', Pk dl bs → Jg S' j g → Ka j g S S' → Q (progD k dl nm bs) S') : sp_law_wide (.ref j) S Q := ⟨j, g, rfl, h, q⟩
-- _law_wide : 0=jug 1=some 2=times 3=body
def rd_law_wide : DTS :=
    (dSeq (dAsg (dTup (dCons (dTup (dCons (dC (.str "either")) (dCons (dTup (dCons (dTup (dCons (dTup (dCons (dC (.str "deed")) (dCons (dC (.int 0)) dNil))) dNil)) (dCons (dTup (dCons (dTup (dCons (dC (.str "call")) (dCons (dC (.int 0)) dNil))) (dCons (dTup (dCons (dC (.str "back")) dNil)) (dCons (dTup (dCons (dC (.str "deed")) (dCons (dC (.int 0)) dNil))) dNil)))) (dCons (dTup dNil) dNil)))) dNil))) (dCons (dTup (dCons (dC (.str "loop")) (dCons (dTup (dCons (dTup (dCons (dC (.str "deed")) (dCons (dC (.int 0)) dNil))) (dCons (dTup (dCons (dC (.str "repeat")) (dCons (dCall (a2 sp_law_pour) (dCons (dVar 0) (dCons (dC (.int 3)) dNil))) (dCons (dTup (dCons (dTup (dCons (dC (.str "back")) dNil)) dNil)) dNil)))) dNil))) dNil))) (dCons (dTup (dCons (dC (.str "deed")) (dCons (dC (.int 0)) dNil))) dNil)))) (dTg (.nm 1)))
    (dSeq (dAsg (dOp vAdd (dC (.int 20)) (dCall (a2 sp_law_pour) (dCons (dVar 0) (dCons (dC (.int 12)) dNil)))) (dTg (.nm 2)))
    (dSeq (dAsg (dTup (dCons (dTup (dCons (dC (.str "repeat")) (dCons (dVar 2) (dCons (dVar 1) dNil)))) (dCons (dTup (dCons (dC (.str "loop")) (dCons (dTup (dCons (dTup (dCons (dC (.str "repeat")) (dCons (dC (.int 2)) (dCons (dTup (dCons (dTup (dCons (dC (.str "repeat")) (dCons (dC (.int 3)) (dCons (dTup (dCons (dTup (dCons (dC (.str "deed")) (dCons (dC (.int 0)) dNil))) (dCons (dTup (dCons (dC (.str "loop")) (dCons (dTup dNil) dNil))) dNil))) dNil)))) dNil)) dNil)))) dNil)) dNil))) (dCons (dTup (dCons (dC (.str "call")) (dCons (dC (.int 0)) dNil))) dNil)))) (dTg (.nm 3)))
    (dRet (dTup (dCons (dTup (dCons (dC (.str "a")) dNil)) (dCons (dTup (dCons (dTup (dCons (dC (.str "put")) (dCons (dTup dNil) (dCons (dTup (dCons (dC (.int 0)) dNil)) dNil)))) dNil)) (dCons (dTup (dCons (dC (.str "main")) dNil)) (dCons (dTup (dCons (dVar 3) dNil)) dNil)))))))))
theorem rd_law_wide_ok : ∀ ds S P, (a1 sp_law_wide) ds S P → rd_law_wide (DEnds.of P) (dstart ["jug", "some", "times", "body"] ds) S := by
  intro ds S P hsp
  rcases ds with _ | ⟨x, _ | ⟨y, ds⟩⟩ <;> first | exact (hsp : False).elim | skip
  obtain ⟨j, g, rfl, jg, q⟩ := (hsp : sp_law_wide x S P)
  unfold rd_law_wide
  walk_at "run"
  refine use_pour jg (by omega) fun p S1 p0 p1 jg1 s1 => ?_
  obtain ⟨p, rfl⟩ := Int.eq_ofNat_of_zero_le p0
  walk_at "run"
  refine use_pour jg1 (by omega) fun t S2 t0 t1 jg2 s2 => ?_
  obtain ⟨t, rfl⟩ := Int.eq_ofNat_of_zero_le t0
  walk_at "run"
  have fin := q (.tup [.str "a"]) wideD (.tup [.str "main"]) [wideB (20 + t) p] S2 ⟨wide_dok, by simp, fun b hb => by rw [List.mem_singleton.mp hb]; exact wide_ok (by omega) (by omega)⟩ jg2 (fun a o a1 a2 h => by rw [s2 a a1 a2, s1 a a1 a2]; exact h)
  rw [show (20 + (t : Int)) = ((20 + t : Nat) : Int) by omega]
  exact .of fin
end L3

set_option Elab.async false
set_option maxRecDepth 100000
set_option linter.all false
set_option maxHeartbeats 4000000
namespace L3
open PySem L2 L3.KL
local macro_rules | `(tactic| walk_at "cond") => `(tactic| first | omega | (simp only [List.length_append, List.length_cons, List.length_nil, List.length_take, List.length_drop, List.length_map, List.length_reverse]; omega) | rfl | decide)
local macro_rules | `(tactic| walk_at "side") => `(tactic| first | assumption | omega | (simp only [List.length_append, List.length_cons, List.length_nil, List.length_take, List.length_drop, List.length_map, List.length_reverse, sizeLine_val]; omega) | decide)
local macro_rules | `(tactic| walk_at "st") => `(tactic| first
  | with_reducible refine st_ix0 ?_ | with_reducible refine st_ix1 ?_ | with_reducible refine st_ix2 ?_ | with_reducible refine st_ix3 ?_ | with_reducible refine st_ix4 ?_
  | with_reducible refine st_add_pp (by walk_at "side") ?_ | with_reducible refine st_add_p1 (by walk_at "side") ?_ | with_reducible refine st_add_1p (by walk_at "side") ?_
  | with_reducible refine st_add ?_ | with_reducible refine st_sub ?_ | with_reducible refine st_iadd ?_ | with_reducible refine st_neg ?_
  | with_reducible refine st_len_p ?_ | with_reducible refine st_len_lp ?_ | with_reducible refine st_len_rp ?_ | with_reducible refine st_len_t ?_ | with_reducible refine st_len_l ?_
  | with_reducible refine st_add_t (by walk_at "side") ?_ | with_reducible refine st_add_l (by walk_at "side") ?_ | with_reducible refine st_add_s (by walk_at "side") ?_
  | with_reducible refine st_tru_bl ?_ | with_reducible refine st_tru_int ?_ | with_reducible refine st_tru_tup ?_ | with_reducible refine st_tru_lst ?_ | with_reducible refine st_tru_non ?_
  | with_reducible refine st_at (by assumption) ?_ | with_reducible refine st_atl (by assumption) ?_
  | with_reducible refine st_iteT ?_ | with_reducible refine st_iteF ?_ | with_reducible refine st_not ?_
  | with_reducible refine st_lt ?_ | with_reducible refine st_le ?_ | with_reducible refine st_gt ?_ | with_reducible refine st_ge ?_ | with_reducible refine st_eqi ?_ | with_reducible refine st_nei ?_ | with_reducible refine st_eqs ?_ | with_reducible refine st_nes ?_ | with_reducible refine st_eqb ?_
  | with_reducible refine st_isn_non ?_ | with_reducible refine st_isn_int ?_ | with_reducible refine st_isn_tup ?_ | with_reducible refine st_isn_str ?_ | with_reducible refine st_isn_bl ?_
  | with_reducible refine st_isnt_non ?_ | with_reducible refine st_isnt_int ?_ | with_reducible refine st_isnt_tup ?_ | with_reducible refine st_isnt_str ?_
  | with_reducible refine st_int ?_ | with_reducible refine st_intb ?_ | with_reducible refine st_abs ?_ | with_reducible refine st_min2 ?_ | with_reducible refine st_max2 ?_
  | with_reducible refine st_tup_l ?_ | with_reducible refine st_tup_t ?_ | with_reducible refine st_lst_t ?_ | with_reducible refine st_lst_l ?_
  | with_reducible refine st_sl_from ?_ | with_reducible refine st_sl_to ?_
  | with_reducible refine st_lx0 ?_ | with_reducible refine st_lx1 ?_ | with_reducible refine st_lx2 ?_ | with_reducible refine st_lx3 ?_
  | with_reducible refine st_mod (by walk_at "side") ?_ | with_reducible refine st_div (by walk_at "side") ?_ | with_reducible refine st_mul (by walk_at "side") ?_ | with_reducible refine st_mul' (by walk_at "side") ?_
  | with_reducible refine st_isi rfl ?_
  | (with_reducible refine And.intro (Nat.le_of_ble_eq_true rfl) ?_)
  | (refine And.intro (rfl : (_ : Nat) = _) ?_)
  | with_reducible refine st_dT (by walk_at "cond") ?_ | with_reducible refine st_dF (by walk_at "cond") ?_)
local macro_rules | `(tactic| walk_at "hd") => `(tactic| (with_reducible conv => whnf))
local macro_rules | `(tactic| walk_at "run") => `(tactic| ((with_reducible conv => whnf); repeat (walk_at "st"; (with_reducible conv => whnf))))
/-! ### by hand -/
def handD : Dl := [(.str "off", .tup [.int 0], .tup []), (.str "put", .tup [], .tup [.int 0])]
def o0 : Stm := .deed 0
def handB : List (List Stm) :=
  [[], [.back, o0], [o0, .back, o0], [.loop []], [.loop [.back], o0],
   [.either [[], [o0]], o0], [.either [[.back], [o0, .back]], o0],
   [.rep 2 [o0, .back], o0], [.rep 2 [.back, o0], o0], [.rep 0 [o0], .rep 3 [.rep 2 []], o0],
   [.rep 2 [.either [[], [o0]]]], [.loop [o0, .call 0]],
   [.rep 1 [.rep 0 [o0], .rep 2 [.back]], o0], [.loop [.rep 0 [o0]], o0],
   [.either [[.rep 3 [.back]], [.loop [o0, .back, o0]]]], [o0, .rep 1 [.back], o0]]
def handR (b : List Stm) : D := .tup [.tup (bD b), wordD handD b]
theorem hand_dok : DlOk handD := fun t ht => by
  rcases List.mem_cons.mp ht with rfl | ht
  · exact ⟨[0], [], rfl, by decide, rfl, by decide⟩
  · rw [List.mem_singleton.mp ht]
    exact ⟨[], [0], rfl, by decide, rfl, by decide⟩
def wkT (b : List Stm) : Bool := okB 2 b && decide (hB b ≤ 20) && decide (nxB b ≤ 113104) && brB b
theorem wk_t {b : List Stm} (h : wkT b = true) : Wk 2 b := by
  unfold wkT at h
  simp only [Bool.and_eq_true, decide_eq_true_eq] at h
  exact ⟨h.1.1.1, h.1.1.2, h.1.2, h.2⟩
theorem hand_all : handB.all wkT = true := by rfl
theorem hand_wk {b : List Stm} (h : b ∈ handB) : Wk handD.length b := wk_t (List.all_eq_true.mp hand_all b h)
def sp_law_hand (x : D) (S : Sto) (Q : DK) : Prop := ∃ j g, x = .ref j ∧ Jg S j g ∧ ∀ S', Jg S' j g → Ka j g S S' → Q (.bl true) S'
theorem use_lhand {j g : Addr} {S : Sto} {Q : DK} (h : Jg S j g) (q : ∀ S', Jg S' j g → Ka j g S S' → Q (.bl true) S') : sp_law_hand (.ref j) S Q := ⟨j, g, rfl, h, q⟩
-- _law_hand : 0=jug 1=deeds 2=off 3=back 4=end 5=a 6=at 7=rows 8=body 9=due 10=other 11=last 12=program
def rd_law_hand : DTS :=
    (dSeq (dAsg (dTup (dCons (dTup (dCons (dC (.str "off")) (dCons (dTup (dCons (dC (.int 0)) dNil)) (dCons (dTup dNil) dNil)))) (dCons (dTup (dCons (dC (.str "put")) (dCons (dTup dNil) (dCons (dTup (dCons (dC (.int 0)) dNil)) dNil)))) dNil))) (dTg (.nm 1)))
    (dSeq (dAsg (dTup (dCons (dTup (dCons (dC (.str "deed")) (dCons (dC (.int 0)) dNil))) (dCons (dTup (dCons (dC (.str "back")) dNil)) dNil))) (dTg (.tp [2, 3])))
    (dSeq (dAsg (dTup (dCons (dC (.str "return")) dNil)) (dTg (.nm 4)))
    (dSeq (dAsg (dLc (iRange1 (dC (.int 5))) (dTg (.nm 6)) dYes (dTup (dCons (dC (.str "deed")) (dCons (dTup (dCons (dC (.int 0)) dNil)) (dCons (dTup dNil) (dCons (dVar 6) dNil))))) [6]) (dTg (.nm 5)))
    (dSeq (dAsg (dLst (dCons (dTup (dCons (dTup dNil) (dCons (dTup (dCons (dVar 4) dNil)) dNil))) (dCons (dTup (dCons (dTup (dCons (dVar 3) (dCons (dVar 2) dNil))) (dCons (dTup (dCons (dVar 4) dNil)) dNil))) (dCons (dTup (dCons (dTup (dCons (dVar 2) (dCons (dVar 3) (dCons (dVar 2) dNil)))) (dCons (dTup (dCons (dOp vIx (dVar 5) (dC (.int 1))) (dCons (dVar 4) dNil))) dNil))) (dCons (dTup (dCons (dTup (dCons (dTup (dCons (dC (.str "loop")) (dCons (dTup dNil) dNil))) dNil)) (dCons (dTup (dCons (dTup (dCons (dC (.str "choose")) (dCons (dTup (dCons (dC (.int 0)) (dCons (dC (.int 1)) dNil))) dNil))) (dCons (dVar 4) dNil))) dNil))) (dCons (dTup (dCons (dTup (dCons (dTup (dCons (dC (.str "loop")) (dCons (dTup (dCons (dVar 3) dNil)) dNil))) (dCons (dVar 2) dNil))) (dCons (dTup (dCons (dTup (dCons (dC (.str "choose")) (dCons (dTup (dCons (dC (.int 2)) (dCons (dC (.int 1)) dNil))) dNil))) (dCons (dOp vIx (dVar 5) (dC (.int 2))) (dCons (dVar 4) dNil)))) dNil))) dNil)))))) (dTg (.nm 7)))
    (dSeq (dAsg (dOp vAdd (dVar 7) (dLst (dCons (dTup (dCons (dTup (dCons (dTup (dCons (dC (.str "either")) (dCons (dTup (dCons (dTup dNil) (dCons (dTup (dCons (dVar 2) dNil)) dNil))) dNil))) (dCons (dVar 2) dNil))) (dCons (dTup (dCons (dTup (dCons (dC (.str "choose")) (dCons (dTup (dCons (dC (.int 2)) (dCons (dC (.int 1)) dNil))) dNil))) (dCons (dOp vIx (dVar 5) (dC (.int 2))) (dCons (dOp vIx (dVar 5) (dC (.int 3))) (dCons (dVar 4) dNil))))) dNil))) (dCons (dTup (dCons (dTup (dCons (dTup (dCons (dC (.str "either")) (dCons (dTup (dCons (dTup (dCons (dVar 3) dNil)) (dCons (dTup (dCons (dVar 2) (dCons (dVar 3) dNil))) dNil))) dNil))) (dCons (dVar 2) dNil))) (dCons (dTup (dCons (dTup (dCons (dC (.str "choose")) (dCons (dTup (dCons (dC (.int 3)) (dCons (dC (.int 1)) dNil))) dNil))) (dCons (dOp vIx (dVar 5) (dC (.int 3))) (dCons (dOp vIx (dVar 5) (dC (.int 3))) (dCons (dVar 4) dNil))))) dNil))) dNil)))) (dTg (.nm 7)))
    (dSeq (dAsg (dOp vAdd (dVar 7) (dLst (dCons (dTup (dCons (dTup (dCons (dTup (dCons (dC (.str "repeat")) (dCons (dC (.int 2)) (dCons (dTup (dCons (dVar 2) (dCons (dVar 3) dNil))) dNil)))) (dCons (dVar 2) dNil))) (dCons (dTup (dCons (dOp vIx (dVar 5) (dC (.int 3))) (dCons (dOp vIx (dVar 5) (dC (.int 3))) (dCons (dOp vIx (dVar 5) (dC (.int 3))) (dCons (dVar 4) dNil))))) dNil))) (dCons (dTup (dCons (dTup (dCons (dTup (dCons (dC (.str "repeat")) (dCons (dC (.int 2)) (dCons (dTup (dCons (dVar 3) (dCons (dVar 2) dNil))) dNil)))) (dCons (dVar 2) dNil))) (dCons (dTup (dCons (dVar 4) dNil)) dNil))) (dCons (dTup (dCons (dTup (dCons (dTup (dCons (dC (.str "repeat")) (dCons (dC (.int 0)) (dCons (dTup (dCons (dVar 2) dNil)) dNil)))) (dCons (dTup (dCons (dC (.str "repeat")) (dCons (dC (.int 3)) (dCons (dTup (dCons (dTup (dCons (dC (.str "repeat")) (dCons (dC (.int 2)) (dCons (dTup dNil) dNil)))) dNil)) dNil)))) (dCons (dVar 2) dNil)))) (dCons (dTup (dCons (dOp vIx (dVar 5) (dC (.int 1))) (dCons (dVar 4) dNil))) dNil))) dNil))))) (dTg (.nm 7)))
    (dSeq (dAsg (dOp vAdd (dVar 7) (dLst (dCons (dTup (dCons (dTup (dCons (dTup (dCons (dC (.str "repeat")) (dCons (dC (.int 2)) (dCons (dTup (dCons (dTup (dCons (dC (.str "either")) (dCons (dTup (dCons (dTup dNil) (dCons (dTup (dCons (dVar 2) dNil)) dNil))) dNil))) dNil)) dNil)))) dNil)) (dCons (dTup (dCons (dTup (dCons (dC (.str "choose")) (dCons (dTup (dCons (dC (.int 2)) (dCons (dC (.int 1)) dNil))) dNil))) (dCons (dOp vIx (dVar 5) (dC (.int 2))) (dCons (dTup (dCons (dC (.str "choose")) (dCons (dTup (dCons (dC (.int 4)) (dCons (dC (.int 3)) dNil))) dNil))) (dCons (dOp vIx (dVar 5) (dC (.int 4))) (dCons (dVar 4) dNil)))))) dNil))) (dCons (dTup (dCons (dTup (dCons (dTup (dCons (dC (.str "loop")) (dCons (dTup (dCons (dVar 2) (dCons (dTup (dCons (dC (.str "call")) (dCons (dC (.int 0)) dNil))) dNil))) dNil))) dNil)) (dCons (dTup (dCons (dTup (dCons (dC (.str "choose")) (dCons (dTup (dCons (dC (.int 1)) (dCons (dC (.int 3)) dNil))) dNil))) (dCons (dOp vIx (dVar 5) (dC (.int 2))) (dCons (dTup (dCons (dC (.str "call")) (dCons (dC (.int 0)) (dCons (dC (.int 0)) dNil)))) (dCons (dVar 4) dNil))))) dNil))) dNil)))) (dTg (.nm 7)))
    (dSeq (dAsg (dOp vAdd (dVar 7) (dLst (dCons (dTup (dCons (dTup (dCons (dTup (dCons (dC (.str "repeat")) (dCons (dC (.int 1)) (dCons (dTup (dCons (dTup (dCons (dC (.str "repeat")) (dCons (dC (.int 0)) (dCons (dTup (dCons (dVar 2) dNil)) dNil)))) (dCons (dTup (dCons (dC (.str "repeat")) (dCons (dC (.int 2)) (dCons (dTup (dCons (dVar 3) dNil)) dNil)))) dNil))) dNil)))) (dCons (dVar 2) dNil))) (dCons (dTup (dCons (dVar 4) dNil)) dNil))) (dCons (dTup (dCons (dTup (dCons (dTup (dCons (dC (.str "loop")) (dCons (dTup (dCons (dTup (dCons (dC (.str "repeat")) (dCons (dC (.int 0)) (dCons (dTup (dCons (dVar 2) dNil)) dNil)))) dNil)) dNil))) (dCons (dVar 2) dNil))) (dCons (dTup (dCons (dTup (dCons (dC (.str "choose")) (dCons (dTup (dCons (dC (.int 0)) (dCons (dC (.int 1)) dNil))) dNil))) (dCons (dOp vIx (dVar 5) (dC (.int 2))) (dCons (dVar 4) dNil)))) dNil))) dNil)))) (dTg (.nm 7)))
    (dSeq (dAsg (dOp vAdd (dVar 7) (dLst (dCons (dTup (dCons (dTup (dCons (dTup (dCons (dC (.str "either")) (dCons (dTup (dCons (dTup (dCons (dTup (dCons (dC (.str "repeat")) (dCons (dC (.int 3)) (dCons (dTup (dCons (dVar 3) dNil)) dNil)))) dNil)) (dCons (dTup (dCons (dTup (dCons (dC (.str "loop")) (dCons (dTup (dCons (dVar 2) (dCons (dVar 3) (dCons (dVar 2) dNil)))) dNil))) dNil)) dNil))) dNil))) dNil)) (dCons (dTup (dCons (dTup (dCons (dC (.str "choose")) (dCons (dTup (dCons (dC (.int 3)) (dCons (dC (.int 1)) dNil))) dNil))) (dCons (dTup (dCons (dC (.str "choose")) (dCons (dTup (dCons (dC (.int 2)) (dCons (dC (.int 3)) dNil))) dNil))) (dCons (dOp vIx (dVar 5) (dC (.int 3))) (dCons (dVar 4) dNil))))) dNil))) (dCons (dTup (dCons (dTup (dCons (dVar 2) (dCons (dTup (dCons (dC (.str "repeat")) (dCons (dC (.int 1)) (dCons (dTup (dCons (dVar 3) dNil)) dNil)))) (dCons (dVar 2) dNil)))) (dCons (dTup (dCons (dOp vIx (dVar 5) (dC (.int 1))) (dCons (dVar 4) dNil))) dNil))) dNil)))) (dTg (.nm 7)))
    (dSeq (dFor (iSeq (dVar 7)) (dTg (.tp [8, 9])) (dIf (dOr (dNot (dTest (dCall (a2 sp_law_equal) (dCons (dCall (a2 sp_law_word) (dCons (dVar 1) (dCons (dVar 8) dNil))) (dCons (dVar 9) dNil))))) (dNot (dTest (dCall (a2 sp_law_equal) (dCons (dCall (a1 sp_code_of) (dCons (dTup (dCons (dTup (dCons (dC (.str "a")) dNil)) (dCons (dVar 1) (dCons (dTup (dCons (dC (.str "main")) dNil)) (dCons (dTup (dCons (dVar 8) dNil)) dNil))))) dNil)) (dCons (dTup (dCons (dVar 9) dNil)) dNil)))))) (dRet (dC (.bl false))) dNext))
    (dSeq (dAsg (dOp vIx (dVar 7) (dCall (a2 sp_law_pour) (dCons (dVar 0) (dCons (dCB vLen (dCons (dVar 7) dNil)) dNil)))) (dTg (.tp [8, 9])))
    (dSeq (dAsg (dOp vIx (dVar 7) (dCall (a2 sp_law_pour) (dCons (dVar 0) (dCons (dCB vLen (dCons (dVar 7) dNil)) dNil)))) (dTg (.tp [10, 11])))
    (dSeq (dAsg (dTup (dCons (dTup (dCons (dC (.str "a")) dNil)) (dCons (dVar 1) (dCons (dTup (dCons (dC (.str "f")) (dCons (dC (.str "main")) dNil))) (dCons (dTup (dCons (dVar 8) (dCons (dVar 10) dNil))) dNil))))) (dTg (.nm 12)))
    (dRet (dAndV (dCall (a2 sp_law_equal) (dCons (dCall (kw1 (fun x0 => [x0]) (a1 sp_code_of)) (dCons (dVar 12) dNil)) (dCons (dTup (dCons (dVar 9) (dCons (dVar 11) dNil))) dNil))) (dCall (a2 sp_law_equal) (dCons (dCall (kw1 (fun x0 => [x0]) (a1 sp_rows_number)) (dCons (dTup (dCons (dVar 9) (dCons (dVar 11) dNil))) dNil)) (dCons (dOp vAdd (dCB vLen (dCons (dVar 9) dNil)) (dCB vLen (dCons (dVar 11) dNil))) dNil)))))))))))))))))))
set_option pp.maxSteps 600
theorem rd_law_hand_ok : ∀ ds S P, (a1 sp_law_hand) ds S P → rd_law_hand (DEnds.of P) (dstart ["jug", "deeds", "off", "back", "end", "a", "at", "rows", "body", "due", "other", "last", "program"] ds) S := by
  intro ds S P hsp
  rcases ds with _ | ⟨x, _ | ⟨y, ds⟩⟩ <;> first | exact (hsp : False).elim | skip
  obtain ⟨j, g, rfl, jg, q⟩ := (hsp : sp_law_hand x S P)
  unfold rd_law_hand
  walk_at "run"
  refine ⟨by decide, by decide, ?_⟩
  refine lcL_map (fun i : Nat => .int (0 + (i : Nat))) (fun i : Nat => .tup [.str "deed", .tup [.int 0], .tup [], .int (0 + (i : Nat))]) True.intro (List.range 5) [] (by rw [sizeLine_v]; decide) (fun i hi P' h => ?_) ?_
  · walk_at "run"
    exact h
  rw [List.nil_append, show (List.range 5).map (fun i : Nat => D.tup [.str "deed", .tup [.int 0], .tup [], .int (0 + (i : Nat))]) = [.tup [.str "deed", .tup [.int 0], .tup [], .int 0], .tup [.str "deed", .tup [.int 0], .tup [], .int 1], .tup [.str "deed", .tup [.int 0], .tup [], .int 2], .tup [.str "deed", .tup [.int 0], .tup [], .int 3], .tup [.str "deed", .tup [.int 0], .tup [], .int 4]] from rfl]
  walk_at "run"
  refine st_ixl (d := .tup [.str "deed", .tup [.int 0], .tup [], .int 4]) rfl ?_
  walk_at "run"
  refine forL_inv (fun i δ S' => S' = S ∧ ∃ x8 x9, δ = [some (.ref j), some (deedsD handD), some (.tup [.str "deed", .int 0]), some (.tup [.str "back"]), some (.tup [.str "return"]), some (.lst [.tup [.str "deed", .tup [.int 0], .tup [], .int 0], .tup [.str "deed", .tup [.int 0], .tup [], .int 1], .tup [.str "deed", .tup [.int 0], .tup [], .int 2], .tup [.str "deed", .tup [.int 0], .tup [], .int 3], .tup [.str "deed", .tup [.int 0], .tup [], .int 4]]), none, some (.lst (handB.map handR)), x8, x9, none, none, none]) (fun _ _ _ _ => True.intro) (handB.map handR) 0 _ _ ⟨rfl, none, none, rfl⟩ ?_ ?_
  · rintro i dv _ _ hi ⟨rfl, x8, x9, rfl⟩ D2 hrt _ hnx _
    obtain ⟨b, hb, rfl⟩ : ∃ b, handB[i]? = some b ∧ handR b = dv := by
      rw [List.getElem?_map] at hi
      cases e : handB[i]? with
      | none => rw [e] at hi; cases hi
      | some b => rw [e] at hi; exact ⟨b, rfl, by simpa using hi⟩
    have wk := hand_wk (List.mem_of_getElem? hb)
    obtain ⟨g1, g2⟩ := word_good hand_dok wk
    obtain ⟨g3, g4⟩ := code_good hand_dok (bs := [b]) (by simp) fun c hc => by rw [List.mem_singleton.mp hc]; exact wk
    simp only [handR]
    walk_at "run"
    refine use_lword (dl := handD) wk.fit ?_
    walk_at "run"
    refine use_equal rfl g1 (by omega) ?_
    walk_at "run"
    refine use_code_of (k := .tup [.str "a"]) (dl := handD) (nm := .tup [.str "main"]) (bs := [b]) (by simp) (fun c hc => by rw [List.mem_singleton.mp hc]; exact wk.fit) ?_
    walk_at "run"
    refine use_equal rfl g3 g4 ?_
    walk_at "run"
    exact hnx _ _ ⟨rfl, _, _, rfl⟩
  · rintro _ _ ⟨rfl, x8, x9, rfl⟩
    walk_at "run"
    rw [show ((List.map handR handB).length : Int) = 16 from rfl]
    refine use_pour jg (by omega) fun v S1 v0 v1 jg1 s1 => ?_
    obtain ⟨v, rfl⟩ := Int.eq_ofNat_of_zero_le v0
    obtain ⟨b, hb⟩ : ∃ b, handB[v]? = some b := ⟨_, List.getElem?_eq_getElem (show v < 16 by omega)⟩
    refine st_ixl (d := handR b) (by rw [atI_nat, List.getElem?_map, hb]; rfl) ?_
    simp only [handR]
    walk_at "run"
    rw [show ((List.map handR handB).length : Int) = 16 from rfl]
    refine use_pour jg1 (by omega) fun u S2 u0 u1 jg2 s2 => ?_
    obtain ⟨u, rfl⟩ := Int.eq_ofNat_of_zero_le u0
    obtain ⟨c, hc⟩ : ∃ b, handB[u]? = some b := ⟨_, List.getElem?_eq_getElem (show u < 16 by omega)⟩
    refine st_ixl (d := handR c) (by rw [atI_nat, List.getElem?_map, hc]; rfl) ?_
    simp only [handR]
    have wk : ∀ d ∈ [b, c], Wk handD.length d := fun d hd => by
      rcases List.mem_cons.mp hd with rfl | hd
      · exact hand_wk (List.mem_of_getElem? hb)
      · rw [List.mem_singleton.mp hd]; exact hand_wk (List.mem_of_getElem? hc)
    obtain ⟨g3, g4⟩ := code_good hand_dok (bs := [b, c]) (by simp) wk
    walk_at "run"
    refine use_code_of (k := .tup [.str "a"]) (dl := handD) (nm := .tup [.str "f", .str "main"]) (bs := [b, c]) (by simp) (fun d hd => (wk d hd).fit) ?_
    walk_at "run"
    refine use_equal rfl g3 g4 ?_
    walk_at "run"
    refine use_rows_number (xs := [(word b).map (rwD handD), (word c).map (rwD handD)]) (by simp) ?_
    simp only [wordD]
    walk_at "run"
    refine use_equal ?_ (by rw [gd]) (by rw [nds]; omega) ?_
    · simp only [List.map_cons, List.map_nil, List.sum_cons, List.sum_nil, Int.add_zero]
    walk_at "run"
    exact .of (q S2 jg2 fun a o a1 a2 h => by rw [s2 a a1 a2, s1 a a1 a2]; exact h)
end L3

set_option Elab.async false
set_option maxRecDepth 100000
set_option linter.all false
set_option maxHeartbeats 4000000
namespace L3
open PySem L2 L3.KL
local macro_rules | `(tactic| walk_at "cond") => `(tactic| first | omega | (simp only [List.length_append, List.length_cons, List.length_nil, List.length_take, List.length_drop, List.length_map, List.length_reverse]; omega) | rfl | decide)
local macro_rules | `(tactic| walk_at "side") => `(tactic| first | assumption | omega | (simp only [List.length_append, List.length_cons, List.length_nil, List.length_take, List.length_drop, List.length_map, List.length_reverse, sizeLine_val]; omega) | decide)
local macro_rules | `(tactic| walk_at "st") => `(tactic| first
  | with_reducible refine st_ix0 ?_ | with_reducible refine st_ix1 ?_ | with_reducible refine st_ix2 ?_ | with_reducible refine st_ix3 ?_ | with_reducible refine st_ix4 ?_
  | with_reducible refine st_add_pp (by walk_at "side") ?_ | with_reducible refine st_add_p1 (by walk_at "side") ?_ | with_reducible refine st_add_1p (by walk_at "side") ?_
  | with_reducible refine st_add ?_ | with_reducible refine st_sub ?_ | with_reducible refine st_iadd ?_ | with_reducible refine st_neg ?_
  | with_reducible refine st_len_p ?_ | with_reducible refine st_len_lp ?_ | with_reducible refine st_len_rp ?_ | with_reducible refine st_len_t ?_ | with_reducible refine st_len_l ?_
  | with_reducible refine st_add_t (by walk_at "side") ?_ | with_reducible refine st_add_l (by walk_at "side") ?_ | with_reducible refine st_add_s (by walk_at "side") ?_
  | with_reducible refine st_tru_bl ?_ | with_reducible refine st_tru_int ?_ | with_reducible refine st_tru_tup ?_ | with_reducible refine st_tru_lst ?_ | with_reducible refine st_tru_non ?_
  | with_reducible refine st_at (by assumption) ?_ | with_reducible refine st_atl (by assumption) ?_
  | with_reducible refine st_iteT ?_ | with_reducible refine st_iteF ?_ | with_reducible refine st_not ?_
  | with_reducible refine st_lt ?_ | with_reducible refine st_le ?_ | with_reducible refine st_gt ?_ | with_reducible refine st_ge ?_ | with_reducible refine st_eqi ?_ | with_reducible refine st_nei ?_ | with_reducible refine st_eqs ?_ | with_reducible refine st_nes ?_ | with_reducible refine st_eqb ?_
  | with_reducible refine st_isn_non ?_ | with_reducible refine st_isn_int ?_ | with_reducible refine st_isn_tup ?_ | with_reducible refine st_isn_str ?_ | with_reducible refine st_isn_bl ?_
  | with_reducible refine st_isnt_non ?_ | with_reducible refine st_isnt_int ?_ | with_reducible refine st_isnt_tup ?_ | with_reducible refine st_isnt_str ?_
  | with_reducible refine st_int ?_ | with_reducible refine st_intb ?_ | with_reducible refine st_abs ?_ | with_reducible refine st_min2 ?_ | with_reducible refine st_max2 ?_
  | with_reducible refine st_tup_l ?_ | with_reducible refine st_tup_t ?_ | with_reducible refine st_lst_t ?_ | with_reducible refine st_lst_l ?_
  | with_reducible refine st_sl_from ?_ | with_reducible refine st_sl_to ?_
  | with_reducible refine st_lx0 ?_ | with_reducible refine st_lx1 ?_ | with_reducible refine st_lx2 ?_ | with_reducible refine st_lx3 ?_
  | with_reducible refine st_mod (by walk_at "side") ?_ | with_reducible refine st_div (by walk_at "side") ?_ | with_reducible refine st_mul (by walk_at "side") ?_ | with_reducible refine st_mul' (by walk_at "side") ?_
  | with_reducible refine st_isi rfl ?_
  | (with_reducible refine And.intro (Nat.le_of_ble_eq_true rfl) ?_)
  | (refine And.intro (rfl : (_ : Nat) = _) ?_)
  | with_reducible refine st_dT (by walk_at "cond") ?_ | with_reducible refine st_dF (by walk_at "cond") ?_)
local macro_rules | `(tactic| walk_at "hd") => `(tactic| (with_reducible conv => whnf))
local macro_rules | `(tactic| walk_at "run") => `(tactic| ((with_reducible conv => whnf); repeat (walk_at "st"; (with_reducible conv => whnf))))
theorem mem4 {j : Nat} (h : j < 4) : ∃ n : Int, ([.int 8, .int 14, .int 20, .int 30] : List D)[j]? = some (.int n) := by
  have e : j = 0 ∨ j = 1 ∨ j = 2 ∨ j = 3 := by omega
  rcases e with rfl | rfl | rfl | rfl
  · exact ⟨8, rfl⟩
  · exact ⟨14, rfl⟩
  · exact ⟨20, rfl⟩
  · exact ⟨30, rfl⟩
-- law : 0=script 1=jug 2=lap
def rd_law : DTS :=
    (dSeq (dAsg (dCall (a1 sp_law_churn) (dCons (dVar 0) dNil)) (dTg (.nm 1)))
    (dSeq (dIf (dNot (dTest (dCall (a1 sp_law_hand) (dCons (dVar 1) dNil)))) (dRet (dC (.bl false))) dNext)
    (dSeq (dFor (iRange1 (dC (.int 4))) (dTg (.nm 2)) (dIf (dNot (dTest (dCall (a1 sp_law_asked) (dCons (dCall (a2 sp_law_program) (dCons (dVar 1) (dCons (dOp vIx (dTup (dCons (dC (.int 8)) (dCons (dC (.int 14)) (dCons (dC (.int 20)) (dCons (dC (.int 30)) dNil))))) (dVar 2)) dNil))) dNil)))) (dRet (dC (.bl false))) dNext))
    (dRet (dOrV (dOp vNe (dCall (a2 sp_law_pour) (dCons (dVar 1) (dCons (dC (.int 11)) dNil))) (dC (.int 4))) (dCall (a1 sp_law_asked) (dCons (dCall (a1 sp_law_wide) (dCons (dVar 1) dNil)) dNil)))))))
set_option pp.maxSteps 300
theorem rd_law_ok : ∀ ds S P, spTrue ds S P → rd_law (DEnds.of P) (dstart ["script", "jug", "lap"] ds) S := by
  rintro ds S P ⟨ns, rfl, hl, q⟩
  unfold rd_law
  walk_at "run"
  refine use_churn hl fun j g S0 jg => ?_
  walk_at "run"
  refine use_lhand jg fun S1 jg1 k1 => ?_
  walk_at "run"
  refine ⟨by decide, by decide, ?_⟩
  refine forL_inv (fun i δ S' => Jg S' j g ∧ ∃ x2, δ = [some (.ro (ns.map .int)), some (.ref j), x2]) (fun _ _ _ _ => True.intro) _ 0 _ _ ⟨jg1, none, rfl⟩ ?_ ?_
  · rintro i d _ S3 hj ⟨jg3, x2, rfl⟩ D2 hrt _ hnx _
    obtain ⟨hk, rfl⟩ := rng_at hj
    obtain ⟨n, hn⟩ := mem4 (j := i) hk
    walk_at "run"
    refine use_lprogram jg3 fun k dl nm bs S4 d3 dok b3 hb jg4 k4 => ?_
    walk_at "run"
    refine use_lasked ⟨dok, b3, fun b h => .of (hb b h)⟩ ?_
    walk_at "run"
    exact hnx _ _ ⟨jg4, _, rfl⟩
  · rintro _ S3 ⟨jg3, x2, rfl⟩
    walk_at "run"
    refine use_pour jg3 (by omega) fun r S4 r0 r1 jg4 s4 => ?_
    walk_at "run"
    by_cases z : r = 4
    · walk_at "run"
      refine use_lwide jg4 fun k dl nm bs S5 pk jg5 k5 => ?_
      walk_at "run"
      refine use_lasked pk ?_
      exact .of (q _)
    · walk_at "run"
      exact .of (q _)
end L3

set_option Elab.async false
set_option maxRecDepth 100000
set_option linter.all false
set_option maxHeartbeats 4000000
namespace L3
set_option autoImplicit false
open PySem PySem.Spec PyProof.Rows L2
/-! the text by places -/
def topS (i : Nat) : Stmt := PySem.Challenge.pw_pilesfit_k07_code_of.main.body.getD i (.Pass ⟨0, 0, 0, 0⟩)
abbrev s_lays_nothing : Stmt := topS 2
abbrev N_lays_nothing : List Str := ["statement", "inner"]
theorem sc_lays_nothing : FnScope N_lays_nothing ["statement"] (defScope s_lays_nothing) := ⟨rfl, rfl, rfl, by decide +kernel, rfl, by decide +kernel, by decide +kernel⟩
abbrev s_is_back : Stmt := topS 3
abbrev N_is_back : List Str := ["statement", "telling", "inner"]
theorem sc_is_back : FnScope N_is_back ["statement"] (defScope s_is_back) := ⟨rfl, rfl, rfl, by decide +kernel, rfl, by decide +kernel, by decide +kernel⟩
abbrev s_Layer_mark : Stmt := (clsBody (topS 1)).getD 1 (.Pass ⟨0, 0, 0, 0⟩)
abbrev N_Layer_mark : List Str := ["self"]
theorem sc_Layer_mark : FnScope N_Layer_mark ["self"] (defScope s_Layer_mark) := ⟨rfl, rfl, rfl, by decide +kernel, rfl, by decide +kernel, by decide +kernel⟩
abbrev s_Layer_add : Stmt := (clsBody (topS 1)).getD 3 (.Pass ⟨0, 0, 0, 0⟩)
abbrev N_Layer_add : List Str := ["self", "row"]
theorem sc_Layer_add : FnScope N_Layer_add ["self", "row"] (defScope s_Layer_add) := ⟨rfl, rfl, rfl, by decide +kernel, rfl, by decide +kernel, by decide +kernel⟩
abbrev s_Layer_put : Stmt := (clsBody (topS 1)).getD 2 (.Pass ⟨0, 0, 0, 0⟩)
abbrev N_Layer_put : List Str := ["self", "mark"]
theorem sc_Layer_put : FnScope N_Layer_put ["self", "mark"] (defScope s_Layer_put) := ⟨rfl, rfl, rfl, by decide +kernel, rfl, by decide +kernel, by decide +kernel⟩
abbrev s_lay_statement : Stmt := topS 5
abbrev N_lay_statement : List Str := ["layer", "statement", "here", "there", "last", "word", "begins", "body", "begin", "_", "behind"]
theorem sc_lay_statement : FnScope N_lay_statement ["layer", "statement", "here", "there", "last"] (defScope s_lay_statement) := ⟨rfl, rfl, rfl, by decide +kernel, rfl, by decide +kernel, by decide +kernel⟩
abbrev s_lay_body : Stmt := topS 4
abbrev N_lay_body : List Str := ["layer", "body", "begin", "behind", "last", "here", "statement", "there"]
theorem sc_lay_body : FnScope N_lay_body ["layer", "body", "begin", "behind", "last"] (defScope s_lay_body) := ⟨rfl, rfl, rfl, by decide +kernel, rfl, by decide +kernel, by decide +kernel⟩
abbrev s_row_at : Stmt := topS 6
abbrev N_row_at : List Str := ["layer", "mark", "told"]
theorem sc_row_at : FnScope N_row_at ["layer", "mark"] (defScope s_row_at) := ⟨rfl, rfl, rfl, by decide +kernel, rfl, by decide +kernel, by decide +kernel⟩
abbrev s_told_row : Stmt := topS 7
abbrev N_told_row : List Str := ["layer", "deeds", "row", "mark"]
theorem sc_told_row : FnScope N_told_row ["layer", "deeds", "row"] (defScope s_told_row) := ⟨rfl, rfl, rfl, by decide +kernel, rfl, by decide +kernel, by decide +kernel⟩
abbrev s_Layer_init : Stmt := (clsBody (topS 1)).getD 0 (.Pass ⟨0, 0, 0, 0⟩)
abbrev N_Layer_init : List Str := ["self"]
theorem sc_Layer_init : FnScope N_Layer_init ["self"] (defScope s_Layer_init) := ⟨rfl, rfl, rfl, by decide +kernel, rfl, by decide +kernel, by decide +kernel⟩
abbrev s_word_code : Stmt := topS 8
abbrev N_word_code : List Str := ["deeds", "body", "layer", "begin", "last", "row"]
theorem sc_word_code : FnScope N_word_code ["deeds", "body"] (defScope s_word_code) := ⟨rfl, rfl, rfl, by decide +kernel, rfl, by decide +kernel, by decide +kernel⟩
abbrev s_code_of : Stmt := topS 9
abbrev N_code_of : List Str := ["program", "body"]
theorem sc_code_of : FnScope N_code_of ["program"] (defScope s_code_of) := ⟨rfl, rfl, rfl, by decide +kernel, rfl, by decide +kernel, by decide +kernel⟩
abbrev s_rows_number : Stmt := topS 10
abbrev N_rows_number : List Str := ["code", "rows"]
theorem sc_rows_number : FnScope N_rows_number ["code"] (defScope s_rows_number) := ⟨rfl, rfl, rfl, by decide +kernel, rfl, by decide +kernel, by decide +kernel⟩
abbrev s_law_churn : Stmt := topS 12
abbrev N_law_churn : List Str := ["script", "great", "mixed", "cell", "size"]
theorem sc_law_churn : FnScope N_law_churn ["script"] (defScope s_law_churn) := ⟨rfl, rfl, rfl, by decide +kernel, rfl, by decide +kernel, by decide +kernel⟩
abbrev s_law_pour : Stmt := topS 13
abbrev N_law_pour : List Str := ["jug", "many", "size"]
theorem sc_law_pour : FnScope N_law_pour ["jug", "many"] (defScope s_law_pour) := ⟨rfl, rfl, rfl, by decide +kernel, rfl, by decide +kernel, by decide +kernel⟩
abbrev s_law_equal : Stmt := topS 14
abbrev N_law_equal : List Str := ["told", "due", "waiting", "left", "right", "at"]
theorem sc_law_equal : FnScope N_law_equal ["told", "due"] (defScope s_law_equal) := ⟨rfl, rfl, rfl, by decide +kernel, rfl, by decide +kernel, by decide +kernel⟩
abbrev s_law_lays_nothing : Stmt := topS 15
abbrev N_law_lays_nothing : List Str := ["statement", "one"]
theorem sc_law_lays_nothing : FnScope N_law_lays_nothing ["statement"] (defScope s_law_lays_nothing) := ⟨rfl, rfl, rfl, by decide +kernel, rfl, by decide +kernel, by decide +kernel⟩
abbrev s_law_at_once : Stmt := topS 16
abbrev N_law_at_once : List Str := ["body", "one"]
theorem sc_law_at_once : FnScope N_law_at_once ["body"] (defScope s_law_at_once) := ⟨rfl, rfl, rfl, by decide +kernel, rfl, by decide +kernel, by decide +kernel⟩
abbrev s_law_mark : Stmt := topS 17
abbrev N_law_mark : List Str := ["marks"]
theorem sc_law_mark : FnScope N_law_mark ["marks"] (defScope s_law_mark) := ⟨rfl, rfl, rfl, by decide +kernel, rfl, by decide +kernel, by decide +kernel⟩
abbrev s_law_lay_inner : Stmt := topS 19
abbrev N_law_lay_inner : List Str := ["state", "one", "here", "then", "marks", "rows", "lap", "end", "row", "first", "body"]
theorem sc_law_lay_inner : FnScope N_law_lay_inner ["state", "one", "here", "then"] (defScope s_law_lay_inner) := ⟨rfl, rfl, rfl, by decide +kernel, rfl, by decide +kernel, by decide +kernel⟩
abbrev s_law_lay : Stmt := topS 18
abbrev N_law_lay : List Str := ["state", "body", "begin", "behind", "here", "one", "then"]
theorem sc_law_lay : FnScope N_law_lay ["state", "body", "begin", "behind"] (defScope s_law_lay) := ⟨rfl, rfl, rfl, by decide +kernel, rfl, by decide +kernel, by decide +kernel⟩
abbrev s_law_found : Stmt := topS 20
abbrev N_law_found : List Str := ["marks", "mark"]
theorem sc_law_found : FnScope N_law_found ["marks", "mark"] (defScope s_law_found) := ⟨rfl, rfl, rfl, by decide +kernel, rfl, by decide +kernel, by decide +kernel⟩
abbrev s_law_word : Stmt := topS 21
abbrev N_law_word : List Str := ["deeds", "body", "state", "told", "row", "mark"]
theorem sc_law_word : FnScope N_law_word ["deeds", "body"] (defScope s_law_word) := ⟨rfl, rfl, rfl, by decide +kernel, rfl, by decide +kernel, by decide +kernel⟩
abbrev s_law_size : Stmt := topS 22
abbrev N_law_size : List Str := ["statement", "body", "one"]
theorem sc_law_size : FnScope N_law_size ["statement"] (defScope s_law_size) := ⟨rfl, rfl, rfl, by decide +kernel, rfl, by decide +kernel, by decide +kernel⟩
abbrev s_law_body : Stmt := topS 23
abbrev N_law_body : List Str := ["jug", "left", "deep", "sizes", "told", "lap", "kind", "turn"]
theorem sc_law_body : FnScope N_law_body ["jug", "left", "deep", "sizes"] (defScope s_law_body) := ⟨rfl, rfl, rfl, by decide +kernel, rfl, by decide +kernel, by decide +kernel⟩
abbrev s_law_pile : Stmt := topS 24
abbrev N_law_pile : List Str := ["jug", "kinds", "lap"]
theorem sc_law_pile : FnScope N_law_pile ["jug", "kinds"] (defScope s_law_pile) := ⟨rfl, rfl, rfl, by decide +kernel, rfl, by decide +kernel, by decide +kernel⟩
abbrev s_law_program : Stmt := topS 25
abbrev N_law_program : List Str := ["jug", "many", "kinds", "deeds", "k", "names", "left", "bodies", "name", "body", "one", "sizes", "at"]
theorem sc_law_program : FnScope N_law_program ["jug", "many"] (defScope s_law_program) := ⟨rfl, rfl, rfl, by decide +kernel, rfl, by decide +kernel, by decide +kernel⟩
abbrev s_law_asked : Stmt := topS 26
abbrev N_law_asked : List Str := ["program", "due", "body", "told", "rows"]
theorem sc_law_asked : FnScope N_law_asked ["program"] (defScope s_law_asked) := ⟨rfl, rfl, rfl, by decide +kernel, rfl, by decide +kernel, by decide +kernel⟩
abbrev s_law_wide : Stmt := topS 27
abbrev N_law_wide : List Str := ["jug", "some", "times", "body"]
theorem sc_law_wide : FnScope N_law_wide ["jug"] (defScope s_law_wide) := ⟨rfl, rfl, rfl, by decide +kernel, rfl, by decide +kernel, by decide +kernel⟩
abbrev s_law_hand : Stmt := topS 28
abbrev N_law_hand : List Str := ["jug", "deeds", "off", "back", "end", "a", "at", "rows", "body", "due", "other", "last", "program"]
theorem sc_law_hand : FnScope N_law_hand ["jug"] (defScope s_law_hand) := ⟨rfl, rfl, rfl, by decide +kernel, rfl, by decide +kernel, by decide +kernel⟩
abbrev s_law : Stmt := topS 29
abbrev N_law : List Str := ["script", "jug", "lap"]
theorem sc_law : FnScope N_law ["script"] (defScope s_law) := ⟨rfl, rfl, rfl, by decide +kernel, rfl, by decide +kernel, by decide +kernel⟩
/-- what the top has written -/
structure Txt (K : PySem.W.Frag) (mg : Str → Option Value) where
  f_lays_nothing : Addr
  fd_lays_nothing : FuncData
  F_lays_nothing : Fun K "lays_nothing" "lays_nothing" s_lays_nothing f_lays_nothing fd_lays_nothing
  m_lays_nothing : mg "lays_nothing" = some (.ref f_lays_nothing)
  b_lays_nothing : Binds K fd_lays_nothing ["statement"] []
  f_is_back : Addr
  fd_is_back : FuncData
  F_is_back : Fun K "is_back" "is_back" s_is_back f_is_back fd_is_back
  m_is_back : mg "is_back" = some (.ref f_is_back)
  b_is_back : Binds K fd_is_back ["statement"] []
  f_Layer_mark : Addr
  fd_Layer_mark : FuncData
  F_Layer_mark : Fun K "mark" "Layer.mark" s_Layer_mark f_Layer_mark fd_Layer_mark
  me_Layer_mark : Meth K A_Layer "mark" f_Layer_mark
  b_Layer_mark : Binds K fd_Layer_mark ["self"] []
  f_Layer_add : Addr
  fd_Layer_add : FuncData
  F_Layer_add : Fun K "add" "Layer.add" s_Layer_add f_Layer_add fd_Layer_add
  me_Layer_add : Meth K A_Layer "add" f_Layer_add
  b_Layer_add : Binds K fd_Layer_add ["self", "row"] []
  f_Layer_put : Addr
  fd_Layer_put : FuncData
  F_Layer_put : Fun K "put" "Layer.put" s_Layer_put f_Layer_put fd_Layer_put
  me_Layer_put : Meth K A_Layer "put" f_Layer_put
  b_Layer_put : Binds K fd_Layer_put ["self", "mark"] []
  f_lay_statement : Addr
  fd_lay_statement : FuncData
  F_lay_statement : Fun K "lay_statement" "lay_statement" s_lay_statement f_lay_statement fd_lay_statement
  m_lay_statement : mg "lay_statement" = some (.ref f_lay_statement)
  b_lay_statement : Binds K fd_lay_statement ["layer", "statement", "here", "there", "last"] []
  f_lay_body : Addr
  fd_lay_body : FuncData
  F_lay_body : Fun K "lay_body" "lay_body" s_lay_body f_lay_body fd_lay_body
  m_lay_body : mg "lay_body" = some (.ref f_lay_body)
  b_lay_body : Binds K fd_lay_body ["layer", "body", "begin", "behind", "last"] []
  f_row_at : Addr
  fd_row_at : FuncData
  F_row_at : Fun K "row_at" "row_at" s_row_at f_row_at fd_row_at
  m_row_at : mg "row_at" = some (.ref f_row_at)
  b_row_at : Binds K fd_row_at ["layer", "mark"] []
  f_told_row : Addr
  fd_told_row : FuncData
  F_told_row : Fun K "told_row" "told_row" s_told_row f_told_row fd_told_row
  m_told_row : mg "told_row" = some (.ref f_told_row)
  b_told_row : Binds K fd_told_row ["layer", "deeds", "row"] []
  f_Layer_init : Addr
  fd_Layer_init : FuncData
  F_Layer_init : Fun K "__init__" "Layer.__init__" s_Layer_init f_Layer_init fd_Layer_init
  mk_Layer : Mk K A_Layer f_Layer_init
  b_Layer_init : Binds K fd_Layer_init ["self"] []
  f_word_code : Addr
  fd_word_code : FuncData
  F_word_code : Fun K "word_code" "word_code" s_word_code f_word_code fd_word_code
  m_word_code : mg "word_code" = some (.ref f_word_code)
  b_word_code : Binds K fd_word_code ["deeds", "body"] []
  f_code_of : Addr
  fd_code_of : FuncData
  F_code_of : Fun K "code_of" "code_of" s_code_of f_code_of fd_code_of
  m_code_of : mg "code_of" = some (.ref f_code_of)
  b_code_of : Binds K fd_code_of ["program"] []
  f_rows_number : Addr
  fd_rows_number : FuncData
  F_rows_number : Fun K "rows_number" "rows_number" s_rows_number f_rows_number fd_rows_number
  m_rows_number : mg "rows_number" = some (.ref f_rows_number)
  b_rows_number : Binds K fd_rows_number ["code"] []
  f_law_churn : Addr
  fd_law_churn : FuncData
  F_law_churn : Fun K "_law_churn" "_law_churn" s_law_churn f_law_churn fd_law_churn
  m_law_churn : mg "_law_churn" = some (.ref f_law_churn)
  b_law_churn : Binds K fd_law_churn ["script"] []
  f_law_pour : Addr
  fd_law_pour : FuncData
  F_law_pour : Fun K "_law_pour" "_law_pour" s_law_pour f_law_pour fd_law_pour
  m_law_pour : mg "_law_pour" = some (.ref f_law_pour)
  b_law_pour : Binds K fd_law_pour ["jug", "many"] []
  f_law_equal : Addr
  fd_law_equal : FuncData
  F_law_equal : Fun K "_law_equal" "_law_equal" s_law_equal f_law_equal fd_law_equal
  m_law_equal : mg "_law_equal" = some (.ref f_law_equal)
  b_law_equal : Binds K fd_law_equal ["told", "due"] []
  f_law_lays_nothing : Addr
  fd_law_lays_nothing : FuncData
  F_law_lays_nothing : Fun K "_law_lays_nothing" "_law_lays_nothing" s_law_lays_nothing f_law_lays_nothing fd_law_lays_nothing
  m_law_lays_nothing : mg "_law_lays_nothing" = some (.ref f_law_lays_nothing)
  b_law_lays_nothing : Binds K fd_law_lays_nothing ["statement"] []
  f_law_at_once : Addr
  fd_law_at_once : FuncData
  F_law_at_once : Fun K "_law_at_once" "_law_at_once" s_law_at_once f_law_at_once fd_law_at_once
  m_law_at_once : mg "_law_at_once" = some (.ref f_law_at_once)
  b_law_at_once : Binds K fd_law_at_once ["body"] []
  f_law_mark : Addr
  fd_law_mark : FuncData
  F_law_mark : Fun K "_law_mark" "_law_mark" s_law_mark f_law_mark fd_law_mark
  m_law_mark : mg "_law_mark" = some (.ref f_law_mark)
  b_law_mark : Binds K fd_law_mark ["marks"] []
  f_law_lay_inner : Addr
  fd_law_lay_inner : FuncData
  F_law_lay_inner : Fun K "_law_lay_inner" "_law_lay_inner" s_law_lay_inner f_law_lay_inner fd_law_lay_inner
  m_law_lay_inner : mg "_law_lay_inner" = some (.ref f_law_lay_inner)
  b_law_lay_inner : Binds K fd_law_lay_inner ["state", "one", "here", "then"] []
  f_law_lay : Addr
  fd_law_lay : FuncData
  F_law_lay : Fun K "_law_lay" "_law_lay" s_law_lay f_law_lay fd_law_lay
  m_law_lay : mg "_law_lay" = some (.ref f_law_lay)
  b_law_lay : Binds K fd_law_lay ["state", "body", "begin", "behind"] []
  f_law_found : Addr
  fd_law_found : FuncData
  F_law_found : Fun K "_law_found" "_law_found" s_law_found f_law_found fd_law_found
  m_law_found : mg "_law_found" = some (.ref f_law_found)
  b_law_found : Binds K fd_law_found ["marks", "mark"] []
  f_law_word : Addr
  fd_law_word : FuncData
  F_law_word : Fun K "_law_word" "_law_word" s_law_word f_law_word fd_law_word
  m_law_word : mg "_law_word" = some (.ref f_law_word)
  b_law_word : Binds K fd_law_word ["deeds", "body"] []
  f_law_size : Addr
  fd_law_size : FuncData
  F_law_size : Fun K "_law_size" "_law_size" s_law_size f_law_size fd_law_size
  m_law_size : mg "_law_size" = some (.ref f_law_size)
  b_law_size : Binds K fd_law_size ["statement"] []
  f_law_body : Addr
  fd_law_body : FuncData
  F_law_body : Fun K "_law_body" "_law_body" s_law_body f_law_body fd_law_body
  m_law_body : mg "_law_body" = some (.ref f_law_body)
  b_law_body : Binds K fd_law_body ["jug", "left", "deep", "sizes"] []
  f_law_pile : Addr
  fd_law_pile : FuncData
  F_law_pile : Fun K "_law_pile" "_law_pile" s_law_pile f_law_pile fd_law_pile
  m_law_pile : mg "_law_pile" = some (.ref f_law_pile)
  b_law_pile : Binds K fd_law_pile ["jug", "kinds"] []
  f_law_program : Addr
  fd_law_program : FuncData
  F_law_program : Fun K "_law_program" "_law_program" s_law_program f_law_program fd_law_program
  m_law_program : mg "_law_program" = some (.ref f_law_program)
  b_law_program : Binds K fd_law_program ["jug", "many"] []
  f_law_asked : Addr
  fd_law_asked : FuncData
  F_law_asked : Fun K "_law_asked" "_law_asked" s_law_asked f_law_asked fd_law_asked
  m_law_asked : mg "_law_asked" = some (.ref f_law_asked)
  b_law_asked : Binds K fd_law_asked ["program"] []
  f_law_wide : Addr
  fd_law_wide : FuncData
  F_law_wide : Fun K "_law_wide" "_law_wide" s_law_wide f_law_wide fd_law_wide
  m_law_wide : mg "_law_wide" = some (.ref f_law_wide)
  b_law_wide : Binds K fd_law_wide ["jug"] []
  f_law_hand : Addr
  fd_law_hand : FuncData
  F_law_hand : Fun K "_law_hand" "_law_hand" s_law_hand f_law_hand fd_law_hand
  m_law_hand : mg "_law_hand" = some (.ref f_law_hand)
  b_law_hand : Binds K fd_law_hand ["jug"] []
  f_law : Addr
  fd_law : FuncData
  F_law : Fun K "law" "law" s_law f_law fd_law
  m_law : mg "law" = some (.ref f_law)
  b_law : Binds K fd_law ["script"] []
  z_abs : mg "abs" = none
  z_all : mg "all" = none
  z_bool : mg "bool" = none
  z_int : mg "int" = none
  z_isinstance : mg "isinstance" = none
  z_len : mg "len" = none
  z_max : mg "max" = none
  z_range : mg "range" = none
  z_str : mg "str" = none
  z_sum : mg "sum" = none
  z_tuple : mg "tuple" = none
  z_zip : mg "zip" = none
  kw_0 : KwB fd_code_of ["program"] ["program"] 0 [0]
  kw_1 : KwB fd_rows_number ["code"] ["code"] 0 [0]
  g_Layer : mg "Layer" = some (.ref A_Layer)
  cl_Layer : Cls K A_Layer
  na_Layer_marks : NoAttr K A_Layer "marks"
  na_Layer_rows : NoAttr K A_Layer "rows"
  na_Layer_many : NoAttr K A_Layer "many"
section
variable {P : Program} {w : World} {K : PySem.W.Frag} {mg : Str → Option Value} {base : Heap}
theorem dv_lays_nothing (T : Txt K mg) {k : Nat} {spr_lays_nothing : DSp} (G_lays_nothing : FnD P w K mg base k T.f_lays_nothing T.fd_lays_nothing ["statement"] spr_lays_nothing) (hk : 0 ≤ k) : ∀ (cdv : Value) (A : Around) (outer : List Env) (s : Shared) (H : Hp) (E : XK), Room k (A.deeper (envOfC "lays_nothing" (defScope s_lays_nothing) s.heap.objs.size T.f_lays_nothing cdv)) → DPSs (cxOf CX0 P w K mg base N_lays_nothing "lays_nothing" (defScope s_lays_nothing) T.f_lays_nothing cdv A outer s H E).nox (KG.top K) (defBody s_lays_nothing) (rd_lays_nothing spr_lays_nothing) := by
    intro cdv A outer s H E hr
    unfold rd_lays_nothing
    exact (dpss_cons (dps_if (dpt_cmp (dop_ne hr.units) (dpe_ix dix (dpe_var 0) dpe_int) dpe_str) (dpss_one (dps_ret dpe_bl)) dpss_nil)
    (dpss_one (dps_ret (dpe_or (dpe_cmp (dop_eq hr.units) (dpe_ix dix (dpe_var 0) dpe_int) dpe_int) (dpe_one (dpe_callB (dcall_all rfl) (by rfl) T.z_all boot_all (dpa_cons (dpe_lc (tg := (.nm 1)) (own := [("inner", 1)]) sc_lays_nothing.nd (dpi_tup (dpe_ix dix (dpe_var 0) dpe_int)) (blkOk_by (own := [("inner", 1)]) (N := N_lays_nothing) (sc := defScope s_lays_nothing) (by decide +kernel)) (fun _ _ _ _ _ => dpg_name 1 sc_lays_nothing.nd) (fun _ _ _ _ _ => dpt_yes) (fun _ _ _ _ _ => (dpe_call G_lays_nothing hr (by rfl) T.m_lays_nothing T.F_lays_nothing.kp T.b_lays_nothing (dpa_cons (dpe_var 1) dpa_nil)))) dpa_nil)))))))
theorem okn_lays_nothing (T : Txt K mg) : ∀ n, FnD P w K mg base (n + 1) T.f_lays_nothing T.fd_lays_nothing ["statement"] (a1 (sr_lays_nothing n))
  | 0 => FnD.mk T.F_lays_nothing sc_lays_nothing a1_len (dv_lays_nothing T (k := 0) (spr_lays_nothing := fun _ _ _ => False) FnD.none (by omega)) (rd_lays_nothing_ok 0 _ (fun m e => by cases e))
  | n + 1 => FnD.mk T.F_lays_nothing sc_lays_nothing a1_len (dv_lays_nothing T (okn_lays_nothing T n) (by omega)) (rd_lays_nothing_ok (n + 1) _ (fun m e => by cases e; rfl))
theorem ok_lays_nothing (T : Txt K mg) : FnD P w K mg base 21 T.f_lays_nothing T.fd_lays_nothing ["statement"] (a1 sp_lays_nothing) := okn_lays_nothing T 20
theorem dv_is_back (T : Txt K mg) {k : Nat} {spr_is_back : DSp} (G_is_back : FnD P w K mg base k T.f_is_back T.fd_is_back ["statement"] spr_is_back) (hk : 21 ≤ k) : ∀ (cdv : Value) (A : Around) (outer : List Env) (s : Shared) (H : Hp) (E : XK), Room k (A.deeper (envOfC "is_back" (defScope s_is_back) s.heap.objs.size T.f_is_back cdv)) → DPSs (cxOf CX0 P w K mg base N_is_back "is_back" (defScope s_is_back) T.f_is_back cdv A outer s H E).nox (KG.top K) (defBody s_is_back) (rd_is_back spr_is_back) := by
    intro cdv A outer s H E hr
    unfold rd_is_back
    exact (dpss_cons (dps_if (dpt_cmp (dop_eq hr.units) (dpe_ix dix (dpe_var 0) dpe_int) dpe_str) (dpss_one (dps_ret dpe_bl)) dpss_nil)
    (dpss_cons (dps_if (DPW.pt (dpw_or (dpt_cmp (dop_ne hr.units) (dpe_ix dix (dpe_var 0) dpe_int) dpe_str) (dpw_or1 (dpt_cmp (dop_eq hr.units) (dpe_ix dix (dpe_var 0) dpe_int) dpe_int)))) (dpss_one (dps_ret dpe_bl)) dpss_nil)
    (dpss_cons (dps_setLc (i := 1) (tg := (.nm 2)) (own := [("inner", 2)]) sc_is_back.nd rfl rfl (sw_true rfl rfl rfl (by decide +kernel)) (dpi_tup (dpe_ix dix (dpe_var 0) dpe_int)) (blkOk_by (own := [("inner", 2)]) (N := N_is_back) (sc := defScope s_is_back) (by decide +kernel)) (fun _ _ _ _ _ => dpg_name 2 sc_is_back.nd) (fun _ _ _ _ _ => dpts_one (dpt_not (dpt_val (dpe_call (ok_lays_nothing T) (hr.mono (by omega)) (by rfl) T.m_lays_nothing T.F_lays_nothing.kp T.b_lays_nothing (dpa_cons (dpe_var 2) dpa_nil))))) (fun _ _ _ _ _ => (dpe_var 2)))
    (dpss_one (dps_ret (dpe_and (dpe_callTy dcall_boolL (by rfl) T.z_bool boot_bool (dpa_cons (dpe_var 1) dpa_nil)) (dpe_one (dpe_call G_is_back hr (by rfl) T.m_is_back T.F_is_back.kp T.b_is_back (dpa_cons (dpe_ix dix (dpe_var 1) dpe_int) dpa_nil)))))))))
theorem okn_is_back (T : Txt K mg) : ∀ n, FnD P w K mg base (n + 22) T.f_is_back T.fd_is_back ["statement"] (a1 (sr_is_back n))
  | 0 => FnD.mk T.F_is_back sc_is_back a1_len (dv_is_back T (k := 21) (spr_is_back := fun _ _ _ => False) FnD.none (by omega)) (rd_is_back_ok 0 _ (fun m e => by cases e))
  | n + 1 => FnD.mk T.F_is_back sc_is_back a1_len (dv_is_back T (okn_is_back T n) (by omega)) (rd_is_back_ok (n + 1) _ (fun m e => by cases e; rfl))
theorem ok_is_back (T : Txt K mg) : FnD P w K mg base 42 T.f_is_back T.fd_is_back ["statement"] (a1 sp_is_back) := okn_is_back T 20
theorem dv_Layer_mark (T : Txt K mg) : ∀ (cdv : Value) (A : Around) (outer : List Env) (s : Shared) (H : Hp) (E : XK), Room 0 (A.deeper (envOfC "Layer.mark" (defScope s_Layer_mark) s.heap.objs.size T.f_Layer_mark cdv)) → DPSs (cxOf CX0 P w K mg base N_Layer_mark "Layer.mark" (defScope s_Layer_mark) T.f_Layer_mark cdv A outer s H E).nox (KG.top K) (defBody s_Layer_mark) rd_Layer_mark := by
    intro cdv A outer s H E hr
    unfold rd_Layer_mark
    exact (dpss_cons (dps_fldaug T.cl_Layer T.na_Layer_many dop_iadd (dpe_var 0) dpe_int)
    (dpss_one (dps_ret (dpe_op dop_sub (dpe_fld T.cl_Layer T.na_Layer_many (dpe_var 0)) dpe_int))))
theorem ok_Layer_mark (T : Txt K mg) : FnD P w K mg base 1 T.f_Layer_mark T.fd_Layer_mark ["self"] (a1 sp_Layer_mark) := FnD.mk T.F_Layer_mark sc_Layer_mark a1_len (dv_Layer_mark T) rd_Layer_mark_ok
theorem dv_Layer_add (T : Txt K mg) : ∀ (cdv : Value) (A : Around) (outer : List Env) (s : Shared) (H : Hp) (E : XK), Room 0 (A.deeper (envOfC "Layer.add" (defScope s_Layer_add) s.heap.objs.size T.f_Layer_add cdv)) → DPSs (cxOf CX0 P w K mg base N_Layer_add "Layer.add" (defScope s_Layer_add) T.f_Layer_add cdv A outer s H E).nox (KG.top K) (defBody s_Layer_add) rd_Layer_add := by
    intro cdv A outer s H E hr
    unfold rd_Layer_add
    exact (dpss_one (dps_expr (dpe_lm PySem.F.slot_list_append PySem.F.type_list_append mt_append lr_append (dpe_fld T.cl_Layer T.na_Layer_rows (dpe_var 0)) (dpa_cons (dpe_var 1) dpa_nil))))
theorem ok_Layer_add (T : Txt K mg) : FnD P w K mg base 1 T.f_Layer_add T.fd_Layer_add ["self", "row"] (a2 sp_Layer_add) := FnD.mk T.F_Layer_add sc_Layer_add a2_len (dv_Layer_add T) rd_Layer_add_ok
theorem dv_Layer_put (T : Txt K mg) : ∀ (cdv : Value) (A : Around) (outer : List Env) (s : Shared) (H : Hp) (E : XK), Room 0 (A.deeper (envOfC "Layer.put" (defScope s_Layer_put) s.heap.objs.size T.f_Layer_put cdv)) → DPSs (cxOf CX0 P w K mg base N_Layer_put "Layer.put" (defScope s_Layer_put) T.f_Layer_put cdv A outer s H E).nox (KG.top K) (defBody s_Layer_put) rd_Layer_put := by
    intro cdv A outer s H E hr
    unfold rd_Layer_put
    exact (dpss_one (dps_dput (hu_of hr) (dpe_fld T.cl_Layer T.na_Layer_marks (dpe_var 0)) (dpe_var 1) (dpe_callB dcall_len (by rfl) T.z_len boot_len (dpa_cons (dpe_fld T.cl_Layer T.na_Layer_rows (dpe_var 0)) dpa_nil))))
theorem ok_Layer_put (T : Txt K mg) : FnD P w K mg base 1 T.f_Layer_put T.fd_Layer_put ["self", "mark"] (a2 sp_Layer_put) := FnD.mk T.F_Layer_put sc_Layer_put a2_len (dv_Layer_put T) rd_Layer_put_ok
theorem dv_lay_statement (T : Txt K mg) {k : Nat} {spr_lay_body : DSp} (G_lay_body : FnD P w K mg base k T.f_lay_body T.fd_lay_body ["layer", "body", "begin", "behind", "last"] spr_lay_body) (hk : 1 ≤ k) : ∀ (cdv : Value) (A : Around) (outer : List Env) (s : Shared) (H : Hp) (E : XK), Room k (A.deeper (envOfC "lay_statement" (defScope s_lay_statement) s.heap.objs.size T.f_lay_statement cdv)) → DPSs (cxOf CX0 P w K mg base N_lay_statement "lay_statement" (defScope s_lay_statement) T.f_lay_statement cdv A outer s H E).nox (KG.top K) (defBody s_lay_statement) (rd_lay_statement spr_lay_body) := by
    intro cdv A outer s H E hr
    unfold rd_lay_statement
    exact (dpss_cons (dps_set 5 sc_lay_statement.nd (dpe_ix dix (dpe_var 1) dpe_int))
    (dpss_one (dps_if (dpt_cmp dop_in (dpe_var 5) (dpe_tup (dpa_cons dpe_str (dpa_cons dpe_str dpa_nil)))) (dpss_cons (dps_expr (dpe_meth T.cl_Layer T.me_Layer_put (ok_Layer_put T) (hr.mono (by omega)) T.b_Layer_put (dpe_var 0) (dpa_cons (dpe_var 2) dpa_nil)))
    (dpss_one (dps_expr (dpe_meth T.cl_Layer T.me_Layer_add (ok_Layer_add T) (hr.mono (by omega)) T.b_Layer_add (dpe_var 0) (dpa_cons (dpe_tup (dpa_cons (dpe_var 5) (dpa_cons (dpe_ix dix (dpe_var 1) dpe_int) (dpa_cons (dpe_var 3) dpa_nil)))) dpa_nil))))) (dpss_one (dps_if (dpt_cmp (dop_eq hr.units) (dpe_var 5) dpe_str) (dpss_cons (dps_setLc (i := 6) (tg := (.nm 7)) (own := [("body", 7)]) sc_lay_statement.nd rfl rfl (sw_true rfl rfl rfl (by decide +kernel)) (dpi_tup (dpe_ix dix (dpe_var 1) dpe_int)) (blkOk_by (own := [("body", 7)]) (N := N_lay_statement) (sc := defScope s_lay_statement) (by decide +kernel)) (fun _ _ _ _ _ => dpg_name 7 sc_lay_statement.nd) (fun _ _ _ _ _ => dpt_yes) (fun _ _ _ _ _ => (dpe_meth0 T.cl_Layer T.me_Layer_mark (ok_Layer_mark T) (hr.mono (by omega)) T.b_Layer_mark (dpe_var 0))))
    (dpss_cons (dps_expr (dpe_meth T.cl_Layer T.me_Layer_put (ok_Layer_put T) (hr.mono (by omega)) T.b_Layer_put (dpe_var 0) (dpa_cons (dpe_var 2) dpa_nil)))
    (dpss_cons (dps_expr (dpe_meth T.cl_Layer T.me_Layer_add (ok_Layer_add T) (hr.mono (by omega)) T.b_Layer_add (dpe_var 0) (dpa_cons (dpe_tup (dpa_cons dpe_str (dpa_cons (dpe_var 6) dpa_nil))) dpa_nil)))
    (dpss_one (dps_for (dpi_zipM (by rfl) T.z_zip (dpe_var 6) (dpe_ix dix (dpe_var 1) dpe_int)) (dpg_tg (tg := .tp [8, 7]) (pg_tup rfl (pgs_cons (dpg_name 8 sc_lay_statement.nd) (pgs_cons (dpg_name 7 sc_lay_statement.nd) pgs_nil)))) (dpss_one (dps_expr (dpe_call G_lay_body hr (by rfl) T.m_lay_body T.F_lay_body.kp T.b_lay_body (dpa_cons (dpe_var 0) (dpa_cons (dpe_var 7) (dpa_cons (dpe_var 8) (dpa_cons (dpe_var 3) (dpa_cons (dpe_var 4) dpa_nil))))))))))))) (dpss_one (dps_if (dpt_cmp (dop_eq hr.units) (dpe_var 5) dpe_str) (dpss_cons (dps_set 8 sc_lay_statement.nd (dpe_meth0 T.cl_Layer T.me_Layer_mark (ok_Layer_mark T) (hr.mono (by omega)) T.b_Layer_mark (dpe_var 0)))
    (dpss_cons (dps_expr (dpe_meth T.cl_Layer T.me_Layer_put (ok_Layer_put T) (hr.mono (by omega)) T.b_Layer_put (dpe_var 0) (dpa_cons (dpe_var 2) dpa_nil)))
    (dpss_cons (dps_expr (dpe_meth T.cl_Layer T.me_Layer_add (ok_Layer_add T) (hr.mono (by omega)) T.b_Layer_add (dpe_var 0) (dpa_cons (dpe_tup (dpa_cons dpe_str (dpa_cons (dpe_lst (dpa_cons (dpe_var 8) (dpa_cons (dpe_var 3) dpa_nil))) dpa_nil))) dpa_nil)))
    (dpss_one (dps_expr (dpe_call G_lay_body hr (by rfl) T.m_lay_body T.F_lay_body.kp T.b_lay_body (dpa_cons (dpe_var 0) (dpa_cons (dpe_ix dix (dpe_var 1) dpe_int) (dpa_cons (dpe_var 8) (dpa_cons (dpe_var 2) (dpa_cons (dpe_var 4) dpa_nil))))))))))) (dpss_cons (dps_for (dpi_range1 (by rfl) T.z_range (dpe_ix dix (dpe_var 1) dpe_int)) (dpg_tg (dpg_name 9 sc_lay_statement.nd)) (dpss_cons (dps_set 10 sc_lay_statement.nd (dpe_meth0 T.cl_Layer T.me_Layer_mark (ok_Layer_mark T) (hr.mono (by omega)) T.b_Layer_mark (dpe_var 0)))
    (dpss_cons (dps_expr (dpe_call G_lay_body hr (by rfl) T.m_lay_body T.F_lay_body.kp T.b_lay_body (dpa_cons (dpe_var 0) (dpa_cons (dpe_ix dix (dpe_var 1) dpe_int) (dpa_cons (dpe_var 2) (dpa_cons (dpe_var 10) (dpa_cons (dpe_var 4) dpa_nil)))))))
    (dpss_one (dps_set 2 sc_lay_statement.nd (dpe_var 10))))))
    (dpss_one (dps_dput (hu_of hr) (dpe_fld T.cl_Layer T.na_Layer_marks (dpe_var 0)) (dpe_var 2) (dpe_tup (dpa_cons dpe_str (dpa_cons (dpe_var 3) dpa_nil)))))))))))))
theorem dv_lay_body (T : Txt K mg) {k : Nat} {spr_lay_statement : DSp} (G_lay_statement : FnD P w K mg base k T.f_lay_statement T.fd_lay_statement ["layer", "statement", "here", "there", "last"] spr_lay_statement) (hk : 42 ≤ k) : ∀ (cdv : Value) (A : Around) (outer : List Env) (s : Shared) (H : Hp) (E : XK), Room k (A.deeper (envOfC "lay_body" (defScope s_lay_body) s.heap.objs.size T.f_lay_body cdv)) → DPSs (cxOf CX0 P w K mg base N_lay_body "lay_body" (defScope s_lay_body) T.f_lay_body cdv A outer s H E).nox (KG.top K) (defBody s_lay_body) (rd_lay_body spr_lay_statement) := by
    intro cdv A outer s H E hr
    unfold rd_lay_body
    exact (dpss_cons (dps_set 5 sc_lay_body.nd (dpe_var 2))
    (dpss_cons (dps_for (dpi_tup (dpe_var 1)) (dpg_tg (dpg_name 6 sc_lay_body.nd)) (dpss_cons (dps_if (dpt_val (dpe_call (ok_is_back T) (hr.mono (by omega)) (by rfl) T.m_is_back T.F_is_back.kp T.b_is_back (dpa_cons (dpe_var 6) dpa_nil))) (dpss_cons (dps_dput (hu_of hr) (dpe_fld T.cl_Layer T.na_Layer_marks (dpe_var 0)) (dpe_var 5) (dpe_tup (dpa_cons dpe_str (dpa_cons (dpe_var 4) dpa_nil))))
    (dpss_one dps_retN)) dpss_nil)
    (dpss_cons (dps_set 7 sc_lay_body.nd (dpe_meth0 T.cl_Layer T.me_Layer_mark (ok_Layer_mark T) (hr.mono (by omega)) T.b_Layer_mark (dpe_var 0)))
    (dpss_cons (dps_expr (dpe_call G_lay_statement hr (by rfl) T.m_lay_statement T.F_lay_statement.kp T.b_lay_statement (dpa_cons (dpe_var 0) (dpa_cons (dpe_var 6) (dpa_cons (dpe_var 5) (dpa_cons (dpe_var 7) (dpa_cons (dpe_var 4) dpa_nil)))))))
    (dpss_one (dps_set 5 sc_lay_body.nd (dpe_var 7)))))))
    (dpss_one (dps_dput (hu_of hr) (dpe_fld T.cl_Layer T.na_Layer_marks (dpe_var 0)) (dpe_var 5) (dpe_tup (dpa_cons dpe_str (dpa_cons (dpe_var 3) dpa_nil)))))))
theorem okn_lay_body (T : Txt K mg) : ∀ n, FnD P w K mg base (n + 43) T.f_lay_body T.fd_lay_body ["layer", "body", "begin", "behind", "last"] (a5 (sr_lay_body n)) ∧ FnD P w K mg base (n + 43) T.f_lay_statement T.fd_lay_statement ["layer", "statement", "here", "there", "last"] (a5 (sr_lay_statement n))
  | 0 => ⟨FnD.mk T.F_lay_body sc_lay_body a5_len (dv_lay_body T (k := 42) (spr_lay_statement := fun _ _ _ => False) FnD.none (by omega)) (rd_lay_body_ok 0 _ (fun m e => by cases e)), FnD.mk T.F_lay_statement sc_lay_statement a5_len (dv_lay_statement T (k := 42) (spr_lay_body := fun _ _ _ => False) FnD.none (by omega)) (rd_lay_statement_ok 0 _ (fun m e => by cases e))⟩
  | n + 1 => ⟨FnD.mk T.F_lay_body sc_lay_body a5_len (dv_lay_body T ((okn_lay_body T n).2) (by omega)) (rd_lay_body_ok (n + 1) _ (fun m e => by cases e; rfl)), FnD.mk T.F_lay_statement sc_lay_statement a5_len (dv_lay_statement T ((okn_lay_body T n).1) (by omega)) (rd_lay_statement_ok (n + 1) _ (fun m e => by cases e; rfl))⟩
theorem ok_lay_body (T : Txt K mg) : FnD P w K mg base 63 T.f_lay_body T.fd_lay_body ["layer", "body", "begin", "behind", "last"] (a5 sp_lay_body) := (okn_lay_body T 20).1
theorem ok_lay_statement (T : Txt K mg) : FnD P w K mg base 63 T.f_lay_statement T.fd_lay_statement ["layer", "statement", "here", "there", "last"] (a5 sp_lay_statement) := (okn_lay_body T 20).2
theorem dv_row_at (T : Txt K mg) : ∀ (cdv : Value) (A : Around) (outer : List Env) (s : Shared) (H : Hp) (E : XK), Room 0 (A.deeper (envOfC "row_at" (defScope s_row_at) s.heap.objs.size T.f_row_at cdv)) → DPSs (cxOf CX0 P w K mg base N_row_at "row_at" (defScope s_row_at) T.f_row_at cdv A outer s H E).nox (KG.top K) (defBody s_row_at) rd_row_at := by
    intro cdv A outer s H E hr
    unfold rd_row_at
    exact (dpss_cons (dps_set 2 sc_row_at.nd (dpe_dget (hu_of hr) (dpe_fld T.cl_Layer T.na_Layer_marks (dpe_var 0)) (dpe_var 1)))
    (dpss_cons (dps_while (dpt_val (dpe_callB dcall_isi (by rfl) T.z_isinstance boot_isinstance (dpa_cons (dpe_var 2) (dpa_cons (dpe_ty (by rfl) T.z_tuple boot_tuple) dpa_nil)))) (dpss_one (dps_set 2 sc_row_at.nd (dpe_dget (hu_of hr) (dpe_fld T.cl_Layer T.na_Layer_marks (dpe_var 0)) (dpe_ix dix (dpe_var 2) dpe_int)))))
    (dpss_one (dps_ret (dpe_var 2)))))
theorem ok_row_at (T : Txt K mg) : FnD P w K mg base 1 T.f_row_at T.fd_row_at ["layer", "mark"] (a2 sp_row_at) := FnD.mk T.F_row_at sc_row_at a2_len (dv_row_at T) rd_row_at_ok
theorem dv_told_row (T : Txt K mg) : ∀ (cdv : Value) (A : Around) (outer : List Env) (s : Shared) (H : Hp) (E : XK), Room 1 (A.deeper (envOfC "told_row" (defScope s_told_row) s.heap.objs.size T.f_told_row cdv)) → DPSs (cxOf CX0 P w K mg base N_told_row "told_row" (defScope s_told_row) T.f_told_row cdv A outer s H E).nox (KG.top K) (defBody s_told_row) rd_told_row := by
    intro cdv A outer s H E hr
    unfold rd_told_row
    exact (dpss_cons (dps_if (dpt_cmp (dop_eq hr.units) (dpe_ix dix (dpe_var 2) dpe_int) dpe_str) (dpss_one (dps_ret (dpe_tup (dpa_cons (dpe_ix dix (dpe_var 2) dpe_int) (dpa_cons (dpe_callTy dcall_tuple (by rfl) T.z_tuple boot_tuple (dpa_cons (dpe_lc (tg := (.nm 3)) (own := [("mark", 3)]) sc_told_row.nd (dpi_seq (dpe_ix dix (dpe_var 2) dpe_int)) (blkOk_by (own := [("mark", 3)]) (N := N_told_row) (sc := defScope s_told_row) (by decide +kernel)) (fun _ _ _ _ _ => dpg_name 3 sc_told_row.nd) (fun _ _ _ _ _ => dpt_yes) (fun _ _ _ _ _ => (dpe_call (ok_row_at T) (hr.mono (by decide)) (by rfl) T.m_row_at T.F_row_at.kp T.b_row_at (dpa_cons (dpe_var 0) (dpa_cons (dpe_var 3) dpa_nil))))) dpa_nil)) dpa_nil))))) dpss_nil)
    (dpss_cons (dps_if (dpt_cmp (dop_eq hr.units) (dpe_ix dix (dpe_var 2) dpe_int) dpe_str) (dpss_one (dps_ret (dpe_tup (dpa_cons (dpe_ix dix (dpe_var 2) dpe_int) (dpa_cons (dpe_ix dix (dpe_ix dix (dpe_var 1) (dpe_ix dix (dpe_var 2) dpe_int)) dpe_int) (dpa_cons (dpe_ix dix (dpe_ix dix (dpe_var 1) (dpe_ix dix (dpe_var 2) dpe_int)) dpe_int) (dpa_cons (dpe_call (ok_row_at T) (hr.mono (by decide)) (by rfl) T.m_row_at T.F_row_at.kp T.b_row_at (dpa_cons (dpe_var 0) (dpa_cons (dpe_ix dix (dpe_var 2) dpe_int) dpa_nil))) dpa_nil))))))) dpss_nil)
    (dpss_one (dps_ret (dpe_ifExp (dpt_cmp (dop_eq hr.units) (dpe_ix dix (dpe_var 2) dpe_int) dpe_str) (dpe_tup (dpa_cons (dpe_ix dix (dpe_var 2) dpe_int) (dpa_cons (dpe_ix dix (dpe_var 2) dpe_int) (dpa_cons (dpe_call (ok_row_at T) (hr.mono (by decide)) (by rfl) T.m_row_at T.F_row_at.kp T.b_row_at (dpa_cons (dpe_var 0) (dpa_cons (dpe_ix dix (dpe_var 2) dpe_int) dpa_nil))) dpa_nil)))) (dpe_var 2))))))
theorem ok_told_row (T : Txt K mg) : FnD P w K mg base 2 T.f_told_row T.fd_told_row ["layer", "deeds", "row"] (a3 sp_told_row) := FnD.mk T.F_told_row sc_told_row a3_len (dv_told_row T) rd_told_row_ok
theorem dv_Layer_init (T : Txt K mg) : ∀ (cdv : Value) (A : Around) (outer : List Env) (s : Shared) (H : Hp) (E : XK), Room 0 (A.deeper (envOfC "Layer.__init__" (defScope s_Layer_init) s.heap.objs.size T.f_Layer_init cdv)) → DPSs (cxOf CX0 P w K mg base N_Layer_init "Layer.__init__" (defScope s_Layer_init) T.f_Layer_init cdv A outer s H E).nox (KG.top K) (defBody s_Layer_init) rd_Layer_init := by
    intro cdv A outer s H E hr
    unfold rd_Layer_init
    exact (dpss_cons (dps_fld T.cl_Layer T.na_Layer_rows (dpe_var 0) (dpe_lstM dpa_nil))
    (dpss_cons (dps_fld T.cl_Layer T.na_Layer_marks (dpe_var 0) dpe_dnewK)
    (dpss_one (dps_fld T.cl_Layer T.na_Layer_many (dpe_var 0) dpe_int))))
theorem ok_Layer_init (T : Txt K mg) : FnD P w K mg base 1 T.f_Layer_init T.fd_Layer_init ["self"] (a1 sp_Layer_init) := FnD.mk T.F_Layer_init sc_Layer_init a1_len (dv_Layer_init T) rd_Layer_init_ok
theorem dv_word_code (T : Txt K mg) : ∀ (cdv : Value) (A : Around) (outer : List Env) (s : Shared) (H : Hp) (E : XK), Room 64 (A.deeper (envOfC "word_code" (defScope s_word_code) s.heap.objs.size T.f_word_code cdv)) → DPSs (cxOf CX0 P w K mg base N_word_code "word_code" (defScope s_word_code) T.f_word_code cdv A outer s H E).nox (KG.top K) (defBody s_word_code) rd_word_code := by
    intro cdv A outer s H E hr
    unfold rd_word_code
    exact (dpss_cons (dps_set 2 sc_word_code.nd (dpe_make0 T.mk_Layer (ok_Layer_init T) (hr.mono (by decide)) (by rfl) T.g_Layer T.b_Layer_init))
    (dpss_cons (dps_set 3 sc_word_code.nd (dpe_meth0 T.cl_Layer T.me_Layer_mark (ok_Layer_mark T) (hr.mono (by decide)) T.b_Layer_mark (dpe_var 2)))
    (dpss_cons (dps_set 4 sc_word_code.nd (dpe_meth0 T.cl_Layer T.me_Layer_mark (ok_Layer_mark T) (hr.mono (by decide)) T.b_Layer_mark (dpe_var 2)))
    (dpss_cons (dps_expr (dpe_call (ok_lay_body T) (hr.mono (by decide)) (by rfl) T.m_lay_body T.F_lay_body.kp T.b_lay_body (dpa_cons (dpe_var 2) (dpa_cons (dpe_var 1) (dpa_cons (dpe_var 3) (dpa_cons (dpe_var 4) (dpa_cons (dpe_var 4) dpa_nil)))))))
    (dpss_cons (dps_expr (dpe_meth T.cl_Layer T.me_Layer_put (ok_Layer_put T) (hr.mono (by decide)) T.b_Layer_put (dpe_var 2) (dpa_cons (dpe_var 4) dpa_nil)))
    (dpss_cons (dps_expr (dpe_meth T.cl_Layer T.me_Layer_add (ok_Layer_add T) (hr.mono (by decide)) T.b_Layer_add (dpe_var 2) (dpa_cons (dpe_tup (dpa_cons dpe_str dpa_nil)) dpa_nil)))
    (dpss_one (dps_ret (dpe_callTy dcall_tuple (by rfl) T.z_tuple boot_tuple (dpa_cons (dpe_lc (tg := (.nm 5)) (own := [("row", 5)]) sc_word_code.nd (dpi_seq (dpe_fld T.cl_Layer T.na_Layer_rows (dpe_var 2))) (blkOk_by (own := [("row", 5)]) (N := N_word_code) (sc := defScope s_word_code) (by decide +kernel)) (fun _ _ _ _ _ => dpg_name 5 sc_word_code.nd) (fun _ _ _ _ _ => dpt_yes) (fun _ _ _ _ _ => (dpe_call (ok_told_row T) (hr.mono (by decide)) (by rfl) T.m_told_row T.F_told_row.kp T.b_told_row (dpa_cons (dpe_var 2) (dpa_cons (dpe_var 0) (dpa_cons (dpe_var 5) dpa_nil)))))) dpa_nil))))))))))
theorem ok_word_code (T : Txt K mg) : FnD P w K mg base 65 T.f_word_code T.fd_word_code ["deeds", "body"] (a2 sp_word_code) := FnD.mk T.F_word_code sc_word_code a2_len (dv_word_code T) rd_word_code_ok
theorem dv_code_of (T : Txt K mg) : ∀ (cdv : Value) (A : Around) (outer : List Env) (s : Shared) (H : Hp) (E : XK), Room 65 (A.deeper (envOfC "code_of" (defScope s_code_of) s.heap.objs.size T.f_code_of cdv)) → DPSs (cxOf CX0 P w K mg base N_code_of "code_of" (defScope s_code_of) T.f_code_of cdv A outer s H E).nox (KG.top K) (defBody s_code_of) rd_code_of := by
    intro cdv A outer s H E hr
    unfold rd_code_of
    exact (dpss_one (dps_ret (dpe_callTy dcall_tuple (by rfl) T.z_tuple boot_tuple (dpa_cons (dpe_lc (tg := (.nm 1)) (own := [("body", 1)]) sc_code_of.nd (dpi_tup (dpe_ix dix (dpe_var 0) dpe_int)) (blkOk_by (own := [("body", 1)]) (N := N_code_of) (sc := defScope s_code_of) (by decide +kernel)) (fun _ _ _ _ _ => dpg_name 1 sc_code_of.nd) (fun _ _ _ _ _ => dpt_yes) (fun _ _ _ _ _ => (dpe_call (ok_word_code T) (hr.mono (by decide)) (by rfl) T.m_word_code T.F_word_code.kp T.b_word_code (dpa_cons (dpe_ix dix (dpe_var 0) dpe_int) (dpa_cons (dpe_var 1) dpa_nil))))) dpa_nil))))
theorem ok_code_of (T : Txt K mg) : FnD P w K mg base 66 T.f_code_of T.fd_code_of ["program"] (a1 sp_code_of) := FnD.mk T.F_code_of sc_code_of a1_len (dv_code_of T) rd_code_of_ok
theorem dv_rows_number (T : Txt K mg) : ∀ (cdv : Value) (A : Around) (outer : List Env) (s : Shared) (H : Hp) (E : XK), Room 0 (A.deeper (envOfC "rows_number" (defScope s_rows_number) s.heap.objs.size T.f_rows_number cdv)) → DPSs (cxOf CX0 P w K mg base N_rows_number "rows_number" (defScope s_rows_number) T.f_rows_number cdv A outer s H E).nox (KG.top K) (defBody s_rows_number) rd_rows_number := by
    intro cdv A outer s H E hr
    unfold rd_rows_number
    exact (dpss_one (dps_ret (dpe_callB (dcall_sum rfl) (by rfl) T.z_sum boot_sum (dpa_cons (dpe_lc (tg := (.nm 1)) (own := [("rows", 1)]) sc_rows_number.nd (dpi_tup (dpe_var 0)) (blkOk_by (own := [("rows", 1)]) (N := N_rows_number) (sc := defScope s_rows_number) (by decide +kernel)) (fun _ _ _ _ _ => dpg_name 1 sc_rows_number.nd) (fun _ _ _ _ _ => dpt_yes) (fun _ _ _ _ _ => (dpe_callB dcall_len (by rfl) T.z_len boot_len (dpa_cons (dpe_var 1) dpa_nil)))) dpa_nil))))
theorem ok_rows_number (T : Txt K mg) : FnD P w K mg base 1 T.f_rows_number T.fd_rows_number ["code"] (a1 sp_rows_number) := FnD.mk T.F_rows_number sc_rows_number a1_len (dv_rows_number T) rd_rows_number_ok
theorem dv_law_churn (T : Txt K mg) : ∀ (cdv : Value) (A : Around) (outer : List Env) (s : Shared) (H : Hp) (E : XK), Room 0 (A.deeper (envOfC "_law_churn" (defScope s_law_churn) s.heap.objs.size T.f_law_churn cdv)) → DPSs (cxOf CX0 P w K mg base N_law_churn "_law_churn" (defScope s_law_churn) T.f_law_churn cdv A outer s H E).nox (KG.top K) (defBody s_law_churn) rd_law_churn := by
    intro cdv A outer s H E hr
    unfold rd_law_churn
    exact (dpss_cons (dps_par (i := 1) (j := 2) sc_law_churn.nd rfl rfl (by decide) rfl rfl (dpa_cons (dpe_lstM dpa_nil) (dpa_cons dpe_int dpa_nil)))
    (dpss_cons (dps_for (dpi_seq (dpe_slice dsl (dpe_var 0) dpo_none (dpo_some dpe_int))) (dpg_tg (dpg_name 3 sc_law_churn.nd)) (dpss_cons (dps_set 4 sc_law_churn.nd (dpe_op dop_mod (dpe_callB dcall_abs (by rfl) T.z_abs boot_abs (dpa_cons (dpe_callTy dcall_int (by rfl) T.z_int boot_int (dpa_cons (dpe_var 3) dpa_nil)) dpa_nil)) (dpe_op dop_shl dpe_int dpe_int)))
    (dpss_cons (dps_set 2 sc_law_churn.nd (dpe_op dop_mod (dpe_op dop_add (dpe_op dop_add (dpe_op dop_mul (dpe_var 2) dpe_int) (dpe_op dop_mod (dpe_callTy dcall_int (by rfl) T.z_int boot_int (dpa_cons (dpe_var 4) dpa_nil)) dpe_int)) dpe_int) dpe_int))
    (dpss_one (dps_if (dpt_cmp dop_ge (dpe_var 4) (dpe_op dop_pow dpe_int dpe_int)) (dpss_one (dps_expr (dpe_lm PySem.F.slot_list_append PySem.F.type_list_append mt_append lr_append (dpe_var 1) (dpa_cons (dpe_var 4) dpa_nil)))) dpss_nil)))))
    (dpss_one (dps_ret (dpe_disp (ks := [Sum.inr "great", Sum.inr "mixed", Sum.inr "turn"]) (ts := [(dRevM (dVar 1)), (dVar 2), (dC (.int 0))]) (pps_cons (tk := tKey (Sum.inr "great")) pe_str (dpe_revM (dpe_var 1)) (pps_cons (tk := tKey (Sum.inr "mixed")) pe_str (dpe_var 2) (pps_cons (tk := tKey (Sum.inr "turn")) pe_str dpe_int pps_nil))) (by decide) (by decide) rfl)))))
theorem ok_law_churn (T : Txt K mg) : FnD P w K mg base 1 T.f_law_churn T.fd_law_churn ["script"] (a1 sp_law_churn) := FnD.mk T.F_law_churn sc_law_churn a1_len (dv_law_churn T) rd_law_churn_ok
theorem dv_law_pour (T : Txt K mg) : ∀ (cdv : Value) (A : Around) (outer : List Env) (s : Shared) (H : Hp) (E : XK), Room 0 (A.deeper (envOfC "_law_pour" (defScope s_law_pour) s.heap.objs.size T.f_law_pour cdv)) → DPSs (cxOf CX0 P w K mg base N_law_pour "_law_pour" (defScope s_law_pour) T.f_law_pour cdv A outer s H E).nox (KG.top K) (defBody s_law_pour) rd_law_pour := by
    intro cdv A outer s H E hr
    unfold rd_law_pour
    exact (dpss_cons (dps_if (dpt_cmp dop_gt (dpe_callB dcall_len (by rfl) T.z_len boot_len (dpa_cons (dpe_dget (hu_of hr) (dpe_var 0) dpe_str) dpa_nil)) dpe_int) (dpss_cons (dps_set 2 sc_law_pour.nd (dpe_callTy dcall_int (by rfl) T.z_int boot_int (dpa_cons (dpe_lm0 PySem.F.slot_list_pop PySem.F.type_list_pop mt_pop lr_pop (dpe_dget (hu_of hr) (dpe_var 0) dpe_str)) dpa_nil)))
    (dpss_cons (dps_if (dpt_cmp dop_ge (dpe_var 2) (dpe_var 1)) (dpss_one (dps_expr (dpe_lm PySem.F.slot_list_append PySem.F.type_list_append mt_append lr_append (dpe_dget (hu_of hr) (dpe_var 0) dpe_str) (dpa_cons (dpe_op dop_div (dpe_var 2) (dpe_var 1)) dpa_nil)))) dpss_nil)
    (dpss_one (dps_ret (dpe_op dop_mod (dpe_var 2) (dpe_var 1)))))) dpss_nil)
    (dpss_cons (dps_dput (hu_of hr) (dpe_var 0) dpe_str (dpe_op dop_add (dpe_dget (hu_of hr) (dpe_var 0) dpe_str) dpe_int))
    (dpss_cons (dps_dput (hu_of hr) (dpe_var 0) dpe_str (dpe_op dop_mod (dpe_op dop_add (dpe_op dop_add (dpe_op dop_mul (dpe_callTy dcall_int (by rfl) T.z_int boot_int (dpa_cons (dpe_dget (hu_of hr) (dpe_var 0) dpe_str) dpa_nil)) dpe_int) (dpe_op dop_mul (dpe_dget (hu_of hr) (dpe_var 0) dpe_str) dpe_int)) dpe_int) dpe_int))
    (dpss_one (dps_ret (dpe_op dop_mod (dpe_callTy dcall_int (by rfl) T.z_int boot_int (dpa_cons (dpe_op dop_div (dpe_dget (hu_of hr) (dpe_var 0) dpe_str) dpe_int) dpa_nil)) (dpe_var 1)))))))
theorem ok_law_pour (T : Txt K mg) : FnD P w K mg base 1 T.f_law_pour T.fd_law_pour ["jug", "many"] (a2 sp_law_pour) := FnD.mk T.F_law_pour sc_law_pour a2_len (dv_law_pour T) rd_law_pour_ok
theorem dv_law_equal (T : Txt K mg) : ∀ (cdv : Value) (A : Around) (outer : List Env) (s : Shared) (H : Hp) (E : XK), Room 0 (A.deeper (envOfC "_law_equal" (defScope s_law_equal) s.heap.objs.size T.f_law_equal cdv)) → DPSs (cxOf CX0 P w K mg base N_law_equal "_law_equal" (defScope s_law_equal) T.f_law_equal cdv A outer s H E).nox (KG.top K) (defBody s_law_equal) rd_law_equal := by
    intro cdv A outer s H E hr
    unfold rd_law_equal
    exact (dpss_cons (dps_set 2 sc_law_equal.nd (dpe_lstM (dpa_cons (dpe_tup (dpa_cons (dpe_var 0) (dpa_cons (dpe_var 1) dpa_nil))) dpa_nil)))
    (dpss_cons (dps_while (dpt_cmp dop_gt (dpe_callB dcall_len (by rfl) T.z_len boot_len (dpa_cons (dpe_var 2) dpa_nil)) dpe_int) (dpss_cons (dps_asg (dpe_lm0 PySem.F.slot_list_pop PySem.F.type_list_pop mt_pop lr_pop (dpe_var 2)) (dpg_tg (tg := .tp [3, 4]) (pg_tup rfl (pgs_cons (dpg_name 3 sc_law_equal.nd) (pgs_cons (dpg_name 4 sc_law_equal.nd) pgs_nil)))))
    (dpss_one (dps_if (dpt_val (dpe_callB dcall_isi (by rfl) T.z_isinstance boot_isinstance (dpa_cons (dpe_var 4) (dpa_cons (dpe_ty (by rfl) T.z_tuple boot_tuple) dpa_nil)))) (dpss_cons (dps_if (DPW.pt (dpw_or (dpt_not (dpt_val (dpe_callB dcall_isi (by rfl) T.z_isinstance boot_isinstance (dpa_cons (dpe_var 3) (dpa_cons (dpe_ty (by rfl) T.z_tuple boot_tuple) dpa_nil))))) (dpw_or1 (dpt_cmp (dop_ne hr.units) (dpe_callB dcall_len (by rfl) T.z_len boot_len (dpa_cons (dpe_var 3) dpa_nil)) (dpe_callB dcall_len (by rfl) T.z_len boot_len (dpa_cons (dpe_var 4) dpa_nil)))))) (dpss_one (dps_ret dpe_bl)) dpss_nil)
    (dpss_one (dps_for (dpi_range1 (by rfl) T.z_range (dpe_callB dcall_len (by rfl) T.z_len boot_len (dpa_cons (dpe_var 4) dpa_nil))) (dpg_tg (dpg_name 5 sc_law_equal.nd)) (dpss_one (dps_expr (dpe_lm PySem.F.slot_list_append PySem.F.type_list_append mt_append lr_append (dpe_var 2) (dpa_cons (dpe_tup (dpa_cons (dpe_ix dix (dpe_var 3) (dpe_var 5)) (dpa_cons (dpe_ix dix (dpe_var 4) (dpe_var 5)) dpa_nil))) dpa_nil))))))) (dpss_one (dps_if (dpt_val (dpe_callB dcall_isi (by rfl) T.z_isinstance boot_isinstance (dpa_cons (dpe_var 4) (dpa_cons (dpe_ty (by rfl) T.z_str boot_str) dpa_nil)))) (dpss_one (dps_if (DPW.pt (dpw_or (dpt_not (dpt_val (dpe_callB dcall_isi (by rfl) T.z_isinstance boot_isinstance (dpa_cons (dpe_var 3) (dpa_cons (dpe_ty (by rfl) T.z_str boot_str) dpa_nil))))) (dpw_or1 (dpt_cmp (dop_ne hr.units) (dpe_var 3) (dpe_var 4))))) (dpss_one (dps_ret dpe_bl)) dpss_nil)) (dpss_one (dps_if (DPW.pt (dpw_or (dpt_not (dpt_val (dpe_callB dcall_isi (by rfl) T.z_isinstance boot_isinstance (dpa_cons (dpe_var 3) (dpa_cons (dpe_ty (by rfl) T.z_int boot_int) dpa_nil))))) (dpw_or (dpt_val (dpe_callB dcall_isi (by rfl) T.z_isinstance boot_isinstance (dpa_cons (dpe_var 3) (dpa_cons (dpe_ty (by rfl) T.z_bool boot_bool) dpa_nil)))) (dpw_or1 (dpt_cmp (dop_ne hr.units) (dpe_var 3) (dpe_var 4)))))) (dpss_one (dps_ret dpe_bl)) dpss_nil))))))))
    (dpss_one (dps_ret dpe_bl))))
theorem ok_law_equal (T : Txt K mg) : FnD P w K mg base 1 T.f_law_equal T.fd_law_equal ["told", "due"] (a2 sp_law_equal) := FnD.mk T.F_law_equal sc_law_equal a2_len (dv_law_equal T) rd_law_equal_ok
theorem dv_law_lays_nothing (T : Txt K mg) {k : Nat} {spr_law_lays_nothing : DSp} (G_law_lays_nothing : FnD P w K mg base k T.f_law_lays_nothing T.fd_law_lays_nothing ["statement"] spr_law_lays_nothing) (hk : 0 ≤ k) : ∀ (cdv : Value) (A : Around) (outer : List Env) (s : Shared) (H : Hp) (E : XK), Room k (A.deeper (envOfC "_law_lays_nothing" (defScope s_law_lays_nothing) s.heap.objs.size T.f_law_lays_nothing cdv)) → DPSs (cxOf CX0 P w K mg base N_law_lays_nothing "_law_lays_nothing" (defScope s_law_lays_nothing) T.f_law_lays_nothing cdv A outer s H E).nox (KG.top K) (defBody s_law_lays_nothing) (rd_law_lays_nothing spr_law_lays_nothing) := by
    intro cdv A outer s H E hr
    unfold rd_law_lays_nothing
    exact (dpss_cons (dps_if (dpt_cmp (dop_ne hr.units) (dpe_ix dix (dpe_var 0) dpe_int) dpe_str) (dpss_one (dps_ret dpe_bl)) dpss_nil)
    (dpss_one (dps_ret (dpe_or (dpe_cmp (dop_eq hr.units) (dpe_ix dix (dpe_var 0) dpe_int) dpe_int) (dpe_one (dpe_cmp (dop_eq hr.units) (dpe_callB dcall_len (by rfl) T.z_len boot_len (dpa_cons (dpe_lc (tg := (.nm 1)) (own := [("one", 1)]) sc_law_lays_nothing.nd (dpi_tup (dpe_ix dix (dpe_var 0) dpe_int)) (blkOk_by (own := [("one", 1)]) (N := N_law_lays_nothing) (sc := defScope s_law_lays_nothing) (by decide +kernel)) (fun _ _ _ _ _ => dpg_name 1 sc_law_lays_nothing.nd) (fun _ _ _ _ _ => dpts_one (dpt_not (dpt_val (dpe_call G_law_lays_nothing hr (by rfl) T.m_law_lays_nothing T.F_law_lays_nothing.kp T.b_law_lays_nothing (dpa_cons (dpe_var 1) dpa_nil))))) (fun _ _ _ _ _ => (dpe_var 1))) dpa_nil)) dpe_int))))))
theorem okn_law_lays_nothing (T : Txt K mg) : ∀ n, FnD P w K mg base (n + 1) T.f_law_lays_nothing T.fd_law_lays_nothing ["statement"] (a1 (sr_law_lays_nothing n))
  | 0 => FnD.mk T.F_law_lays_nothing sc_law_lays_nothing a1_len (dv_law_lays_nothing T (k := 0) (spr_law_lays_nothing := fun _ _ _ => False) FnD.none (by omega)) (rd_law_lays_nothing_ok 0 _ (fun m e => by cases e))
  | n + 1 => FnD.mk T.F_law_lays_nothing sc_law_lays_nothing a1_len (dv_law_lays_nothing T (okn_law_lays_nothing T n) (by omega)) (rd_law_lays_nothing_ok (n + 1) _ (fun m e => by cases e; rfl))
theorem ok_law_lays_nothing (T : Txt K mg) : FnD P w K mg base 21 T.f_law_lays_nothing T.fd_law_lays_nothing ["statement"] (a1 sp_law_lays_nothing) := okn_law_lays_nothing T 20
theorem dv_law_at_once (T : Txt K mg) {k : Nat} {spr_law_at_once : DSp} (G_law_at_once : FnD P w K mg base k T.f_law_at_once T.fd_law_at_once ["body"] spr_law_at_once) (hk : 21 ≤ k) : ∀ (cdv : Value) (A : Around) (outer : List Env) (s : Shared) (H : Hp) (E : XK), Room k (A.deeper (envOfC "_law_at_once" (defScope s_law_at_once) s.heap.objs.size T.f_law_at_once cdv)) → DPSs (cxOf CX0 P w K mg base N_law_at_once "_law_at_once" (defScope s_law_at_once) T.f_law_at_once cdv A outer s H E).nox (KG.top K) (defBody s_law_at_once) (rd_law_at_once spr_law_at_once) := by
    intro cdv A outer s H E hr
    unfold rd_law_at_once
    exact (dpss_cons (dps_for (dpi_tup (dpe_var 0)) (dpg_tg (dpg_name 1 sc_law_at_once.nd)) (dpss_one (dps_if (dpt_not (dpt_val (dpe_call (ok_law_lays_nothing T) (hr.mono (by omega)) (by rfl) T.m_law_lays_nothing T.F_law_lays_nothing.kp T.b_law_lays_nothing (dpa_cons (dpe_var 1) dpa_nil)))) (dpss_one (dps_ret (dpe_or (dpe_cmp (dop_eq hr.units) (dpe_ix dix (dpe_var 1) dpe_int) dpe_str) (dpe_one (dpe_and (dpe_cmp (dop_eq hr.units) (dpe_ix dix (dpe_var 1) dpe_int) dpe_str) (dpe_one (dpe_call G_law_at_once hr (by rfl) T.m_law_at_once T.F_law_at_once.kp T.b_law_at_once (dpa_cons (dpe_ix dix (dpe_var 1) dpe_int) dpa_nil)))))))) dpss_nil)))
    (dpss_one (dps_ret dpe_bl)))
theorem okn_law_at_once (T : Txt K mg) : ∀ n, FnD P w K mg base (n + 22) T.f_law_at_once T.fd_law_at_once ["body"] (a1 (sr_law_at_once n))
  | 0 => FnD.mk T.F_law_at_once sc_law_at_once a1_len (dv_law_at_once T (k := 21) (spr_law_at_once := fun _ _ _ => False) FnD.none (by omega)) (rd_law_at_once_ok 0 _ (fun m e => by cases e))
  | n + 1 => FnD.mk T.F_law_at_once sc_law_at_once a1_len (dv_law_at_once T (okn_law_at_once T n) (by omega)) (rd_law_at_once_ok (n + 1) _ (fun m e => by cases e; rfl))
theorem ok_law_at_once (T : Txt K mg) : FnD P w K mg base 42 T.f_law_at_once T.fd_law_at_once ["body"] (a1 sp_law_at_once) := okn_law_at_once T 20
theorem dv_law_mark (T : Txt K mg) : ∀ (cdv : Value) (A : Around) (outer : List Env) (s : Shared) (H : Hp) (E : XK), Room 0 (A.deeper (envOfC "_law_mark" (defScope s_law_mark) s.heap.objs.size T.f_law_mark cdv)) → DPSs (cxOf CX0 P w K mg base N_law_mark "_law_mark" (defScope s_law_mark) T.f_law_mark cdv A outer s H E).nox (KG.top K) (defBody s_law_mark) rd_law_mark := by
    intro cdv A outer s H E hr
    unfold rd_law_mark
    exact (dpss_cons (dps_expr (dpe_lm PySem.F.slot_list_append PySem.F.type_list_append mt_append lr_append (dpe_var 0) (dpa_cons dpe_non dpa_nil)))
    (dpss_one (dps_ret (dpe_op dop_sub (dpe_callB dcall_len (by rfl) T.z_len boot_len (dpa_cons (dpe_var 0) dpa_nil)) dpe_int))))
theorem ok_law_mark (T : Txt K mg) : FnD P w K mg base 1 T.f_law_mark T.fd_law_mark ["marks"] (a1 sp_law_mark) := FnD.mk T.F_law_mark sc_law_mark a1_len (dv_law_mark T) rd_law_mark_ok
theorem dv_law_lay_inner (T : Txt K mg) {k : Nat} {spr_law_lay : DSp} (G_law_lay : FnD P w K mg base k T.f_law_lay T.fd_law_lay ["state", "body", "begin", "behind"] spr_law_lay) (hk : 1 ≤ k) : ∀ (cdv : Value) (A : Around) (outer : List Env) (s : Shared) (H : Hp) (E : XK), Room k (A.deeper (envOfC "_law_lay_inner" (defScope s_law_lay_inner) s.heap.objs.size T.f_law_lay_inner cdv)) → DPSs (cxOf CX0 P w K mg base N_law_lay_inner "_law_lay_inner" (defScope s_law_lay_inner) T.f_law_lay_inner cdv A outer s H E).nox (KG.top K) (defBody s_law_lay_inner) (rd_law_lay_inner spr_law_lay) := by
    intro cdv A outer s H E hr
    unfold rd_law_lay_inner
    exact (dpss_cons (dps_par (i := 4) (j := 5) sc_law_lay_inner.nd rfl rfl (by decide) rfl rfl (dpa_cons (dpe_dget (hu_of hr) (dpe_var 0) dpe_str) (dpa_cons (dpe_dget (hu_of hr) (dpe_var 0) dpe_str) dpa_nil)))
    (dpss_cons (dps_if (dpt_cmp (dop_eq hr.units) (dpe_ix dix (dpe_var 1) dpe_int) dpe_str) (dpss_cons (dps_for (dpi_range1 (by rfl) T.z_range (dpe_ix dix (dpe_var 1) dpe_int)) (dpg_tg (dpg_name 6 sc_law_lay_inner.nd)) (dpss_cons (dps_set 7 sc_law_lay_inner.nd (dpe_ifExp (dpt_cmp (dop_eq hr.units) (dpe_var 6) (dpe_op dop_sub (dpe_ix dix (dpe_var 1) dpe_int) dpe_int)) (dpe_var 3) (dpe_call (ok_law_mark T) (hr.mono (by omega)) (by rfl) T.m_law_mark T.F_law_mark.kp T.b_law_mark (dpa_cons (dpe_var 4) dpa_nil))))
    (dpss_cons (dps_expr (dpe_call G_law_lay hr (by rfl) T.m_law_lay T.F_law_lay.kp T.b_law_lay (dpa_cons (dpe_var 0) (dpa_cons (dpe_ix dix (dpe_var 1) dpe_int) (dpa_cons (dpe_var 2) (dpa_cons (dpe_var 7) dpa_nil))))))
    (dpss_one (dps_set 2 sc_law_lay_inner.nd (dpe_var 7))))))
    (dpss_one dps_retN)) dpss_nil)
    (dpss_cons (dps_set 8 sc_law_lay_inner.nd (dpe_lstM (dpa_cons dpe_str (dpa_cons (dpe_lstM dpa_nil) dpa_nil))))
    (dpss_cons (dps_expr (dpe_lm PySem.F.slot_list_append PySem.F.type_list_append mt_append lr_append (dpe_var 5) (dpa_cons (dpe_var 8) dpa_nil)))
    (dpss_cons (dps_if (dpt_cmp (dop_eq hr.units) (dpe_ix dix (dpe_var 1) dpe_int) dpe_str) (dpss_cons (dps_set 9 sc_law_lay_inner.nd (dpe_call (ok_law_mark T) (hr.mono (by omega)) (by rfl) T.m_law_mark T.F_law_mark.kp T.b_law_mark (dpa_cons (dpe_var 4) dpa_nil)))
    (dpss_cons (dps_asg (dpe_lst (dpa_cons (dpe_var 9) (dpa_cons (dpe_var 3) dpa_nil))) (dpg_sub (dpe_var 8) dpe_int))
    (dpss_cons (dps_expr (dpe_call G_law_lay hr (by rfl) T.m_law_lay T.F_law_lay.kp T.b_law_lay (dpa_cons (dpe_var 0) (dpa_cons (dpe_ix dix (dpe_var 1) dpe_int) (dpa_cons (dpe_var 9) (dpa_cons (dpe_var 2) dpa_nil))))))
    (dpss_one dps_retN)))) dpss_nil)
    (dpss_one (dps_for (dpi_tup (dpe_ix dix (dpe_var 1) dpe_int)) (dpg_tg (dpg_name 10 sc_law_lay_inner.nd)) (dpss_cons (dps_set 9 sc_law_lay_inner.nd (dpe_call (ok_law_mark T) (hr.mono (by omega)) (by rfl) T.m_law_mark T.F_law_mark.kp T.b_law_mark (dpa_cons (dpe_var 4) dpa_nil)))
    (dpss_cons (dps_expr (dpe_lm PySem.F.slot_list_append PySem.F.type_list_append mt_append lr_append (dpe_ix dix (dpe_var 8) dpe_int) (dpa_cons (dpe_var 9) dpa_nil)))
    (dpss_one (dps_expr (dpe_call G_law_lay hr (by rfl) T.m_law_lay T.F_law_lay.kp T.b_law_lay (dpa_cons (dpe_var 0) (dpa_cons (dpe_var 10) (dpa_cons (dpe_var 9) (dpa_cons (dpe_var 3) dpa_nil))))))))))))))))
theorem dv_law_lay (T : Txt K mg) {k : Nat} {spr_law_lay_inner : DSp} (G_law_lay_inner : FnD P w K mg base k T.f_law_lay_inner T.fd_law_lay_inner ["state", "one", "here", "then"] spr_law_lay_inner) (hk : 42 ≤ k) : ∀ (cdv : Value) (A : Around) (outer : List Env) (s : Shared) (H : Hp) (E : XK), Room k (A.deeper (envOfC "_law_lay" (defScope s_law_lay) s.heap.objs.size T.f_law_lay cdv)) → DPSs (cxOf CX0 P w K mg base N_law_lay "_law_lay" (defScope s_law_lay) T.f_law_lay cdv A outer s H E).nox (KG.top K) (defBody s_law_lay) (rd_law_lay spr_law_lay_inner) := by
    intro cdv A outer s H E hr
    unfold rd_law_lay
    exact (dpss_cons (dps_set 4 sc_law_lay.nd (dpe_var 2))
    (dpss_cons (dps_for (dpi_tup (dpe_var 1)) (dpg_tg (dpg_name 5 sc_law_lay.nd)) (dpss_cons (dps_if (dpt_val (dpe_call (ok_law_lays_nothing T) (hr.mono (by omega)) (by rfl) T.m_law_lays_nothing T.F_law_lays_nothing.kp T.b_law_lays_nothing (dpa_cons (dpe_var 5) dpa_nil))) (dpss_one dps_continue) dpss_nil)
    (dpss_cons (dps_if (DPW.pt (dpw_or (dpt_cmp (dop_eq hr.units) (dpe_ix dix (dpe_var 5) dpe_int) dpe_str) (dpw_or1 (DPW.pt (dpw_and (dpt_cmp (dop_eq hr.units) (dpe_ix dix (dpe_var 5) dpe_int) dpe_str) (dpw_and1 (dpt_val (dpe_call (ok_law_at_once T) (hr.mono (by omega)) (by rfl) T.m_law_at_once T.F_law_at_once.kp T.b_law_at_once (dpa_cons (dpe_ix dix (dpe_var 5) dpe_int) dpa_nil))))))))) (dpss_cons (dps_asg (dpe_tup (dpa_cons dpe_str (dpa_cons dpe_int dpa_nil))) (dpg_sub (dpe_dget (hu_of hr) (dpe_var 0) dpe_str) (dpe_var 4)))
    (dpss_one dps_retN)) dpss_nil)
    (dpss_cons (dps_set 6 sc_law_lay.nd (dpe_call (ok_law_mark T) (hr.mono (by omega)) (by rfl) T.m_law_mark T.F_law_mark.kp T.b_law_mark (dpa_cons (dpe_dget (hu_of hr) (dpe_var 0) dpe_str) dpa_nil)))
    (dpss_cons (dps_if (dpt_cmp (dop_ne hr.units) (dpe_ix dix (dpe_var 5) dpe_int) dpe_str) (dpss_one (dps_asg (dpe_tup (dpa_cons dpe_str (dpa_cons (dpe_callB dcall_len (by rfl) T.z_len boot_len (dpa_cons (dpe_dget (hu_of hr) (dpe_var 0) dpe_str) dpa_nil)) dpa_nil))) (dpg_sub (dpe_dget (hu_of hr) (dpe_var 0) dpe_str) (dpe_var 4)))) dpss_nil)
    (dpss_cons (dps_if (dpt_cmp (dop_eq hr.units) (dpe_ix dix (dpe_var 5) dpe_int) dpe_str) (dpss_one (dps_expr (dpe_lm PySem.F.slot_list_append PySem.F.type_list_append mt_append lr_append (dpe_dget (hu_of hr) (dpe_var 0) dpe_str) (dpa_cons (dpe_lst (dpa_cons dpe_str (dpa_cons (dpe_ix dix (dpe_ix dix (dpe_dget (hu_of hr) (dpe_var 0) dpe_str) (dpe_ix dix (dpe_var 5) dpe_int)) dpe_int) (dpa_cons (dpe_ix dix (dpe_ix dix (dpe_dget (hu_of hr) (dpe_var 0) dpe_str) (dpe_ix dix (dpe_var 5) dpe_int)) dpe_int) (dpa_cons (dpe_var 6) dpa_nil))))) dpa_nil)))) (dpss_one (dps_if (dpt_cmp (dop_eq hr.units) (dpe_ix dix (dpe_var 5) dpe_int) dpe_str) (dpss_one (dps_expr (dpe_lm PySem.F.slot_list_append PySem.F.type_list_append mt_append lr_append (dpe_dget (hu_of hr) (dpe_var 0) dpe_str) (dpa_cons (dpe_lst (dpa_cons dpe_str (dpa_cons (dpe_ix dix (dpe_var 5) dpe_int) (dpa_cons (dpe_var 6) dpa_nil)))) dpa_nil)))) (dpss_one (dps_expr (dpe_call G_law_lay_inner hr (by rfl) T.m_law_lay_inner T.F_law_lay_inner.kp T.b_law_lay_inner (dpa_cons (dpe_var 0) (dpa_cons (dpe_var 5) (dpa_cons (dpe_var 4) (dpa_cons (dpe_var 6) dpa_nil))))))))))
    (dpss_one (dps_set 4 sc_law_lay.nd (dpe_var 6)))))))))
    (dpss_one (dps_asg (dpe_tup (dpa_cons dpe_str (dpa_cons (dpe_var 3) dpa_nil))) (dpg_sub (dpe_dget (hu_of hr) (dpe_var 0) dpe_str) (dpe_var 4))))))
theorem okn_law_lay (T : Txt K mg) : ∀ n, FnD P w K mg base (n + 43) T.f_law_lay T.fd_law_lay ["state", "body", "begin", "behind"] (a4 (sr_law_lay n)) ∧ FnD P w K mg base (n + 43) T.f_law_lay_inner T.fd_law_lay_inner ["state", "one", "here", "then"] (a4 (sr_law_lay_inner n))
  | 0 => ⟨FnD.mk T.F_law_lay sc_law_lay a4_len (dv_law_lay T (k := 42) (spr_law_lay_inner := fun _ _ _ => False) FnD.none (by omega)) (rd_law_lay_ok 0 _ (fun m e => by cases e)), FnD.mk T.F_law_lay_inner sc_law_lay_inner a4_len (dv_law_lay_inner T (k := 42) (spr_law_lay := fun _ _ _ => False) FnD.none (by omega)) (rd_law_lay_inner_ok 0 _ (fun m e => by cases e))⟩
  | n + 1 => ⟨FnD.mk T.F_law_lay sc_law_lay a4_len (dv_law_lay T ((okn_law_lay T n).2) (by omega)) (rd_law_lay_ok (n + 1) _ (fun m e => by cases e; rfl)), FnD.mk T.F_law_lay_inner sc_law_lay_inner a4_len (dv_law_lay_inner T ((okn_law_lay T n).1) (by omega)) (rd_law_lay_inner_ok (n + 1) _ (fun m e => by cases e; rfl))⟩
theorem ok_law_lay (T : Txt K mg) : FnD P w K mg base 63 T.f_law_lay T.fd_law_lay ["state", "body", "begin", "behind"] (a4 sp_law_lay) := (okn_law_lay T 20).1
theorem ok_law_lay_inner (T : Txt K mg) : FnD P w K mg base 63 T.f_law_lay_inner T.fd_law_lay_inner ["state", "one", "here", "then"] (a4 sp_law_lay_inner) := (okn_law_lay T 20).2
theorem dv_law_found (T : Txt K mg) : ∀ (cdv : Value) (A : Around) (outer : List Env) (s : Shared) (H : Hp) (E : XK), Room 0 (A.deeper (envOfC "_law_found" (defScope s_law_found) s.heap.objs.size T.f_law_found cdv)) → DPSs (cxOf CX0 P w K mg base N_law_found "_law_found" (defScope s_law_found) T.f_law_found cdv A outer s H E).nox (KG.top K) (defBody s_law_found) rd_law_found := by
    intro cdv A outer s H E hr
    unfold rd_law_found
    exact (dpss_cons (dps_while (dpt_cmp (dop_eq hr.units) (dpe_ix dix (dpe_ix dix (dpe_var 0) (dpe_var 1)) dpe_int) dpe_str) (dpss_one (dps_set 1 sc_law_found.nd (dpe_ix dix (dpe_ix dix (dpe_var 0) (dpe_var 1)) dpe_int))))
    (dpss_one (dps_ret (dpe_ix dix (dpe_ix dix (dpe_var 0) (dpe_var 1)) dpe_int))))
theorem ok_law_found (T : Txt K mg) : FnD P w K mg base 1 T.f_law_found T.fd_law_found ["marks", "mark"] (a2 sp_law_found) := FnD.mk T.F_law_found sc_law_found a2_len (dv_law_found T) rd_law_found_ok
theorem dv_law_word (T : Txt K mg) : ∀ (cdv : Value) (A : Around) (outer : List Env) (s : Shared) (H : Hp) (E : XK), Room 63 (A.deeper (envOfC "_law_word" (defScope s_law_word) s.heap.objs.size T.f_law_word cdv)) → DPSs (cxOf CX0 P w K mg base N_law_word "_law_word" (defScope s_law_word) T.f_law_word cdv A outer s H E).nox (KG.top K) (defBody s_law_word) rd_law_word := by
    intro cdv A outer s H E hr
    unfold rd_law_word
    exact (dpss_cons (dps_set 2 sc_law_word.nd (dpe_disp (ks := [Sum.inr "rows", Sum.inr "marks", Sum.inr "deeds"]) (ts := [(dLstM dNil), (dLstM (dCons (dC .non) dNil)), (dVar 0)]) (pps_cons (tk := tKey (Sum.inr "rows")) pe_str (dpe_lstM dpa_nil) (pps_cons (tk := tKey (Sum.inr "marks")) pe_str (dpe_lstM (dpa_cons dpe_non dpa_nil)) (pps_cons (tk := tKey (Sum.inr "deeds")) pe_str (dpe_var 0) pps_nil))) (by decide) (by decide) rfl))
    (dpss_cons (dps_expr (dpe_call (ok_law_lay T) (hr.mono (by decide)) (by rfl) T.m_law_lay T.F_law_lay.kp T.b_law_lay (dpa_cons (dpe_var 2) (dpa_cons (dpe_var 1) (dpa_cons (dpe_call (ok_law_mark T) (hr.mono (by decide)) (by rfl) T.m_law_mark T.F_law_mark.kp T.b_law_mark (dpa_cons (dpe_dget (hu_of hr) (dpe_var 2) dpe_str) dpa_nil)) (dpa_cons dpe_int dpa_nil))))))
    (dpss_cons (dps_asg (dpe_tup (dpa_cons dpe_str (dpa_cons (dpe_callB dcall_len (by rfl) T.z_len boot_len (dpa_cons (dpe_dget (hu_of hr) (dpe_var 2) dpe_str) dpa_nil)) dpa_nil))) (dpg_sub (dpe_dget (hu_of hr) (dpe_var 2) dpe_str) dpe_int))
    (dpss_cons (dps_set 3 sc_law_word.nd (dpe_lstM dpa_nil))
    (dpss_cons (dps_for (dpi_seq (dpe_dget (hu_of hr) (dpe_var 2) dpe_str)) (dpg_tg (dpg_name 4 sc_law_word.nd)) (dpss_one (dps_if (dpt_cmp (dop_eq hr.units) (dpe_ix dix (dpe_var 4) dpe_int) dpe_str) (dpss_one (dps_expr (dpe_lm PySem.F.slot_list_append PySem.F.type_list_append mt_append lr_append (dpe_var 3) (dpa_cons (dpe_tup (dpa_cons dpe_str (dpa_cons (dpe_callTy dcall_tuple (by rfl) T.z_tuple boot_tuple (dpa_cons (dpe_lc (tg := (.nm 5)) (own := [("mark", 5)]) sc_law_word.nd (dpi_seq (dpe_ix dix (dpe_var 4) dpe_int)) (blkOk_by (own := [("mark", 5)]) (N := N_law_word) (sc := defScope s_law_word) (by decide +kernel)) (fun _ _ _ _ _ => dpg_name 5 sc_law_word.nd) (fun _ _ _ _ _ => dpt_yes) (fun _ _ _ _ _ => (dpe_call (ok_law_found T) (hr.mono (by decide)) (by rfl) T.m_law_found T.F_law_found.kp T.b_law_found (dpa_cons (dpe_dget (hu_of hr) (dpe_var 2) dpe_str) (dpa_cons (dpe_var 5) dpa_nil))))) dpa_nil)) dpa_nil))) dpa_nil)))) (dpss_one (dps_expr (dpe_lm PySem.F.slot_list_append PySem.F.type_list_append mt_append lr_append (dpe_var 3) (dpa_cons (dpe_op dop_add (dpe_callTy dcall_tuple (by rfl) T.z_tuple boot_tuple (dpa_cons (dpe_slice dsl (dpe_var 4) dpo_none (dpo_some (dpe_un dun_neg dpe_int))) dpa_nil)) (dpe_tup (dpa_cons (dpe_call (ok_law_found T) (hr.mono (by decide)) (by rfl) T.m_law_found T.F_law_found.kp T.b_law_found (dpa_cons (dpe_dget (hu_of hr) (dpe_var 2) dpe_str) (dpa_cons (dpe_ix dix (dpe_var 4) (dpe_un dun_neg dpe_int)) dpa_nil))) dpa_nil))) dpa_nil)))))))
    (dpss_one (dps_ret (dpe_op dop_add (dpe_callTy dcall_tuple (by rfl) T.z_tuple boot_tuple (dpa_cons (dpe_var 3) dpa_nil)) (dpe_tup (dpa_cons (dpe_tup (dpa_cons dpe_str dpa_nil)) dpa_nil))))))))))
theorem ok_law_word (T : Txt K mg) : FnD P w K mg base 64 T.f_law_word T.fd_law_word ["deeds", "body"] (a2 sp_law_word) := FnD.mk T.F_law_word sc_law_word a2_len (dv_law_word T) rd_law_word_ok
theorem dv_law_size (T : Txt K mg) {k : Nat} {spr_law_size : DSp} (G_law_size : FnD P w K mg base k T.f_law_size T.fd_law_size ["statement"] spr_law_size) (hk : 0 ≤ k) : ∀ (cdv : Value) (A : Around) (outer : List Env) (s : Shared) (H : Hp) (E : XK), Room k (A.deeper (envOfC "_law_size" (defScope s_law_size) s.heap.objs.size T.f_law_size cdv)) → DPSs (cxOf CX0 P w K mg base N_law_size "_law_size" (defScope s_law_size) T.f_law_size cdv A outer s H E).nox (KG.top K) (defBody s_law_size) (rd_law_size spr_law_size) := by
    intro cdv A outer s H E hr
    unfold rd_law_size
    exact (dpss_cons (dps_if (dpt_cmp (dop_eq hr.units) (dpe_ix dix (dpe_var 0) dpe_int) dpe_str) (dpss_one (dps_ret (dpe_op dop_add dpe_int (dpe_callB (dcall_sum rfl) (by rfl) T.z_sum boot_sum (dpa_cons (dpe_lc (tg := (.nm 1)) (own := [("body", 1)]) sc_law_size.nd (dpi_tup (dpe_ix dix (dpe_var 0) dpe_int)) (blkOk_by (own := [("body", 1)]) (N := N_law_size) (sc := defScope s_law_size) (by decide +kernel)) (fun _ _ _ _ _ => dpg_name 1 sc_law_size.nd) (fun _ _ _ _ _ => dpt_yes) (fun _ _ _ _ _ => (dpe_callB (dcall_sum rfl) (by rfl) T.z_sum boot_sum (dpa_cons (dpe_lc (tg := (.nm 2)) (own := [("one", 2)]) sc_law_size.nd (dpi_tup (dpe_var 1)) (blkOk_by (own := [("one", 2)]) (by kernel_rfl)) (fun _ _ _ _ _ => dpg_name 2 sc_law_size.nd) (fun _ _ _ _ _ => dpt_yes) (fun _ _ _ _ _ => (dpe_call G_law_size hr (by rfl) T.m_law_size T.F_law_size.kp T.b_law_size (dpa_cons (dpe_var 2) dpa_nil)))) dpa_nil)))) dpa_nil))))) dpss_nil)
    (dpss_cons (dps_if (dpt_cmp (dop_eq hr.units) (dpe_ix dix (dpe_var 0) dpe_int) dpe_str) (dpss_one (dps_ret (dpe_op dop_add dpe_int (dpe_callB (dcall_sum rfl) (by rfl) T.z_sum boot_sum (dpa_cons (dpe_lc (tg := (.nm 2)) (own := [("one", 2)]) sc_law_size.nd (dpi_tup (dpe_ix dix (dpe_var 0) dpe_int)) (blkOk_by (own := [("one", 2)]) (N := N_law_size) (sc := defScope s_law_size) (by decide +kernel)) (fun _ _ _ _ _ => dpg_name 2 sc_law_size.nd) (fun _ _ _ _ _ => dpt_yes) (fun _ _ _ _ _ => (dpe_call G_law_size hr (by rfl) T.m_law_size T.F_law_size.kp T.b_law_size (dpa_cons (dpe_var 2) dpa_nil)))) dpa_nil))))) dpss_nil)
    (dpss_cons (dps_if (dpt_cmp (dop_eq hr.units) (dpe_ix dix (dpe_var 0) dpe_int) dpe_str) (dpss_one (dps_ret (dpe_op dop_mul (dpe_ix dix (dpe_var 0) dpe_int) (dpe_callB (dcall_sum rfl) (by rfl) T.z_sum boot_sum (dpa_cons (dpe_lc (tg := (.nm 2)) (own := [("one", 2)]) sc_law_size.nd (dpi_tup (dpe_ix dix (dpe_var 0) dpe_int)) (blkOk_by (own := [("one", 2)]) (N := N_law_size) (sc := defScope s_law_size) (by decide +kernel)) (fun _ _ _ _ _ => dpg_name 2 sc_law_size.nd) (fun _ _ _ _ _ => dpt_yes) (fun _ _ _ _ _ => (dpe_call G_law_size hr (by rfl) T.m_law_size T.F_law_size.kp T.b_law_size (dpa_cons (dpe_var 2) dpa_nil)))) dpa_nil))))) dpss_nil)
    (dpss_one (dps_ret dpe_int)))))
theorem okn_law_size (T : Txt K mg) : ∀ n, FnD P w K mg base (n + 1) T.f_law_size T.fd_law_size ["statement"] (a1 (sr_law_size n))
  | 0 => FnD.mk T.F_law_size sc_law_size a1_len (dv_law_size T (k := 0) (spr_law_size := fun _ _ _ => False) FnD.none (by omega)) (rd_law_size_ok 0 _ (fun m e => by cases e))
  | n + 1 => FnD.mk T.F_law_size sc_law_size a1_len (dv_law_size T (okn_law_size T n) (by omega)) (rd_law_size_ok (n + 1) _ (fun m e => by cases e; rfl))
theorem ok_law_size (T : Txt K mg) : FnD P w K mg base 21 T.f_law_size T.fd_law_size ["statement"] (a1 sp_law_size) := okn_law_size T 20
theorem dv_law_body (T : Txt K mg) {k : Nat} {spr_law_body : DSp} (G_law_body : FnD P w K mg base k T.f_law_body T.fd_law_body ["jug", "left", "deep", "sizes"] spr_law_body) (hk : 1 ≤ k) : ∀ (cdv : Value) (A : Around) (outer : List Env) (s : Shared) (H : Hp) (E : XK), Room k (A.deeper (envOfC "_law_body" (defScope s_law_body) s.heap.objs.size T.f_law_body cdv)) → DPSs (cxOf CX0 P w K mg base N_law_body "_law_body" (defScope s_law_body) T.f_law_body cdv A outer s H E).nox (KG.top K) (defBody s_law_body) (rd_law_body spr_law_body) := by
    intro cdv A outer s H E hr
    unfold rd_law_body
    exact (dpss_cons (dps_set 4 sc_law_body.nd (dpe_lstM dpa_nil))
    (dpss_cons (dps_for (dpi_range1 (by rfl) T.z_range (dpe_op dop_add (dpe_call (ok_law_pour T) (hr.mono (by omega)) (by rfl) T.m_law_pour T.F_law_pour.kp T.b_law_pour (dpa_cons (dpe_var 0) (dpa_cons dpe_int dpa_nil))) (dpe_callTy dcall_int (by rfl) T.z_int boot_int (dpa_cons (dpe_cmp dop_gt (dpe_var 2) dpe_int) dpa_nil)))) (dpg_tg (dpg_name 5 sc_law_body.nd)) (dpss_cons (dps_if (dpt_cmp dop_lt (dpe_ix dix (dpe_var 1) dpe_int) dpe_int) (dpss_one dps_break) dpss_nil)
    (dpss_cons (dps_asg (dpe_op dop_sub (dpe_ix dix (dpe_var 1) dpe_int) dpe_int) (dpg_sub (dpe_var 1) dpe_int))
    (dpss_cons (dps_set 6 sc_law_body.nd (dpe_call (ok_law_pour T) (hr.mono (by omega)) (by rfl) T.m_law_pour T.F_law_pour.kp T.b_law_pour (dpa_cons (dpe_var 0) (dpa_cons dpe_int dpa_nil))))
    (dpss_one (dps_if (DPW.pt (dpw_or (dpt_cmp (dop_eq hr.units) (dpe_var 6) dpe_int) (dpw_or1 (DPW.pt (dpw_and (dpt_cmp (dop_eq hr.units) (dpe_var 2) dpe_int) (dpw_and1 (dpt_cmp dop_gt (dpe_var 6) dpe_int))))))) (dpss_one (dps_expr (dpe_lm PySem.F.slot_list_append PySem.F.type_list_append mt_append lr_append (dpe_var 4) (dpa_cons (dpe_tup (dpa_cons dpe_str dpa_nil)) dpa_nil)))) (dpss_one (dps_if (dpt_cmp (dop_eq hr.units) (dpe_var 6) dpe_int) (dpss_one (dps_expr (dpe_lm PySem.F.slot_list_append PySem.F.type_list_append mt_append lr_append (dpe_var 4) (dpa_cons (dpe_tup (dpa_cons dpe_str (dpa_cons (dpe_callTy dcall_tuple (by rfl) T.z_tuple boot_tuple (dpa_cons (dpe_lc (tg := (.nm 7)) (own := [("turn", 7)]) sc_law_body.nd (dpi_range1 (by rfl) T.z_range (dpe_op dop_add dpe_int (dpe_call (ok_law_pour T) (hr.mono (by omega)) (by rfl) T.m_law_pour T.F_law_pour.kp T.b_law_pour (dpa_cons (dpe_var 0) (dpa_cons dpe_int dpa_nil))))) (blkOk_by (own := [("turn", 7)]) (N := N_law_body) (sc := defScope s_law_body) (by decide +kernel)) (fun _ _ _ _ _ => dpg_name 7 sc_law_body.nd) (fun _ _ _ _ _ => dpt_yes) (fun _ _ _ _ _ => (dpe_call G_law_body hr (by rfl) T.m_law_body T.F_law_body.kp T.b_law_body (dpa_cons (dpe_var 0) (dpa_cons (dpe_var 1) (dpa_cons (dpe_op dop_sub (dpe_var 2) dpe_int) (dpa_cons (dpe_var 3) dpa_nil))))))) dpa_nil)) dpa_nil))) dpa_nil)))) (dpss_one (dps_if (dpt_cmp (dop_eq hr.units) (dpe_var 6) dpe_int) (dpss_one (dps_expr (dpe_lm PySem.F.slot_list_append PySem.F.type_list_append mt_append lr_append (dpe_var 4) (dpa_cons (dpe_tup (dpa_cons dpe_str (dpa_cons (dpe_call G_law_body hr (by rfl) T.m_law_body T.F_law_body.kp T.b_law_body (dpa_cons (dpe_var 0) (dpa_cons (dpe_var 1) (dpa_cons (dpe_op dop_sub (dpe_var 2) dpe_int) (dpa_cons (dpe_var 3) dpa_nil))))) dpa_nil))) dpa_nil)))) (dpss_one (dps_if (dpt_cmp (dop_eq hr.units) (dpe_var 6) dpe_int) (dpss_one (dps_expr (dpe_lm PySem.F.slot_list_append PySem.F.type_list_append mt_append lr_append (dpe_var 4) (dpa_cons (dpe_tup (dpa_cons dpe_str (dpa_cons (dpe_ix dix (dpe_tup (dpa_cons dpe_int (dpa_cons dpe_int (dpa_cons dpe_int (dpa_cons dpe_int dpa_nil))))) (dpe_call (ok_law_pour T) (hr.mono (by omega)) (by rfl) T.m_law_pour T.F_law_pour.kp T.b_law_pour (dpa_cons (dpe_var 0) (dpa_cons dpe_int dpa_nil)))) (dpa_cons (dpe_call G_law_body hr (by rfl) T.m_law_body T.F_law_body.kp T.b_law_body (dpa_cons (dpe_var 0) (dpa_cons (dpe_var 1) (dpa_cons (dpe_op dop_sub (dpe_var 2) dpe_int) (dpa_cons (dpe_var 3) dpa_nil))))) dpa_nil)))) dpa_nil)))) (dpss_one (dps_if (DPW.pt (dpw_and (dpt_cmp dop_gt (dpe_var 6) dpe_int) (dpw_and1 (dpt_cmp dop_gt (dpe_ix dix (dpe_var 3) dpe_int) dpe_int)))) (dpss_one (dps_expr (dpe_lm PySem.F.slot_list_append PySem.F.type_list_append mt_append lr_append (dpe_var 4) (dpa_cons (dpe_tup (dpa_cons dpe_str (dpa_cons (dpe_call (ok_law_pour T) (hr.mono (by omega)) (by rfl) T.m_law_pour T.F_law_pour.kp T.b_law_pour (dpa_cons (dpe_var 0) (dpa_cons (dpe_ix dix (dpe_var 3) dpe_int) dpa_nil))) dpa_nil))) dpa_nil)))) (dpss_one (dps_expr (dpe_lm PySem.F.slot_list_append PySem.F.type_list_append mt_append lr_append (dpe_var 4) (dpa_cons (dpe_tup (dpa_cons dpe_str (dpa_cons (dpe_call (ok_law_pour T) (hr.mono (by omega)) (by rfl) T.m_law_pour T.F_law_pour.kp T.b_law_pour (dpa_cons (dpe_var 0) (dpa_cons (dpe_ix dix (dpe_var 3) dpe_int) dpa_nil))) dpa_nil))) dpa_nil))))))))))))))))))
    (dpss_one (dps_ret (dpe_callTy dcall_tuple (by rfl) T.z_tuple boot_tuple (dpa_cons (dpe_var 4) dpa_nil))))))
theorem okn_law_body (T : Txt K mg) : ∀ n, FnD P w K mg base (n + 2) T.f_law_body T.fd_law_body ["jug", "left", "deep", "sizes"] (a4 (sr_law_body n))
  | 0 => FnD.mk T.F_law_body sc_law_body a4_len (dv_law_body T (k := 1) (spr_law_body := fun _ _ _ => False) FnD.none (by omega)) (rd_law_body_ok 0 _ (fun m e => by cases e))
  | n + 1 => FnD.mk T.F_law_body sc_law_body a4_len (dv_law_body T (okn_law_body T n) (by omega)) (rd_law_body_ok (n + 1) _ (fun m e => by cases e; rfl))
theorem ok_law_body (T : Txt K mg) : FnD P w K mg base 22 T.f_law_body T.fd_law_body ["jug", "left", "deep", "sizes"] (a4 sp_law_body) := okn_law_body T 20
theorem dv_law_pile (T : Txt K mg) : ∀ (cdv : Value) (A : Around) (outer : List Env) (s : Shared) (H : Hp) (E : XK), Room 1 (A.deeper (envOfC "_law_pile" (defScope s_law_pile) s.heap.objs.size T.f_law_pile cdv)) → DPSs (cxOf CX0 P w K mg base N_law_pile "_law_pile" (defScope s_law_pile) T.f_law_pile cdv A outer s H E).nox (KG.top K) (defBody s_law_pile) rd_law_pile := by
    intro cdv A outer s H E hr
    unfold rd_law_pile
    exact (dpss_one (dps_ret (dpe_callTy dcall_tuple (by rfl) T.z_tuple boot_tuple (dpa_cons (dpe_lc (tg := (.nm 2)) (own := [("lap", 2)]) sc_law_pile.nd (dpi_range1 (by rfl) T.z_range (dpe_ix dix (dpe_tup (dpa_cons dpe_int (dpa_cons dpe_int (dpa_cons dpe_int (dpa_cons dpe_int (dpa_cons dpe_int dpa_nil)))))) (dpe_call (ok_law_pour T) (hr.mono (by decide)) (by rfl) T.m_law_pour T.F_law_pour.kp T.b_law_pour (dpa_cons (dpe_var 0) (dpa_cons dpe_int dpa_nil))))) (blkOk_by (own := [("lap", 2)]) (N := N_law_pile) (sc := defScope s_law_pile) (by decide +kernel)) (fun _ _ _ _ _ => dpg_name 2 sc_law_pile.nd) (fun _ _ _ _ _ => dpt_yes) (fun _ _ _ _ _ => (dpe_call (ok_law_pour T) (hr.mono (by decide)) (by rfl) T.m_law_pour T.F_law_pour.kp T.b_law_pour (dpa_cons (dpe_var 0) (dpa_cons (dpe_var 1) dpa_nil))))) dpa_nil))))
theorem ok_law_pile (T : Txt K mg) : FnD P w K mg base 2 T.f_law_pile T.fd_law_pile ["jug", "kinds"] (a2 sp_law_pile) := FnD.mk T.F_law_pile sc_law_pile a2_len (dv_law_pile T) rd_law_pile_ok
theorem dv_law_program (T : Txt K mg) : ∀ (cdv : Value) (A : Around) (outer : List Env) (s : Shared) (H : Hp) (E : XK), Room 22 (A.deeper (envOfC "_law_program" (defScope s_law_program) s.heap.objs.size T.f_law_program cdv)) → DPSs (cxOf CX0 P w K mg base N_law_program "_law_program" (defScope s_law_program) T.f_law_program cdv A outer s H E).nox (KG.top K) (defBody s_law_program) rd_law_program := by
    intro cdv A outer s H E hr
    unfold rd_law_program
    exact (dpss_cons (dps_set 2 sc_law_program.nd (dpe_op dop_add dpe_int (dpe_call (ok_law_pour T) (hr.mono (by decide)) (by rfl) T.m_law_pour T.F_law_pour.kp T.b_law_pour (dpa_cons (dpe_var 0) (dpa_cons dpe_int dpa_nil)))))
    (dpss_cons (dps_set 3 sc_law_program.nd (dpe_callTy dcall_tuple (by rfl) T.z_tuple boot_tuple (dpa_cons (dpe_lc (tg := (.nm 4)) (own := [("k", 4)]) sc_law_program.nd (dpi_range1 (by rfl) T.z_range (dpe_call (ok_law_pour T) (hr.mono (by decide)) (by rfl) T.m_law_pour T.F_law_pour.kp T.b_law_pour (dpa_cons (dpe_var 0) (dpa_cons dpe_int dpa_nil)))) (blkOk_by (own := [("k", 4)]) (N := N_law_program) (sc := defScope s_law_program) (by decide +kernel)) (fun _ _ _ _ _ => dpg_name 4 sc_law_program.nd) (fun _ _ _ _ _ => dpt_yes) (fun _ _ _ _ _ => (dpe_tup (dpa_cons (dpe_op dop_add dpe_str (dpe_callTy dcall_str (by rfl) T.z_str boot_str (dpa_cons (dpe_var 4) dpa_nil))) (dpa_cons (dpe_call (ok_law_pile T) (hr.mono (by decide)) (by rfl) T.m_law_pile T.F_law_pile.kp T.b_law_pile (dpa_cons (dpe_var 0) (dpa_cons (dpe_var 2) dpa_nil))) (dpa_cons (dpe_call (ok_law_pile T) (hr.mono (by decide)) (by rfl) T.m_law_pile T.F_law_pile.kp T.b_law_pile (dpa_cons (dpe_var 0) (dpa_cons (dpe_var 2) dpa_nil))) dpa_nil)))))) dpa_nil)))
    (dpss_cons (dps_set 5 sc_law_program.nd (dpe_slice dsl (dpe_tup (dpa_cons dpe_str (dpa_cons dpe_str (dpa_cons dpe_str dpa_nil)))) dpo_none (dpo_some (dpe_op dop_add dpe_int (dpe_call (ok_law_pour T) (hr.mono (by decide)) (by rfl) T.m_law_pour T.F_law_pour.kp T.b_law_pour (dpa_cons (dpe_var 0) (dpa_cons dpe_int dpa_nil)))))))
    (dpss_cons (dps_set 6 sc_law_program.nd (dpe_lstM (dpa_cons (dpe_var 1) dpa_nil)))
    (dpss_cons (dps_setLcM (i := 7) (tg := (.nm 8)) (own := [("name", 8)]) sc_law_program.nd rfl rfl (sw_true rfl rfl rfl (by decide +kernel)) (dpi_tup (dpe_var 5)) (blkOk_by (own := [("name", 8)]) (N := N_law_program) (sc := defScope s_law_program) (by decide +kernel)) (fun _ _ _ _ _ => dpg_name 8 sc_law_program.nd) (fun _ _ _ _ _ => dpt_yes) (fun _ _ _ _ _ => (dpe_call (ok_law_body T) (hr.mono (by decide)) (by rfl) T.m_law_body T.F_law_body.kp T.b_law_body (dpa_cons (dpe_var 0) (dpa_cons (dpe_var 6) (dpa_cons dpe_int (dpa_cons (dpe_tup (dpa_cons (dpe_callB dcall_len (by rfl) T.z_len boot_len (dpa_cons (dpe_var 3) dpa_nil)) (dpa_cons (dpe_callB dcall_len (by rfl) T.z_len boot_len (dpa_cons (dpe_var 5) dpa_nil)) dpa_nil))) dpa_nil)))))))
    (dpss_cons (dps_while (dpt_cmp dop_gt (dpe_callB (dcall_sum rfl) (by rfl) T.z_sum boot_sum (dpa_cons (dpe_lc (tg := (.nm 9)) (own := [("body", 9)]) sc_law_program.nd (dpi_seq (dpe_var 7)) (blkOk_by (own := [("body", 9)]) (N := N_law_program) (sc := defScope s_law_program) (by decide +kernel)) (fun _ _ _ _ _ => dpg_name 9 sc_law_program.nd) (fun _ _ _ _ _ => dpt_yes) (fun _ _ _ _ _ => (dpe_callB (dcall_sum rfl) (by rfl) T.z_sum boot_sum (dpa_cons (dpe_lc (tg := (.nm 10)) (own := [("one", 10)]) sc_law_program.nd (dpi_tup (dpe_var 9)) (blkOk_by (own := [("one", 10)]) (by kernel_rfl)) (fun _ _ _ _ _ => dpg_name 10 sc_law_program.nd) (fun _ _ _ _ _ => dpt_yes) (fun _ _ _ _ _ => (dpe_call (ok_law_size T) (hr.mono (by decide)) (by rfl) T.m_law_size T.F_law_size.kp T.b_law_size (dpa_cons (dpe_var 10) dpa_nil)))) dpa_nil)))) dpa_nil)) dpe_int) (dpss_cons (dps_setLcM (i := 11) (tg := (.nm 9)) (own := [("body", 9)]) sc_law_program.nd rfl rfl (sw_true rfl rfl rfl (by decide +kernel)) (dpi_seq (dpe_var 7)) (blkOk_by (own := [("body", 9)]) (N := N_law_program) (sc := defScope s_law_program) (by decide +kernel)) (fun _ _ _ _ _ => dpg_name 9 sc_law_program.nd) (fun _ _ _ _ _ => dpt_yes) (fun _ _ _ _ _ => (dpe_callB dcall_len (by rfl) T.z_len boot_len (dpa_cons (dpe_var 9) dpa_nil))))
    (dpss_cons (dps_set 12 sc_law_program.nd (dpe_lm PySem.F.slot_list_index PySem.F.type_list_index mt_index lr_indexI (dpe_var 11) (dpa_cons (dpe_callB (dcall_maxL rfl) (by rfl) T.z_max boot_max (dpa_cons (dpe_var 11) dpa_nil)) dpa_nil)))
    (dpss_one (dps_asg (dpe_slice dsl (dpe_ix dix (dpe_var 7) (dpe_var 12)) dpo_none (dpo_some (dpe_un dun_neg dpe_int))) (dpg_sub (dpe_var 7) (dpe_var 12)))))))
    (dpss_one (dps_ret (dpe_tup (dpa_cons (dpe_callTy dcall_tuple (by rfl) T.z_tuple boot_tuple (dpa_cons (dpe_lc (tg := (.nm 4)) (own := [("k", 4)]) sc_law_program.nd (dpi_range1 (by rfl) T.z_range (dpe_var 2)) (blkOk_by (own := [("k", 4)]) (N := N_law_program) (sc := defScope s_law_program) (by decide +kernel)) (fun _ _ _ _ _ => dpg_name 4 sc_law_program.nd) (fun _ _ _ _ _ => dpt_yes) (fun _ _ _ _ _ => (dpe_op dop_add dpe_str (dpe_callTy dcall_str (by rfl) T.z_str boot_str (dpa_cons (dpe_var 4) dpa_nil))))) dpa_nil)) (dpa_cons (dpe_var 3) (dpa_cons (dpe_var 5) (dpa_cons (dpe_callTy dcall_tuple (by rfl) T.z_tuple boot_tuple (dpa_cons (dpe_var 7) dpa_nil)) dpa_nil)))))))))))))
theorem ok_law_program (T : Txt K mg) : FnD P w K mg base 23 T.f_law_program T.fd_law_program ["jug", "many"] (a2 sp_law_program) := FnD.mk T.F_law_program sc_law_program a2_len (dv_law_program T) rd_law_program_ok
theorem dv_law_asked (T : Txt K mg) : ∀ (cdv : Value) (A : Around) (outer : List Env) (s : Shared) (H : Hp) (E : XK), Room 66 (A.deeper (envOfC "_law_asked" (defScope s_law_asked) s.heap.objs.size T.f_law_asked cdv)) → DPSs (cxOf CX0 P w K mg base N_law_asked "_law_asked" (defScope s_law_asked) T.f_law_asked cdv A outer s H E).nox (KG.top K) (defBody s_law_asked) rd_law_asked := by
    intro cdv A outer s H E hr
    unfold rd_law_asked
    exact (dpss_cons (dps_set 1 sc_law_asked.nd (dpe_callTy dcall_tuple (by rfl) T.z_tuple boot_tuple (dpa_cons (dpe_lc (tg := (.nm 2)) (own := [("body", 2)]) sc_law_asked.nd (dpi_tup (dpe_ix dix (dpe_var 0) dpe_int)) (blkOk_by (own := [("body", 2)]) (N := N_law_asked) (sc := defScope s_law_asked) (by decide +kernel)) (fun _ _ _ _ _ => dpg_name 2 sc_law_asked.nd) (fun _ _ _ _ _ => dpt_yes) (fun _ _ _ _ _ => (dpe_call (ok_law_word T) (hr.mono (by decide)) (by rfl) T.m_law_word T.F_law_word.kp T.b_law_word (dpa_cons (dpe_ix dix (dpe_var 0) dpe_int) (dpa_cons (dpe_var 2) dpa_nil))))) dpa_nil)))
    (dpss_cons (dps_set 3 sc_law_asked.nd (dpe_call (ok_code_of T) (hr.mono (by decide)) (by rfl) T.m_code_of T.F_code_of.kp T.b_code_of (dpa_cons (dpe_var 0) dpa_nil)))
    (dpss_one (dps_ret (dpe_and (dpe_call (ok_law_equal T) (hr.mono (by decide)) (by rfl) T.m_law_equal T.F_law_equal.kp T.b_law_equal (dpa_cons (dpe_var 3) (dpa_cons (dpe_var 1) dpa_nil))) (dpe_one (dpe_call (ok_law_equal T) (hr.mono (by decide)) (by rfl) T.m_law_equal T.F_law_equal.kp T.b_law_equal (dpa_cons (dpe_call (ok_rows_number T) (hr.mono (by decide)) (by rfl) T.m_rows_number T.F_rows_number.kp T.b_rows_number (dpa_cons (dpe_var 1) dpa_nil)) (dpa_cons (dpe_callB (dcall_sum rfl) (by rfl) T.z_sum boot_sum (dpa_cons (dpe_lc (tg := (.nm 4)) (own := [("rows", 4)]) sc_law_asked.nd (dpi_tup (dpe_var 1)) (blkOk_by (own := [("rows", 4)]) (N := N_law_asked) (sc := defScope s_law_asked) (by decide +kernel)) (fun _ _ _ _ _ => dpg_name 4 sc_law_asked.nd) (fun _ _ _ _ _ => dpt_yes) (fun _ _ _ _ _ => (dpe_callB dcall_len (by rfl) T.z_len boot_len (dpa_cons (dpe_var 4) dpa_nil)))) dpa_nil)) dpa_nil)))))))))
theorem ok_law_asked (T : Txt K mg) : FnD P w K mg base 67 T.f_law_asked T.fd_law_asked ["program"] (a1 sp_law_asked) := FnD.mk T.F_law_asked sc_law_asked a1_len (dv_law_asked T) rd_law_asked_ok
theorem dv_law_wide (T : Txt K mg) : ∀ (cdv : Value) (A : Around) (outer : List Env) (s : Shared) (H : Hp) (E : XK), Room 1 (A.deeper (envOfC "_law_wide" (defScope s_law_wide) s.heap.objs.size T.f_law_wide cdv)) → DPSs (cxOf CX0 P w K mg base N_law_wide "_law_wide" (defScope s_law_wide) T.f_law_wide cdv A outer s H E).nox (KG.top K) (defBody s_law_wide) rd_law_wide := by
    intro cdv A outer s H E hr
    unfold rd_law_wide
    exact (dpss_cons (dps_set 1 sc_law_wide.nd (dpe_tup (dpa_cons (dpe_tup (dpa_cons dpe_str (dpa_cons (dpe_tup (dpa_cons (dpe_tup (dpa_cons (dpe_tup (dpa_cons dpe_str (dpa_cons dpe_int dpa_nil))) dpa_nil)) (dpa_cons (dpe_tup (dpa_cons (dpe_tup (dpa_cons dpe_str (dpa_cons dpe_int dpa_nil))) (dpa_cons (dpe_tup (dpa_cons dpe_str dpa_nil)) (dpa_cons (dpe_tup (dpa_cons dpe_str (dpa_cons dpe_int dpa_nil))) dpa_nil)))) (dpa_cons (dpe_tup dpa_nil) dpa_nil)))) dpa_nil))) (dpa_cons (dpe_tup (dpa_cons dpe_str (dpa_cons (dpe_tup (dpa_cons (dpe_tup (dpa_cons dpe_str (dpa_cons dpe_int dpa_nil))) (dpa_cons (dpe_tup (dpa_cons dpe_str (dpa_cons (dpe_call (ok_law_pour T) (hr.mono (by decide)) (by rfl) T.m_law_pour T.F_law_pour.kp T.b_law_pour (dpa_cons (dpe_var 0) (dpa_cons dpe_int dpa_nil))) (dpa_cons (dpe_tup (dpa_cons (dpe_tup (dpa_cons dpe_str dpa_nil)) dpa_nil)) dpa_nil)))) dpa_nil))) dpa_nil))) (dpa_cons (dpe_tup (dpa_cons dpe_str (dpa_cons dpe_int dpa_nil))) dpa_nil)))))
    (dpss_cons (dps_set 2 sc_law_wide.nd (dpe_op dop_add dpe_int (dpe_call (ok_law_pour T) (hr.mono (by decide)) (by rfl) T.m_law_pour T.F_law_pour.kp T.b_law_pour (dpa_cons (dpe_var 0) (dpa_cons dpe_int dpa_nil)))))
    (dpss_cons (dps_set 3 sc_law_wide.nd (dpe_tup (dpa_cons (dpe_tup (dpa_cons dpe_str (dpa_cons (dpe_var 2) (dpa_cons (dpe_var 1) dpa_nil)))) (dpa_cons (dpe_tup (dpa_cons dpe_str (dpa_cons (dpe_tup (dpa_cons (dpe_tup (dpa_cons dpe_str (dpa_cons dpe_int (dpa_cons (dpe_tup (dpa_cons (dpe_tup (dpa_cons dpe_str (dpa_cons dpe_int (dpa_cons (dpe_tup (dpa_cons (dpe_tup (dpa_cons dpe_str (dpa_cons dpe_int dpa_nil))) (dpa_cons (dpe_tup (dpa_cons dpe_str (dpa_cons (dpe_tup dpa_nil) dpa_nil))) dpa_nil))) dpa_nil)))) dpa_nil)) dpa_nil)))) dpa_nil)) dpa_nil))) (dpa_cons (dpe_tup (dpa_cons dpe_str (dpa_cons dpe_int dpa_nil))) dpa_nil)))))
    (dpss_one (dps_ret (dpe_tup (dpa_cons (dpe_tup (dpa_cons dpe_str dpa_nil)) (dpa_cons (dpe_tup (dpa_cons (dpe_tup (dpa_cons dpe_str (dpa_cons (dpe_tup dpa_nil) (dpa_cons (dpe_tup (dpa_cons dpe_int dpa_nil)) dpa_nil)))) dpa_nil)) (dpa_cons (dpe_tup (dpa_cons dpe_str dpa_nil)) (dpa_cons (dpe_tup (dpa_cons (dpe_var 3) dpa_nil)) dpa_nil))))))))))
theorem ok_law_wide (T : Txt K mg) : FnD P w K mg base 2 T.f_law_wide T.fd_law_wide ["jug"] (a1 sp_law_wide) := FnD.mk T.F_law_wide sc_law_wide a1_len (dv_law_wide T) rd_law_wide_ok
theorem dv_law_hand (T : Txt K mg) : ∀ (cdv : Value) (A : Around) (outer : List Env) (s : Shared) (H : Hp) (E : XK), Room 66 (A.deeper (envOfC "_law_hand" (defScope s_law_hand) s.heap.objs.size T.f_law_hand cdv)) → DPSs (cxOf CX0 P w K mg base N_law_hand "_law_hand" (defScope s_law_hand) T.f_law_hand cdv A outer s H E).nox (KG.top K) (defBody s_law_hand) rd_law_hand := by
    intro cdv A outer s H E hr
    unfold rd_law_hand
    exact (dpss_cons (dps_set 1 sc_law_hand.nd (dpe_tup (dpa_cons (dpe_tup (dpa_cons dpe_str (dpa_cons (dpe_tup (dpa_cons dpe_int dpa_nil)) (dpa_cons (dpe_tup dpa_nil) dpa_nil)))) (dpa_cons (dpe_tup (dpa_cons dpe_str (dpa_cons (dpe_tup dpa_nil) (dpa_cons (dpe_tup (dpa_cons dpe_int dpa_nil)) dpa_nil)))) dpa_nil))))
    (dpss_cons (dps_asg (dpe_tup (dpa_cons (dpe_tup (dpa_cons dpe_str (dpa_cons dpe_int dpa_nil))) (dpa_cons (dpe_tup (dpa_cons dpe_str dpa_nil)) dpa_nil))) (dpg_tg (tg := .tp [2, 3]) (pg_tup rfl (pgs_cons (dpg_name 2 sc_law_hand.nd) (pgs_cons (dpg_name 3 sc_law_hand.nd) pgs_nil)))))
    (dpss_cons (dps_set 4 sc_law_hand.nd (dpe_tup (dpa_cons dpe_str dpa_nil)))
    (dpss_cons (dps_setLc (i := 5) (tg := (.nm 6)) (own := [("at", 6)]) sc_law_hand.nd rfl rfl (sw_true rfl rfl rfl (by decide +kernel)) (dpi_range1 (by rfl) T.z_range dpe_int) (blkOk_by (own := [("at", 6)]) (N := N_law_hand) (sc := defScope s_law_hand) (by decide +kernel)) (fun _ _ _ _ _ => dpg_name 6 sc_law_hand.nd) (fun _ _ _ _ _ => dpt_yes) (fun _ _ _ _ _ => (dpe_tup (dpa_cons dpe_str (dpa_cons (dpe_tup (dpa_cons dpe_int dpa_nil)) (dpa_cons (dpe_tup dpa_nil) (dpa_cons (dpe_var 6) dpa_nil)))))))
    (dpss_cons (dps_set 7 sc_law_hand.nd (dpe_lst (dpa_cons (dpe_tup (dpa_cons (dpe_tup dpa_nil) (dpa_cons (dpe_tup (dpa_cons (dpe_var 4) dpa_nil)) dpa_nil))) (dpa_cons (dpe_tup (dpa_cons (dpe_tup (dpa_cons (dpe_var 3) (dpa_cons (dpe_var 2) dpa_nil))) (dpa_cons (dpe_tup (dpa_cons (dpe_var 4) dpa_nil)) dpa_nil))) (dpa_cons (dpe_tup (dpa_cons (dpe_tup (dpa_cons (dpe_var 2) (dpa_cons (dpe_var 3) (dpa_cons (dpe_var 2) dpa_nil)))) (dpa_cons (dpe_tup (dpa_cons (dpe_ix dix (dpe_var 5) dpe_int) (dpa_cons (dpe_var 4) dpa_nil))) dpa_nil))) (dpa_cons (dpe_tup (dpa_cons (dpe_tup (dpa_cons (dpe_tup (dpa_cons dpe_str (dpa_cons (dpe_tup dpa_nil) dpa_nil))) dpa_nil)) (dpa_cons (dpe_tup (dpa_cons (dpe_tup (dpa_cons dpe_str (dpa_cons (dpe_tup (dpa_cons dpe_int (dpa_cons dpe_int dpa_nil))) dpa_nil))) (dpa_cons (dpe_var 4) dpa_nil))) dpa_nil))) (dpa_cons (dpe_tup (dpa_cons (dpe_tup (dpa_cons (dpe_tup (dpa_cons dpe_str (dpa_cons (dpe_tup (dpa_cons (dpe_var 3) dpa_nil)) dpa_nil))) (dpa_cons (dpe_var 2) dpa_nil))) (dpa_cons (dpe_tup (dpa_cons (dpe_tup (dpa_cons dpe_str (dpa_cons (dpe_tup (dpa_cons dpe_int (dpa_cons dpe_int dpa_nil))) dpa_nil))) (dpa_cons (dpe_ix dix (dpe_var 5) dpe_int) (dpa_cons (dpe_var 4) dpa_nil)))) dpa_nil))) dpa_nil)))))))
    (dpss_cons (dps_set 7 sc_law_hand.nd (dpe_op dop_add (dpe_var 7) (dpe_lst (dpa_cons (dpe_tup (dpa_cons (dpe_tup (dpa_cons (dpe_tup (dpa_cons dpe_str (dpa_cons (dpe_tup (dpa_cons (dpe_tup dpa_nil) (dpa_cons (dpe_tup (dpa_cons (dpe_var 2) dpa_nil)) dpa_nil))) dpa_nil))) (dpa_cons (dpe_var 2) dpa_nil))) (dpa_cons (dpe_tup (dpa_cons (dpe_tup (dpa_cons dpe_str (dpa_cons (dpe_tup (dpa_cons dpe_int (dpa_cons dpe_int dpa_nil))) dpa_nil))) (dpa_cons (dpe_ix dix (dpe_var 5) dpe_int) (dpa_cons (dpe_ix dix (dpe_var 5) dpe_int) (dpa_cons (dpe_var 4) dpa_nil))))) dpa_nil))) (dpa_cons (dpe_tup (dpa_cons (dpe_tup (dpa_cons (dpe_tup (dpa_cons dpe_str (dpa_cons (dpe_tup (dpa_cons (dpe_tup (dpa_cons (dpe_var 3) dpa_nil)) (dpa_cons (dpe_tup (dpa_cons (dpe_var 2) (dpa_cons (dpe_var 3) dpa_nil))) dpa_nil))) dpa_nil))) (dpa_cons (dpe_var 2) dpa_nil))) (dpa_cons (dpe_tup (dpa_cons (dpe_tup (dpa_cons dpe_str (dpa_cons (dpe_tup (dpa_cons dpe_int (dpa_cons dpe_int dpa_nil))) dpa_nil))) (dpa_cons (dpe_ix dix (dpe_var 5) dpe_int) (dpa_cons (dpe_ix dix (dpe_var 5) dpe_int) (dpa_cons (dpe_var 4) dpa_nil))))) dpa_nil))) dpa_nil)))))
    (dpss_cons (dps_set 7 sc_law_hand.nd (dpe_op dop_add (dpe_var 7) (dpe_lst (dpa_cons (dpe_tup (dpa_cons (dpe_tup (dpa_cons (dpe_tup (dpa_cons dpe_str (dpa_cons dpe_int (dpa_cons (dpe_tup (dpa_cons (dpe_var 2) (dpa_cons (dpe_var 3) dpa_nil))) dpa_nil)))) (dpa_cons (dpe_var 2) dpa_nil))) (dpa_cons (dpe_tup (dpa_cons (dpe_ix dix (dpe_var 5) dpe_int) (dpa_cons (dpe_ix dix (dpe_var 5) dpe_int) (dpa_cons (dpe_ix dix (dpe_var 5) dpe_int) (dpa_cons (dpe_var 4) dpa_nil))))) dpa_nil))) (dpa_cons (dpe_tup (dpa_cons (dpe_tup (dpa_cons (dpe_tup (dpa_cons dpe_str (dpa_cons dpe_int (dpa_cons (dpe_tup (dpa_cons (dpe_var 3) (dpa_cons (dpe_var 2) dpa_nil))) dpa_nil)))) (dpa_cons (dpe_var 2) dpa_nil))) (dpa_cons (dpe_tup (dpa_cons (dpe_var 4) dpa_nil)) dpa_nil))) (dpa_cons (dpe_tup (dpa_cons (dpe_tup (dpa_cons (dpe_tup (dpa_cons dpe_str (dpa_cons dpe_int (dpa_cons (dpe_tup (dpa_cons (dpe_var 2) dpa_nil)) dpa_nil)))) (dpa_cons (dpe_tup (dpa_cons dpe_str (dpa_cons dpe_int (dpa_cons (dpe_tup (dpa_cons (dpe_tup (dpa_cons dpe_str (dpa_cons dpe_int (dpa_cons (dpe_tup dpa_nil) dpa_nil)))) dpa_nil)) dpa_nil)))) (dpa_cons (dpe_var 2) dpa_nil)))) (dpa_cons (dpe_tup (dpa_cons (dpe_ix dix (dpe_var 5) dpe_int) (dpa_cons (dpe_var 4) dpa_nil))) dpa_nil))) dpa_nil))))))
    (dpss_cons (dps_set 7 sc_law_hand.nd (dpe_op dop_add (dpe_var 7) (dpe_lst (dpa_cons (dpe_tup (dpa_cons (dpe_tup (dpa_cons (dpe_tup (dpa_cons dpe_str (dpa_cons dpe_int (dpa_cons (dpe_tup (dpa_cons (dpe_tup (dpa_cons dpe_str (dpa_cons (dpe_tup (dpa_cons (dpe_tup dpa_nil) (dpa_cons (dpe_tup (dpa_cons (dpe_var 2) dpa_nil)) dpa_nil))) dpa_nil))) dpa_nil)) dpa_nil)))) dpa_nil)) (dpa_cons (dpe_tup (dpa_cons (dpe_tup (dpa_cons dpe_str (dpa_cons (dpe_tup (dpa_cons dpe_int (dpa_cons dpe_int dpa_nil))) dpa_nil))) (dpa_cons (dpe_ix dix (dpe_var 5) dpe_int) (dpa_cons (dpe_tup (dpa_cons dpe_str (dpa_cons (dpe_tup (dpa_cons dpe_int (dpa_cons dpe_int dpa_nil))) dpa_nil))) (dpa_cons (dpe_ix dix (dpe_var 5) dpe_int) (dpa_cons (dpe_var 4) dpa_nil)))))) dpa_nil))) (dpa_cons (dpe_tup (dpa_cons (dpe_tup (dpa_cons (dpe_tup (dpa_cons dpe_str (dpa_cons (dpe_tup (dpa_cons (dpe_var 2) (dpa_cons (dpe_tup (dpa_cons dpe_str (dpa_cons dpe_int dpa_nil))) dpa_nil))) dpa_nil))) dpa_nil)) (dpa_cons (dpe_tup (dpa_cons (dpe_tup (dpa_cons dpe_str (dpa_cons (dpe_tup (dpa_cons dpe_int (dpa_cons dpe_int dpa_nil))) dpa_nil))) (dpa_cons (dpe_ix dix (dpe_var 5) dpe_int) (dpa_cons (dpe_tup (dpa_cons dpe_str (dpa_cons dpe_int (dpa_cons dpe_int dpa_nil)))) (dpa_cons (dpe_var 4) dpa_nil))))) dpa_nil))) dpa_nil)))))
    (dpss_cons (dps_set 7 sc_law_hand.nd (dpe_op dop_add (dpe_var 7) (dpe_lst (dpa_cons (dpe_tup (dpa_cons (dpe_tup (dpa_cons (dpe_tup (dpa_cons dpe_str (dpa_cons dpe_int (dpa_cons (dpe_tup (dpa_cons (dpe_tup (dpa_cons dpe_str (dpa_cons dpe_int (dpa_cons (dpe_tup (dpa_cons (dpe_var 2) dpa_nil)) dpa_nil)))) (dpa_cons (dpe_tup (dpa_cons dpe_str (dpa_cons dpe_int (dpa_cons (dpe_tup (dpa_cons (dpe_var 3) dpa_nil)) dpa_nil)))) dpa_nil))) dpa_nil)))) (dpa_cons (dpe_var 2) dpa_nil))) (dpa_cons (dpe_tup (dpa_cons (dpe_var 4) dpa_nil)) dpa_nil))) (dpa_cons (dpe_tup (dpa_cons (dpe_tup (dpa_cons (dpe_tup (dpa_cons dpe_str (dpa_cons (dpe_tup (dpa_cons (dpe_tup (dpa_cons dpe_str (dpa_cons dpe_int (dpa_cons (dpe_tup (dpa_cons (dpe_var 2) dpa_nil)) dpa_nil)))) dpa_nil)) dpa_nil))) (dpa_cons (dpe_var 2) dpa_nil))) (dpa_cons (dpe_tup (dpa_cons (dpe_tup (dpa_cons dpe_str (dpa_cons (dpe_tup (dpa_cons dpe_int (dpa_cons dpe_int dpa_nil))) dpa_nil))) (dpa_cons (dpe_ix dix (dpe_var 5) dpe_int) (dpa_cons (dpe_var 4) dpa_nil)))) dpa_nil))) dpa_nil)))))
    (dpss_cons (dps_set 7 sc_law_hand.nd (dpe_op dop_add (dpe_var 7) (dpe_lst (dpa_cons (dpe_tup (dpa_cons (dpe_tup (dpa_cons (dpe_tup (dpa_cons dpe_str (dpa_cons (dpe_tup (dpa_cons (dpe_tup (dpa_cons (dpe_tup (dpa_cons dpe_str (dpa_cons dpe_int (dpa_cons (dpe_tup (dpa_cons (dpe_var 3) dpa_nil)) dpa_nil)))) dpa_nil)) (dpa_cons (dpe_tup (dpa_cons (dpe_tup (dpa_cons dpe_str (dpa_cons (dpe_tup (dpa_cons (dpe_var 2) (dpa_cons (dpe_var 3) (dpa_cons (dpe_var 2) dpa_nil)))) dpa_nil))) dpa_nil)) dpa_nil))) dpa_nil))) dpa_nil)) (dpa_cons (dpe_tup (dpa_cons (dpe_tup (dpa_cons dpe_str (dpa_cons (dpe_tup (dpa_cons dpe_int (dpa_cons dpe_int dpa_nil))) dpa_nil))) (dpa_cons (dpe_tup (dpa_cons dpe_str (dpa_cons (dpe_tup (dpa_cons dpe_int (dpa_cons dpe_int dpa_nil))) dpa_nil))) (dpa_cons (dpe_ix dix (dpe_var 5) dpe_int) (dpa_cons (dpe_var 4) dpa_nil))))) dpa_nil))) (dpa_cons (dpe_tup (dpa_cons (dpe_tup (dpa_cons (dpe_var 2) (dpa_cons (dpe_tup (dpa_cons dpe_str (dpa_cons dpe_int (dpa_cons (dpe_tup (dpa_cons (dpe_var 3) dpa_nil)) dpa_nil)))) (dpa_cons (dpe_var 2) dpa_nil)))) (dpa_cons (dpe_tup (dpa_cons (dpe_ix dix (dpe_var 5) dpe_int) (dpa_cons (dpe_var 4) dpa_nil))) dpa_nil))) dpa_nil)))))
    (dpss_cons (dps_for (dpi_seq (dpe_var 7)) (dpg_tg (tg := .tp [8, 9]) (pg_tup rfl (pgs_cons (dpg_name 8 sc_law_hand.nd) (pgs_cons (dpg_name 9 sc_law_hand.nd) pgs_nil)))) (dpss_one (dps_if (DPW.pt (dpw_or (dpt_not (dpt_val (dpe_call (ok_law_equal T) (hr.mono (by decide)) (by rfl) T.m_law_equal T.F_law_equal.kp T.b_law_equal (dpa_cons (dpe_call (ok_law_word T) (hr.mono (by decide)) (by rfl) T.m_law_word T.F_law_word.kp T.b_law_word (dpa_cons (dpe_var 1) (dpa_cons (dpe_var 8) dpa_nil))) (dpa_cons (dpe_var 9) dpa_nil))))) (dpw_or1 (dpt_not (dpt_val (dpe_call (ok_law_equal T) (hr.mono (by decide)) (by rfl) T.m_law_equal T.F_law_equal.kp T.b_law_equal (dpa_cons (dpe_call (ok_code_of T) (hr.mono (by decide)) (by rfl) T.m_code_of T.F_code_of.kp T.b_code_of (dpa_cons (dpe_tup (dpa_cons (dpe_tup (dpa_cons dpe_str dpa_nil)) (dpa_cons (dpe_var 1) (dpa_cons (dpe_tup (dpa_cons dpe_str dpa_nil)) (dpa_cons (dpe_tup (dpa_cons (dpe_var 8) dpa_nil)) dpa_nil))))) dpa_nil)) (dpa_cons (dpe_tup (dpa_cons (dpe_var 9) dpa_nil)) dpa_nil)))))))) (dpss_one (dps_ret dpe_bl)) dpss_nil)))
    (dpss_cons (dps_asg (dpe_ix dix (dpe_var 7) (dpe_call (ok_law_pour T) (hr.mono (by decide)) (by rfl) T.m_law_pour T.F_law_pour.kp T.b_law_pour (dpa_cons (dpe_var 0) (dpa_cons (dpe_callB dcall_len (by rfl) T.z_len boot_len (dpa_cons (dpe_var 7) dpa_nil)) dpa_nil)))) (dpg_tg (tg := .tp [8, 9]) (pg_tup rfl (pgs_cons (dpg_name 8 sc_law_hand.nd) (pgs_cons (dpg_name 9 sc_law_hand.nd) pgs_nil)))))
    (dpss_cons (dps_asg (dpe_ix dix (dpe_var 7) (dpe_call (ok_law_pour T) (hr.mono (by decide)) (by rfl) T.m_law_pour T.F_law_pour.kp T.b_law_pour (dpa_cons (dpe_var 0) (dpa_cons (dpe_callB dcall_len (by rfl) T.z_len boot_len (dpa_cons (dpe_var 7) dpa_nil)) dpa_nil)))) (dpg_tg (tg := .tp [10, 11]) (pg_tup rfl (pgs_cons (dpg_name 10 sc_law_hand.nd) (pgs_cons (dpg_name 11 sc_law_hand.nd) pgs_nil)))))
    (dpss_cons (dps_set 12 sc_law_hand.nd (dpe_tup (dpa_cons (dpe_tup (dpa_cons dpe_str dpa_nil)) (dpa_cons (dpe_var 1) (dpa_cons (dpe_tup (dpa_cons dpe_str (dpa_cons dpe_str dpa_nil))) (dpa_cons (dpe_tup (dpa_cons (dpe_var 8) (dpa_cons (dpe_var 10) dpa_nil))) dpa_nil))))))
    (dpss_one (dps_ret (dpe_and (dpe_call (ok_law_equal T) (hr.mono (by decide)) (by rfl) T.m_law_equal T.F_law_equal.kp T.b_law_equal (dpa_cons (dpe_kw0 (tk := [(dVar 12)]) (sp' := (kw1 (fun x0 => [x0]) (a1 sp_code_of))) (ok_code_of T) (hr.mono (by decide)) (by rfl) T.m_code_of T.F_code_of.kp T.kw_0 kw1_ok rfl (dpk_cons (dpe_var 12) dpk_nil)) (dpa_cons (dpe_tup (dpa_cons (dpe_var 9) (dpa_cons (dpe_var 11) dpa_nil))) dpa_nil))) (dpe_one (dpe_call (ok_law_equal T) (hr.mono (by decide)) (by rfl) T.m_law_equal T.F_law_equal.kp T.b_law_equal (dpa_cons (dpe_kw0 (tk := [(dTup (dCons (dVar 9) (dCons (dVar 11) dNil)))]) (sp' := (kw1 (fun x0 => [x0]) (a1 sp_rows_number))) (ok_rows_number T) (hr.mono (by decide)) (by rfl) T.m_rows_number T.F_rows_number.kp T.kw_1 kw1_ok rfl (dpk_cons (dpe_tup (dpa_cons (dpe_var 9) (dpa_cons (dpe_var 11) dpa_nil))) dpk_nil)) (dpa_cons (dpe_op dop_add (dpe_callB dcall_len (by rfl) T.z_len boot_len (dpa_cons (dpe_var 9) dpa_nil)) (dpe_callB dcall_len (by rfl) T.z_len boot_len (dpa_cons (dpe_var 11) dpa_nil))) dpa_nil)))))))))))))))))))))
theorem ok_law_hand (T : Txt K mg) : FnD P w K mg base 67 T.f_law_hand T.fd_law_hand ["jug"] (a1 sp_law_hand) := FnD.mk T.F_law_hand sc_law_hand a1_len (dv_law_hand T) rd_law_hand_ok
theorem dv_law (T : Txt K mg) : ∀ (cdv : Value) (A : Around) (outer : List Env) (s : Shared) (H : Hp) (E : XK), Room 67 (A.deeper (envOfC "law" (defScope s_law) s.heap.objs.size T.f_law cdv)) → DPSs (cxOf CX0 P w K mg base N_law "law" (defScope s_law) T.f_law cdv A outer s H E).nox (KG.top K) (defBody s_law) rd_law := by
    intro cdv A outer s H E hr
    unfold rd_law
    exact (dpss_cons (dps_set 1 sc_law.nd (dpe_call (ok_law_churn T) (hr.mono (by decide)) (by rfl) T.m_law_churn T.F_law_churn.kp T.b_law_churn (dpa_cons (dpe_var 0) dpa_nil)))
    (dpss_cons (dps_if (dpt_not (dpt_val (dpe_call (ok_law_hand T) (hr.mono (by decide)) (by rfl) T.m_law_hand T.F_law_hand.kp T.b_law_hand (dpa_cons (dpe_var 1) dpa_nil)))) (dpss_one (dps_ret dpe_bl)) dpss_nil)
    (dpss_cons (dps_for (dpi_range1 (by rfl) T.z_range dpe_int) (dpg_tg (dpg_name 2 sc_law.nd)) (dpss_one (dps_if (dpt_not (dpt_val (dpe_call (ok_law_asked T) (hr.mono (by decide)) (by rfl) T.m_law_asked T.F_law_asked.kp T.b_law_asked (dpa_cons (dpe_call (ok_law_program T) (hr.mono (by decide)) (by rfl) T.m_law_program T.F_law_program.kp T.b_law_program (dpa_cons (dpe_var 1) (dpa_cons (dpe_ix dix (dpe_tup (dpa_cons dpe_int (dpa_cons dpe_int (dpa_cons dpe_int (dpa_cons dpe_int dpa_nil))))) (dpe_var 2)) dpa_nil))) dpa_nil)))) (dpss_one (dps_ret dpe_bl)) dpss_nil)))
    (dpss_one (dps_ret (dpe_or (dpe_cmp (dop_ne hr.units) (dpe_call (ok_law_pour T) (hr.mono (by decide)) (by rfl) T.m_law_pour T.F_law_pour.kp T.b_law_pour (dpa_cons (dpe_var 1) (dpa_cons dpe_int dpa_nil))) dpe_int) (dpe_one (dpe_call (ok_law_asked T) (hr.mono (by decide)) (by rfl) T.m_law_asked T.F_law_asked.kp T.b_law_asked (dpa_cons (dpe_call (ok_law_wide T) (hr.mono (by decide)) (by rfl) T.m_law_wide T.F_law_wide.kp T.b_law_wide (dpa_cons (dpe_var 1) dpa_nil)) dpa_nil)))))))))
theorem ok_law (T : Txt K mg) : FnD P w K mg base 68 T.f_law T.fd_law ["script"] spTrue := FnD.mk T.F_law sc_law (fun ds S P h => by obtain ⟨ns, rfl, _⟩ := h; rfl) (dv_law T) rd_law_ok
end
theorem all_mk {l : PySem.W.OpenLaw} {w : World} {K : PySem.W.Frag} {h : Heap} {mg : Str → Option Value} {fa : Addr} (X : K.In h) (G : h.Ns mainGlobals mg) (hfa : mg "law" = some (.ref fa))
    (cA_Layer : PySem.W.nsIn K mainGlobals "Layer" = some (some (.ref A_Layer))) (pg_Layer : PySem.W.plainGet K A_Layer Str.empty = true) (hd_Layer : PySem.W.hasDictIn K A_Layer = true) (pv_Layer : PySem.W.plainOver K A_Layer = true) (sa_Layer : PySem.W.findIn K (.ref A_Layer) "__setattr__" = some (some (.builtin "object.__setattr__"))) (mi_Layer : PySem.W.makesIn K A_Layer = true) (kp_Layer : PySem.W.keepIn K (.ref A_Layer) = true)
    (na_Layer_marks : PySem.W.findIn K (.ref A_Layer) "marks" = some none)
    (na_Layer_rows : PySem.W.findIn K (.ref A_Layer) "rows" = some none)
    (na_Layer_many : PySem.W.findIn K (.ref A_Layer) "many" = some none)
    {f0 : Addr} {od0 an0 : Option Addr} {sl0 : Array (Option Value)} {oc0 kV0 dc0 pm0 cd0 ct0 : Value}
    (a0 : PySem.W.nsIn K mainGlobals "lays_nothing" = some (some (.ref f0))) (l0 : K.lookup f0 = some ⟨oc0, od0, .func (PySem.W.fnOf "lays_nothing" "lays_nothing" (defArgs s_lays_nothing) (defBody s_lays_nothing) (defScope s_lays_nothing) .none kV0 dc0 pm0 an0 cd0 ct0), sl0⟩) (c0 : PySem.W.codeIn K cd0 "lays_nothing" = true) (k0 : PySem.W.keepIn K (.ref f0) = true)
    {f1 : Addr} {od1 an1 : Option Addr} {sl1 : Array (Option Value)} {oc1 kV1 dc1 pm1 cd1 ct1 : Value}
    (a1 : PySem.W.nsIn K mainGlobals "is_back" = some (some (.ref f1))) (l1 : K.lookup f1 = some ⟨oc1, od1, .func (PySem.W.fnOf "is_back" "is_back" (defArgs s_is_back) (defBody s_is_back) (defScope s_is_back) .none kV1 dc1 pm1 an1 cd1 ct1), sl1⟩) (c1 : PySem.W.codeIn K cd1 "is_back" = true) (k1 : PySem.W.keepIn K (.ref f1) = true)
    {f2 : Addr} {od2 an2 : Option Addr} {sl2 : Array (Option Value)} {oc2 kV2 dc2 pm2 cd2 ct2 : Value}
    (a2 : PySem.W.findIn K (.ref A_Layer) "mark" = some (some (.ref f2))) (i2 : PySem.W.isFn K (.ref f2) = true) (l2 : K.lookup f2 = some ⟨oc2, od2, .func (PySem.W.fnOf "mark" "Layer.mark" (defArgs s_Layer_mark) (defBody s_Layer_mark) (defScope s_Layer_mark) .none kV2 dc2 pm2 an2 cd2 ct2), sl2⟩) (c2 : PySem.W.codeIn K cd2 "Layer.mark" = true) (k2 : PySem.W.keepIn K (.ref f2) = true)
    {f3 : Addr} {od3 an3 : Option Addr} {sl3 : Array (Option Value)} {oc3 kV3 dc3 pm3 cd3 ct3 : Value}
    (a3 : PySem.W.findIn K (.ref A_Layer) "add" = some (some (.ref f3))) (i3 : PySem.W.isFn K (.ref f3) = true) (l3 : K.lookup f3 = some ⟨oc3, od3, .func (PySem.W.fnOf "add" "Layer.add" (defArgs s_Layer_add) (defBody s_Layer_add) (defScope s_Layer_add) .none kV3 dc3 pm3 an3 cd3 ct3), sl3⟩) (c3 : PySem.W.codeIn K cd3 "Layer.add" = true) (k3 : PySem.W.keepIn K (.ref f3) = true)
    {f4 : Addr} {od4 an4 : Option Addr} {sl4 : Array (Option Value)} {oc4 kV4 dc4 pm4 cd4 ct4 : Value}
    (a4 : PySem.W.findIn K (.ref A_Layer) "put" = some (some (.ref f4))) (i4 : PySem.W.isFn K (.ref f4) = true) (l4 : K.lookup f4 = some ⟨oc4, od4, .func (PySem.W.fnOf "put" "Layer.put" (defArgs s_Layer_put) (defBody s_Layer_put) (defScope s_Layer_put) .none kV4 dc4 pm4 an4 cd4 ct4), sl4⟩) (c4 : PySem.W.codeIn K cd4 "Layer.put" = true) (k4 : PySem.W.keepIn K (.ref f4) = true)
    {f5 : Addr} {od5 an5 : Option Addr} {sl5 : Array (Option Value)} {oc5 kV5 dc5 pm5 cd5 ct5 : Value}
    (a5 : PySem.W.nsIn K mainGlobals "lay_statement" = some (some (.ref f5))) (l5 : K.lookup f5 = some ⟨oc5, od5, .func (PySem.W.fnOf "lay_statement" "lay_statement" (defArgs s_lay_statement) (defBody s_lay_statement) (defScope s_lay_statement) .none kV5 dc5 pm5 an5 cd5 ct5), sl5⟩) (c5 : PySem.W.codeIn K cd5 "lay_statement" = true) (k5 : PySem.W.keepIn K (.ref f5) = true)
    {f6 : Addr} {od6 an6 : Option Addr} {sl6 : Array (Option Value)} {oc6 kV6 dc6 pm6 cd6 ct6 : Value}
    (a6 : PySem.W.nsIn K mainGlobals "lay_body" = some (some (.ref f6))) (l6 : K.lookup f6 = some ⟨oc6, od6, .func (PySem.W.fnOf "lay_body" "lay_body" (defArgs s_lay_body) (defBody s_lay_body) (defScope s_lay_body) .none kV6 dc6 pm6 an6 cd6 ct6), sl6⟩) (c6 : PySem.W.codeIn K cd6 "lay_body" = true) (k6 : PySem.W.keepIn K (.ref f6) = true)
    {f7 : Addr} {od7 an7 : Option Addr} {sl7 : Array (Option Value)} {oc7 kV7 dc7 pm7 cd7 ct7 : Value}
    (a7 : PySem.W.nsIn K mainGlobals "row_at" = some (some (.ref f7))) (l7 : K.lookup f7 = some ⟨oc7, od7, .func (PySem.W.fnOf "row_at" "row_at" (defArgs s_row_at) (defBody s_row_at) (defScope s_row_at) .none kV7 dc7 pm7 an7 cd7 ct7), sl7⟩) (c7 : PySem.W.codeIn K cd7 "row_at" = true) (k7 : PySem.W.keepIn K (.ref f7) = true)
    {f8 : Addr} {od8 an8 : Option Addr} {sl8 : Array (Option Value)} {oc8 kV8 dc8 pm8 cd8 ct8 : Value}
    (a8 : PySem.W.nsIn K mainGlobals "told_row" = some (some (.ref f8))) (l8 : K.lookup f8 = some ⟨oc8, od8, .func (PySem.W.fnOf "told_row" "told_row" (defArgs s_told_row) (defBody s_told_row) (defScope s_told_row) .none kV8 dc8 pm8 an8 cd8 ct8), sl8⟩) (c8 : PySem.W.codeIn K cd8 "told_row" = true) (k8 : PySem.W.keepIn K (.ref f8) = true)
    {f9 : Addr} {od9 an9 : Option Addr} {sl9 : Array (Option Value)} {oc9 kV9 dc9 pm9 cd9 ct9 : Value}
    (a9 : PySem.W.findIn K (.ref A_Layer) "__init__" = some (some (.ref f9))) (i9 : PySem.W.isFn K (.ref f9) = true) (l9 : K.lookup f9 = some ⟨oc9, od9, .func (PySem.W.fnOf "__init__" "Layer.__init__" (defArgs s_Layer_init) (defBody s_Layer_init) (defScope s_Layer_init) .none kV9 dc9 pm9 an9 cd9 ct9), sl9⟩) (c9 : PySem.W.codeIn K cd9 "Layer.__init__" = true) (k9 : PySem.W.keepIn K (.ref f9) = true)
    {f10 : Addr} {od10 an10 : Option Addr} {sl10 : Array (Option Value)} {oc10 kV10 dc10 pm10 cd10 ct10 : Value}
    (a10 : PySem.W.nsIn K mainGlobals "word_code" = some (some (.ref f10))) (l10 : K.lookup f10 = some ⟨oc10, od10, .func (PySem.W.fnOf "word_code" "word_code" (defArgs s_word_code) (defBody s_word_code) (defScope s_word_code) .none kV10 dc10 pm10 an10 cd10 ct10), sl10⟩) (c10 : PySem.W.codeIn K cd10 "word_code" = true) (k10 : PySem.W.keepIn K (.ref f10) = true)
    {f11 : Addr} {od11 an11 : Option Addr} {sl11 : Array (Option Value)} {oc11 kV11 dc11 pm11 cd11 ct11 : Value}
    (a11 : PySem.W.nsIn K mainGlobals "code_of" = some (some (.ref f11))) (l11 : K.lookup f11 = some ⟨oc11, od11, .func (PySem.W.fnOf "code_of" "code_of" (defArgs s_code_of) (defBody s_code_of) (defScope s_code_of) .none kV11 dc11 pm11 an11 cd11 ct11), sl11⟩) (c11 : PySem.W.codeIn K cd11 "code_of" = true) (k11 : PySem.W.keepIn K (.ref f11) = true)
    {f12 : Addr} {od12 an12 : Option Addr} {sl12 : Array (Option Value)} {oc12 kV12 dc12 pm12 cd12 ct12 : Value}
    (a12 : PySem.W.nsIn K mainGlobals "rows_number" = some (some (.ref f12))) (l12 : K.lookup f12 = some ⟨oc12, od12, .func (PySem.W.fnOf "rows_number" "rows_number" (defArgs s_rows_number) (defBody s_rows_number) (defScope s_rows_number) .none kV12 dc12 pm12 an12 cd12 ct12), sl12⟩) (c12 : PySem.W.codeIn K cd12 "rows_number" = true) (k12 : PySem.W.keepIn K (.ref f12) = true)
    {f13 : Addr} {od13 an13 : Option Addr} {sl13 : Array (Option Value)} {oc13 kV13 dc13 pm13 cd13 ct13 : Value}
    (a13 : PySem.W.nsIn K mainGlobals "_law_churn" = some (some (.ref f13))) (l13 : K.lookup f13 = some ⟨oc13, od13, .func (PySem.W.fnOf "_law_churn" "_law_churn" (defArgs s_law_churn) (defBody s_law_churn) (defScope s_law_churn) .none kV13 dc13 pm13 an13 cd13 ct13), sl13⟩) (c13 : PySem.W.codeIn K cd13 "_law_churn" = true) (k13 : PySem.W.keepIn K (.ref f13) = true)
    {f14 : Addr} {od14 an14 : Option Addr} {sl14 : Array (Option Value)} {oc14 kV14 dc14 pm14 cd14 ct14 : Value}
    (a14 : PySem.W.nsIn K mainGlobals "_law_pour" = some (some (.ref f14))) (l14 : K.lookup f14 = some ⟨oc14, od14, .func (PySem.W.fnOf "_law_pour" "_law_pour" (defArgs s_law_pour) (defBody s_law_pour) (defScope s_law_pour) .none kV14 dc14 pm14 an14 cd14 ct14), sl14⟩) (c14 : PySem.W.codeIn K cd14 "_law_pour" = true) (k14 : PySem.W.keepIn K (.ref f14) = true)
    {f15 : Addr} {od15 an15 : Option Addr} {sl15 : Array (Option Value)} {oc15 kV15 dc15 pm15 cd15 ct15 : Value}
    (a15 : PySem.W.nsIn K mainGlobals "_law_equal" = some (some (.ref f15))) (l15 : K.lookup f15 = some ⟨oc15, od15, .func (PySem.W.fnOf "_law_equal" "_law_equal" (defArgs s_law_equal) (defBody s_law_equal) (defScope s_law_equal) .none kV15 dc15 pm15 an15 cd15 ct15), sl15⟩) (c15 : PySem.W.codeIn K cd15 "_law_equal" = true) (k15 : PySem.W.keepIn K (.ref f15) = true)
    {f16 : Addr} {od16 an16 : Option Addr} {sl16 : Array (Option Value)} {oc16 kV16 dc16 pm16 cd16 ct16 : Value}
    (a16 : PySem.W.nsIn K mainGlobals "_law_lays_nothing" = some (some (.ref f16))) (l16 : K.lookup f16 = some ⟨oc16, od16, .func (PySem.W.fnOf "_law_lays_nothing" "_law_lays_nothing" (defArgs s_law_lays_nothing) (defBody s_law_lays_nothing) (defScope s_law_lays_nothing) .none kV16 dc16 pm16 an16 cd16 ct16), sl16⟩) (c16 : PySem.W.codeIn K cd16 "_law_lays_nothing" = true) (k16 : PySem.W.keepIn K (.ref f16) = true)
    {f17 : Addr} {od17 an17 : Option Addr} {sl17 : Array (Option Value)} {oc17 kV17 dc17 pm17 cd17 ct17 : Value}
    (a17 : PySem.W.nsIn K mainGlobals "_law_at_once" = some (some (.ref f17))) (l17 : K.lookup f17 = some ⟨oc17, od17, .func (PySem.W.fnOf "_law_at_once" "_law_at_once" (defArgs s_law_at_once) (defBody s_law_at_once) (defScope s_law_at_once) .none kV17 dc17 pm17 an17 cd17 ct17), sl17⟩) (c17 : PySem.W.codeIn K cd17 "_law_at_once" = true) (k17 : PySem.W.keepIn K (.ref f17) = true)
    {f18 : Addr} {od18 an18 : Option Addr} {sl18 : Array (Option Value)} {oc18 kV18 dc18 pm18 cd18 ct18 : Value}
    (a18 : PySem.W.nsIn K mainGlobals "_law_mark" = some (some (.ref f18))) (l18 : K.lookup f18 = some ⟨oc18, od18, .func (PySem.W.fnOf "_law_mark" "_law_mark" (defArgs s_law_mark) (defBody s_law_mark) (defScope s_law_mark) .none kV18 dc18 pm18 an18 cd18 ct18), sl18⟩) (c18 : PySem.W.codeIn K cd18 "_law_mark" = true) (k18 : PySem.W.keepIn K (.ref f18) = true)
    {f19 : Addr} {od19 an19 : Option Addr} {sl19 : Array (Option Value)} {oc19 kV19 dc19 pm19 cd19 ct19 : Value}
    (a19 : PySem.W.nsIn K mainGlobals "_law_lay_inner" = some (some (.ref f19))) (l19 : K.lookup f19 = some ⟨oc19, od19, .func (PySem.W.fnOf "_law_lay_inner" "_law_lay_inner" (defArgs s_law_lay_inner) (defBody s_law_lay_inner) (defScope s_law_lay_inner) .none kV19 dc19 pm19 an19 cd19 ct19), sl19⟩) (c19 : PySem.W.codeIn K cd19 "_law_lay_inner" = true) (k19 : PySem.W.keepIn K (.ref f19) = true)
    {f20 : Addr} {od20 an20 : Option Addr} {sl20 : Array (Option Value)} {oc20 kV20 dc20 pm20 cd20 ct20 : Value}
    (a20 : PySem.W.nsIn K mainGlobals "_law_lay" = some (some (.ref f20))) (l20 : K.lookup f20 = some ⟨oc20, od20, .func (PySem.W.fnOf "_law_lay" "_law_lay" (defArgs s_law_lay) (defBody s_law_lay) (defScope s_law_lay) .none kV20 dc20 pm20 an20 cd20 ct20), sl20⟩) (c20 : PySem.W.codeIn K cd20 "_law_lay" = true) (k20 : PySem.W.keepIn K (.ref f20) = true)
    {f21 : Addr} {od21 an21 : Option Addr} {sl21 : Array (Option Value)} {oc21 kV21 dc21 pm21 cd21 ct21 : Value}
    (a21 : PySem.W.nsIn K mainGlobals "_law_found" = some (some (.ref f21))) (l21 : K.lookup f21 = some ⟨oc21, od21, .func (PySem.W.fnOf "_law_found" "_law_found" (defArgs s_law_found) (defBody s_law_found) (defScope s_law_found) .none kV21 dc21 pm21 an21 cd21 ct21), sl21⟩) (c21 : PySem.W.codeIn K cd21 "_law_found" = true) (k21 : PySem.W.keepIn K (.ref f21) = true)
    {f22 : Addr} {od22 an22 : Option Addr} {sl22 : Array (Option Value)} {oc22 kV22 dc22 pm22 cd22 ct22 : Value}
    (a22 : PySem.W.nsIn K mainGlobals "_law_word" = some (some (.ref f22))) (l22 : K.lookup f22 = some ⟨oc22, od22, .func (PySem.W.fnOf "_law_word" "_law_word" (defArgs s_law_word) (defBody s_law_word) (defScope s_law_word) .none kV22 dc22 pm22 an22 cd22 ct22), sl22⟩) (c22 : PySem.W.codeIn K cd22 "_law_word" = true) (k22 : PySem.W.keepIn K (.ref f22) = true)
    {f23 : Addr} {od23 an23 : Option Addr} {sl23 : Array (Option Value)} {oc23 kV23 dc23 pm23 cd23 ct23 : Value}
    (a23 : PySem.W.nsIn K mainGlobals "_law_size" = some (some (.ref f23))) (l23 : K.lookup f23 = some ⟨oc23, od23, .func (PySem.W.fnOf "_law_size" "_law_size" (defArgs s_law_size) (defBody s_law_size) (defScope s_law_size) .none kV23 dc23 pm23 an23 cd23 ct23), sl23⟩) (c23 : PySem.W.codeIn K cd23 "_law_size" = true) (k23 : PySem.W.keepIn K (.ref f23) = true)
    {f24 : Addr} {od24 an24 : Option Addr} {sl24 : Array (Option Value)} {oc24 kV24 dc24 pm24 cd24 ct24 : Value}
    (a24 : PySem.W.nsIn K mainGlobals "_law_body" = some (some (.ref f24))) (l24 : K.lookup f24 = some ⟨oc24, od24, .func (PySem.W.fnOf "_law_body" "_law_body" (defArgs s_law_body) (defBody s_law_body) (defScope s_law_body) .none kV24 dc24 pm24 an24 cd24 ct24), sl24⟩) (c24 : PySem.W.codeIn K cd24 "_law_body" = true) (k24 : PySem.W.keepIn K (.ref f24) = true)
    {f25 : Addr} {od25 an25 : Option Addr} {sl25 : Array (Option Value)} {oc25 kV25 dc25 pm25 cd25 ct25 : Value}
    (a25 : PySem.W.nsIn K mainGlobals "_law_pile" = some (some (.ref f25))) (l25 : K.lookup f25 = some ⟨oc25, od25, .func (PySem.W.fnOf "_law_pile" "_law_pile" (defArgs s_law_pile) (defBody s_law_pile) (defScope s_law_pile) .none kV25 dc25 pm25 an25 cd25 ct25), sl25⟩) (c25 : PySem.W.codeIn K cd25 "_law_pile" = true) (k25 : PySem.W.keepIn K (.ref f25) = true)
    {f26 : Addr} {od26 an26 : Option Addr} {sl26 : Array (Option Value)} {oc26 kV26 dc26 pm26 cd26 ct26 : Value}
    (a26 : PySem.W.nsIn K mainGlobals "_law_program" = some (some (.ref f26))) (l26 : K.lookup f26 = some ⟨oc26, od26, .func (PySem.W.fnOf "_law_program" "_law_program" (defArgs s_law_program) (defBody s_law_program) (defScope s_law_program) .none kV26 dc26 pm26 an26 cd26 ct26), sl26⟩) (c26 : PySem.W.codeIn K cd26 "_law_program" = true) (k26 : PySem.W.keepIn K (.ref f26) = true)
    {f27 : Addr} {od27 an27 : Option Addr} {sl27 : Array (Option Value)} {oc27 kV27 dc27 pm27 cd27 ct27 : Value}
    (a27 : PySem.W.nsIn K mainGlobals "_law_asked" = some (some (.ref f27))) (l27 : K.lookup f27 = some ⟨oc27, od27, .func (PySem.W.fnOf "_law_asked" "_law_asked" (defArgs s_law_asked) (defBody s_law_asked) (defScope s_law_asked) .none kV27 dc27 pm27 an27 cd27 ct27), sl27⟩) (c27 : PySem.W.codeIn K cd27 "_law_asked" = true) (k27 : PySem.W.keepIn K (.ref f27) = true)
    {f28 : Addr} {od28 an28 : Option Addr} {sl28 : Array (Option Value)} {oc28 kV28 dc28 pm28 cd28 ct28 : Value}
    (a28 : PySem.W.nsIn K mainGlobals "_law_wide" = some (some (.ref f28))) (l28 : K.lookup f28 = some ⟨oc28, od28, .func (PySem.W.fnOf "_law_wide" "_law_wide" (defArgs s_law_wide) (defBody s_law_wide) (defScope s_law_wide) .none kV28 dc28 pm28 an28 cd28 ct28), sl28⟩) (c28 : PySem.W.codeIn K cd28 "_law_wide" = true) (k28 : PySem.W.keepIn K (.ref f28) = true)
    {f29 : Addr} {od29 an29 : Option Addr} {sl29 : Array (Option Value)} {oc29 kV29 dc29 pm29 cd29 ct29 : Value}
    (a29 : PySem.W.nsIn K mainGlobals "_law_hand" = some (some (.ref f29))) (l29 : K.lookup f29 = some ⟨oc29, od29, .func (PySem.W.fnOf "_law_hand" "_law_hand" (defArgs s_law_hand) (defBody s_law_hand) (defScope s_law_hand) .none kV29 dc29 pm29 an29 cd29 ct29), sl29⟩) (c29 : PySem.W.codeIn K cd29 "_law_hand" = true) (k29 : PySem.W.keepIn K (.ref f29) = true)
    {f30 : Addr} {od30 an30 : Option Addr} {sl30 : Array (Option Value)} {oc30 kV30 dc30 pm30 cd30 ct30 : Value}
    (a30 : PySem.W.nsIn K mainGlobals "law" = some (some (.ref f30))) (l30 : K.lookup f30 = some ⟨oc30, od30, .func (PySem.W.fnOf "law" "law" (defArgs s_law) (defBody s_law) (defScope s_law) .none kV30 dc30 pm30 an30 cd30 ct30), sl30⟩) (c30 : PySem.W.codeIn K cd30 "law" = true) (k30 : PySem.W.keepIn K (.ref f30) = true)
    (z_abs : PySem.W.nsIn K mainGlobals "abs" = some none)    (z_all : PySem.W.nsIn K mainGlobals "all" = some none)    (z_bool : PySem.W.nsIn K mainGlobals "bool" = some none)    (z_int : PySem.W.nsIn K mainGlobals "int" = some none)    (z_isinstance : PySem.W.nsIn K mainGlobals "isinstance" = some none)    (z_len : PySem.W.nsIn K mainGlobals "len" = some none)    (z_max : PySem.W.nsIn K mainGlobals "max" = some none)    (z_range : PySem.W.nsIn K mainGlobals "range" = some none)    (z_str : PySem.W.nsIn K mainGlobals "str" = some none)    (z_sum : PySem.W.nsIn K mainGlobals "sum" = some none)    (z_tuple : PySem.W.nsIn K mainGlobals "tuple" = some none)    (z_zip : PySem.W.nsIn K mainGlobals "zip" = some none) :
    ∃ fd : FuncData, (∀ (s : Shared) (v : Value), BindsTo s fd ⟨[v], []⟩ [("script", v)]) ∧ ∀ base : Heap, K.In base → base.Ns mainGlobals mg → FnOk l.prog w K mg base CX0 68 fa fd ["script"] (spLaw K) := by
  have e := hfa.symm.trans (PySem.W.mg_of X G a30)
  cases e
  have F0 := fun_mk (st := s_lays_nothing) l0 c0 k0
  have b0 := F0.binds (ps := ["statement"]) fun _ _ _ _ _ _  us hl => match us, hl with | [_], _ => rfl
  have F1 := fun_mk (st := s_is_back) l1 c1 k1
  have b1 := F1.binds (ps := ["statement"]) fun _ _ _ _ _ _  us hl => match us, hl with | [_], _ => rfl
  have F2 := fun_mk (st := s_Layer_mark) l2 c2 k2
  have b2 := F2.binds (ps := ["self"]) fun _ _ _ _ _ _  us hl => match us, hl with | [_], _ => rfl
  have F3 := fun_mk (st := s_Layer_add) l3 c3 k3
  have b3 := F3.binds (ps := ["self", "row"]) fun _ _ _ _ _ _  us hl => match us, hl with | [_, _], _ => rfl
  have F4 := fun_mk (st := s_Layer_put) l4 c4 k4
  have b4 := F4.binds (ps := ["self", "mark"]) fun _ _ _ _ _ _  us hl => match us, hl with | [_, _], _ => rfl
  have F5 := fun_mk (st := s_lay_statement) l5 c5 k5
  have b5 := F5.binds (ps := ["layer", "statement", "here", "there", "last"]) fun _ _ _ _ _ _  us hl => match us, hl with | [_, _, _, _, _], _ => rfl
  have F6 := fun_mk (st := s_lay_body) l6 c6 k6
  have b6 := F6.binds (ps := ["layer", "body", "begin", "behind", "last"]) fun _ _ _ _ _ _  us hl => match us, hl with | [_, _, _, _, _], _ => rfl
  have F7 := fun_mk (st := s_row_at) l7 c7 k7
  have b7 := F7.binds (ps := ["layer", "mark"]) fun _ _ _ _ _ _  us hl => match us, hl with | [_, _], _ => rfl
  have F8 := fun_mk (st := s_told_row) l8 c8 k8
  have b8 := F8.binds (ps := ["layer", "deeds", "row"]) fun _ _ _ _ _ _  us hl => match us, hl with | [_, _, _], _ => rfl
  have F9 := fun_mk (st := s_Layer_init) l9 c9 k9
  have b9 := F9.binds (ps := ["self"]) fun _ _ _ _ _ _  us hl => match us, hl with | [_], _ => rfl
  have F10 := fun_mk (st := s_word_code) l10 c10 k10
  have b10 := F10.binds (ps := ["deeds", "body"]) fun _ _ _ _ _ _  us hl => match us, hl with | [_, _], _ => rfl
  have F11 := fun_mk (st := s_code_of) l11 c11 k11
  have b11 := F11.binds (ps := ["program"]) fun _ _ _ _ _ _  us hl => match us, hl with | [_], _ => rfl
  have F12 := fun_mk (st := s_rows_number) l12 c12 k12
  have b12 := F12.binds (ps := ["code"]) fun _ _ _ _ _ _  us hl => match us, hl with | [_], _ => rfl
  have F13 := fun_mk (st := s_law_churn) l13 c13 k13
  have b13 := F13.binds (ps := ["script"]) fun _ _ _ _ _ _  us hl => match us, hl with | [_], _ => rfl
  have F14 := fun_mk (st := s_law_pour) l14 c14 k14
  have b14 := F14.binds (ps := ["jug", "many"]) fun _ _ _ _ _ _  us hl => match us, hl with | [_, _], _ => rfl
  have F15 := fun_mk (st := s_law_equal) l15 c15 k15
  have b15 := F15.binds (ps := ["told", "due"]) fun _ _ _ _ _ _  us hl => match us, hl with | [_, _], _ => rfl
  have F16 := fun_mk (st := s_law_lays_nothing) l16 c16 k16
  have b16 := F16.binds (ps := ["statement"]) fun _ _ _ _ _ _  us hl => match us, hl with | [_], _ => rfl
  have F17 := fun_mk (st := s_law_at_once) l17 c17 k17
  have b17 := F17.binds (ps := ["body"]) fun _ _ _ _ _ _  us hl => match us, hl with | [_], _ => rfl
  have F18 := fun_mk (st := s_law_mark) l18 c18 k18
  have b18 := F18.binds (ps := ["marks"]) fun _ _ _ _ _ _  us hl => match us, hl with | [_], _ => rfl
  have F19 := fun_mk (st := s_law_lay_inner) l19 c19 k19
  have b19 := F19.binds (ps := ["state", "one", "here", "then"]) fun _ _ _ _ _ _  us hl => match us, hl with | [_, _, _, _], _ => rfl
  have F20 := fun_mk (st := s_law_lay) l20 c20 k20
  have b20 := F20.binds (ps := ["state", "body", "begin", "behind"]) fun _ _ _ _ _ _  us hl => match us, hl with | [_, _, _, _], _ => rfl
  have F21 := fun_mk (st := s_law_found) l21 c21 k21
  have b21 := F21.binds (ps := ["marks", "mark"]) fun _ _ _ _ _ _  us hl => match us, hl with | [_, _], _ => rfl
  have F22 := fun_mk (st := s_law_word) l22 c22 k22
  have b22 := F22.binds (ps := ["deeds", "body"]) fun _ _ _ _ _ _  us hl => match us, hl with | [_, _], _ => rfl
  have F23 := fun_mk (st := s_law_size) l23 c23 k23
  have b23 := F23.binds (ps := ["statement"]) fun _ _ _ _ _ _  us hl => match us, hl with | [_], _ => rfl
  have F24 := fun_mk (st := s_law_body) l24 c24 k24
  have b24 := F24.binds (ps := ["jug", "left", "deep", "sizes"]) fun _ _ _ _ _ _  us hl => match us, hl with | [_, _, _, _], _ => rfl
  have F25 := fun_mk (st := s_law_pile) l25 c25 k25
  have b25 := F25.binds (ps := ["jug", "kinds"]) fun _ _ _ _ _ _  us hl => match us, hl with | [_, _], _ => rfl
  have F26 := fun_mk (st := s_law_program) l26 c26 k26
  have b26 := F26.binds (ps := ["jug", "many"]) fun _ _ _ _ _ _  us hl => match us, hl with | [_, _], _ => rfl
  have F27 := fun_mk (st := s_law_asked) l27 c27 k27
  have b27 := F27.binds (ps := ["program"]) fun _ _ _ _ _ _  us hl => match us, hl with | [_], _ => rfl
  have F28 := fun_mk (st := s_law_wide) l28 c28 k28
  have b28 := F28.binds (ps := ["jug"]) fun _ _ _ _ _ _  us hl => match us, hl with | [_], _ => rfl
  have F29 := fun_mk (st := s_law_hand) l29 c29 k29
  have b29 := F29.binds (ps := ["jug"]) fun _ _ _ _ _ _  us hl => match us, hl with | [_], _ => rfl
  have F30 := fun_mk (st := s_law) l30 c30 k30
  have b30 := F30.binds (ps := ["script"]) fun _ _ _ _ _ _  us hl => match us, hl with | [_], _ => rfl
  have kwb0 := kwB_of (ps := ["program"]) (ks := ["program"]) (nu := 0) (p := [0]) F11 fun _ _ _ _ _ _  us ws hu hw => match us, ws, hu, hw with | [], [_], _, _ => rfl
  have kwb1 := kwB_of (ps := ["code"]) (ks := ["code"]) (nu := 0) (p := [0]) F12 fun _ _ _ _ _ _  us ws hu hw => match us, ws, hu, hw with | [], [_], _, _ => rfl
  have T : Txt K mg := ⟨f0, _, F0, PySem.W.mg_of X G a0, b0, f1, _, F1, PySem.W.mg_of X G a1, b1, f2, _, F2, ⟨a2, i2, k2⟩, b2, f3, _, F3, ⟨a3, i3, k3⟩, b3, f4, _, F4, ⟨a4, i4, k4⟩, b4, f5, _, F5, PySem.W.mg_of X G a5, b5, f6, _, F6, PySem.W.mg_of X G a6, b6, f7, _, F7, PySem.W.mg_of X G a7, b7, f8, _, F8, PySem.W.mg_of X G a8, b8, f9, _, F9, ⟨mi_Layer, a9, i9, kp_Layer⟩, b9, f10, _, F10, PySem.W.mg_of X G a10, b10, f11, _, F11, PySem.W.mg_of X G a11, b11, f12, _, F12, PySem.W.mg_of X G a12, b12, f13, _, F13, PySem.W.mg_of X G a13, b13, f14, _, F14, PySem.W.mg_of X G a14, b14, f15, _, F15, PySem.W.mg_of X G a15, b15, f16, _, F16, PySem.W.mg_of X G a16, b16, f17, _, F17, PySem.W.mg_of X G a17, b17, f18, _, F18, PySem.W.mg_of X G a18, b18, f19, _, F19, PySem.W.mg_of X G a19, b19, f20, _, F20, PySem.W.mg_of X G a20, b20, f21, _, F21, PySem.W.mg_of X G a21, b21, f22, _, F22, PySem.W.mg_of X G a22, b22, f23, _, F23, PySem.W.mg_of X G a23, b23, f24, _, F24, PySem.W.mg_of X G a24, b24, f25, _, F25, PySem.W.mg_of X G a25, b25, f26, _, F26, PySem.W.mg_of X G a26, b26, f27, _, F27, PySem.W.mg_of X G a27, b27, f28, _, F28, PySem.W.mg_of X G a28, b28, f29, _, F29, PySem.W.mg_of X G a29, b29, fa, _, F30, PySem.W.mg_of X G a30, b30, PySem.W.mg_none_of X G z_abs, PySem.W.mg_none_of X G z_all, PySem.W.mg_none_of X G z_bool, PySem.W.mg_none_of X G z_int, PySem.W.mg_none_of X G z_isinstance, PySem.W.mg_none_of X G z_len, PySem.W.mg_none_of X G z_max, PySem.W.mg_none_of X G z_range, PySem.W.mg_none_of X G z_str, PySem.W.mg_none_of X G z_sum, PySem.W.mg_none_of X G z_tuple, PySem.W.mg_none_of X G z_zip, kwb0, kwb1, PySem.W.mg_of X G cA_Layer, ⟨pg_Layer, hd_Layer, pv_Layer, sa_Layer⟩, na_Layer_marks, na_Layer_rows, na_Layer_many⟩
  exact ⟨_, fun s v => .of_eq rfl, fun base _ _ => (ok_law (base := base) (P := l.prog) (w := w) ⟨f0, _, F0, PySem.W.mg_of X G a0, b0, f1, _, F1, PySem.W.mg_of X G a1, b1, f2, _, F2, ⟨a2, i2, k2⟩, b2, f3, _, F3, ⟨a3, i3, k3⟩, b3, f4, _, F4, ⟨a4, i4, k4⟩, b4, f5, _, F5, PySem.W.mg_of X G a5, b5, f6, _, F6, PySem.W.mg_of X G a6, b6, f7, _, F7, PySem.W.mg_of X G a7, b7, f8, _, F8, PySem.W.mg_of X G a8, b8, f9, _, F9, ⟨mi_Layer, a9, i9, kp_Layer⟩, b9, f10, _, F10, PySem.W.mg_of X G a10, b10, f11, _, F11, PySem.W.mg_of X G a11, b11, f12, _, F12, PySem.W.mg_of X G a12, b12, f13, _, F13, PySem.W.mg_of X G a13, b13, f14, _, F14, PySem.W.mg_of X G a14, b14, f15, _, F15, PySem.W.mg_of X G a15, b15, f16, _, F16, PySem.W.mg_of X G a16, b16, f17, _, F17, PySem.W.mg_of X G a17, b17, f18, _, F18, PySem.W.mg_of X G a18, b18, f19, _, F19, PySem.W.mg_of X G a19, b19, f20, _, F20, PySem.W.mg_of X G a20, b20, f21, _, F21, PySem.W.mg_of X G a21, b21, f22, _, F22, PySem.W.mg_of X G a22, b22, f23, _, F23, PySem.W.mg_of X G a23, b23, f24, _, F24, PySem.W.mg_of X G a24, b24, f25, _, F25, PySem.W.mg_of X G a25, b25, f26, _, F26, PySem.W.mg_of X G a26, b26, f27, _, F27, PySem.W.mg_of X G a27, b27, f28, _, F28, PySem.W.mg_of X G a28, b28, f29, _, F29, PySem.W.mg_of X G a29, b29, fa, _, F30, PySem.W.mg_of X G a30, b30, PySem.W.mg_none_of X G z_abs, PySem.W.mg_none_of X G z_all, PySem.W.mg_none_of X G z_bool, PySem.W.mg_none_of X G z_int, PySem.W.mg_none_of X G z_isinstance, PySem.W.mg_none_of X G z_len, PySem.W.mg_none_of X G z_max, PySem.W.mg_none_of X G z_range, PySem.W.mg_none_of X G z_str, PySem.W.mg_none_of X G z_sum, PySem.W.mg_none_of X G z_tuple, PySem.W.mg_none_of X G z_zip, kwb0, kwb1, PySem.W.mg_of X G cA_Layer, ⟨pg_Layer, hd_Layer, pv_Layer, sa_Layer⟩, na_Layer_marks, na_Layer_rows, na_Layer_many⟩).law⟩
theorem walk {l : PySem.W.OpenLaw} {q : Program} {loose : List Str} {XP : (Str → Option Value) → Heap → Prop} {YP : World → Heap → Prop} {d : DefRec} {K : Params → PySem.W.Frag} (hn : l.most = some 63) (hdf : d.params.defaults = [])
    (hY : ∀ (w : World) (h : Heap), YP w h → (K w.params).In h)
    (F : ∀ (w : World) (mg : Str → Option Value) (fa : Addr) (h : Heap), (K w.params).In h → h.Ns mainGlobals mg → mg d.name = some (.ref fa) →
      ∃ fd : FuncData, (∀ (s : Shared) (u : Value), BindsTo s fd ⟨[u], []⟩ [("script", u)]) ∧ ∀ base : Heap, (K w.params).In base → base.Ns mainGlobals mg → FnOk l.prog w (K w.params) mg base CX0 68 fa fd ["script"] (spLaw (K w.params))) :
    PySem.W.WalkO q loose XP YP l.row.toRowW d [] (fun f vs => PySem.call f vs) :=
  L2.walk_of (n := 63) (k := 68) (x := "script") (CX := fun _ => CX0) (sp := fun w => spLaw (K w.params)) hn (by decide) hdf ⟨rfl, by decide, by decide⟩ hY F (fun _ _ a ns hl _ hS => ⟨a, ns, rfl, hS, hl, fun _ => rfl⟩) fun _ _ _ _ _ z => z
end L3

open PySem PySem.W PyProof.Rows in
set_option maxRecDepth 100000 in
set_option maxHeartbeats 0 in
theorem PySem.Challenge.cw_pilesfit_k07_code_of_holds : PySem.Challenge.rw_pilesfit_k07_code_of.Holds := by
  w_on; o_law; k_head; (case hw => w_witness2)
  k_fill
  refine L3.walk (l := PySem.Challenge.rw_pilesfit_k07_code_of) rfl rfl (fun w h Y => PySem.W.kIn_of Y) ?F
  case F =>
    intro w mg fa h KX G hmg
    refine' L3.all_mk KX G hmg ?cA_Layer ?pg_Layer ?hd_Layer ?pv_Layer ?sa_Layer ?mi_Layer ?kp_Layer ?na_Layer_marks ?na_Layer_rows ?na_Layer_many ?a0 ?l0 ?c0 ?k0 ?a1 ?l1 ?c1 ?k1 ?a2 ?i2 ?l2 ?c2 ?k2 ?a3 ?i3 ?l3 ?c3 ?k3 ?a4 ?i4 ?l4 ?c4 ?k4 ?a5 ?l5 ?c5 ?k5 ?a6 ?l6 ?c6 ?k6 ?a7 ?l7 ?c7 ?k7 ?a8 ?l8 ?c8 ?k8 ?a9 ?i9 ?l9 ?c9 ?k9 ?a10 ?l10 ?c10 ?k10 ?a11 ?l11 ?c11 ?k11 ?a12 ?l12 ?c12 ?k12 ?a13 ?l13 ?c13 ?k13 ?a14 ?l14 ?c14 ?k14 ?a15 ?l15 ?c15 ?k15 ?a16 ?l16 ?c16 ?k16 ?a17 ?l17 ?c17 ?k17 ?a18 ?l18 ?c18 ?k18 ?a19 ?l19 ?c19 ?k19 ?a20 ?l20 ?c20 ?k20 ?a21 ?l21 ?c21 ?k21 ?a22 ?l22 ?c22 ?k22 ?a23 ?l23 ?c23 ?k23 ?a24 ?l24 ?c24 ?k24 ?a25 ?l25 ?c25 ?k25 ?a26 ?l26 ?c26 ?k26 ?a27 ?l27 ?c27 ?k27 ?a28 ?l28 ?c28 ?k28 ?a29 ?l29 ?c29 ?k29 ?a30 ?l30 ?c30 ?k30 ?z_abs ?z_all ?z_bool ?z_int ?z_isinstance ?z_len ?z_max ?z_range ?z_str ?z_sum ?z_tuple ?z_zip
    (case cA_Layer => k_is)
    (case pg_Layer => k_is)
    (case hd_Layer => k_is)
    (case pv_Layer => k_is)
    (case sa_Layer => k_is)
    (case mi_Layer => k_is)
    (case kp_Layer => k_is)
    (case na_Layer_marks => k_is)
    (case na_Layer_rows => k_is)
    (case na_Layer_many => k_is)
    (case a0 => k_is)
    (case l0 => k_is)
    (case c0 => k_is)
    (case k0 => k_is)
    (case a1 => k_is)
    (case l1 => k_is)
    (case c1 => k_is)
    (case k1 => k_is)
    (case a2 => k_is)
    (case i2 => k_is)
    (case l2 => k_is)
    (case c2 => k_is)
    (case k2 => k_is)
    (case a3 => k_is)
    (case i3 => k_is)
    (case l3 => k_is)
    (case c3 => k_is)
    (case k3 => k_is)
    (case a4 => k_is)
    (case i4 => k_is)
    (case l4 => k_is)
    (case c4 => k_is)
    (case k4 => k_is)
    (case a5 => k_is)
    (case l5 => k_is)
    (case c5 => k_is)
    (case k5 => k_is)
    (case a6 => k_is)
    (case l6 => k_is)
    (case c6 => k_is)
    (case k6 => k_is)
    (case a7 => k_is)
    (case l7 => k_is)
    (case c7 => k_is)
    (case k7 => k_is)
    (case a8 => k_is)
    (case l8 => k_is)
    (case c8 => k_is)
    (case k8 => k_is)
    (case a9 => k_is)
    (case i9 => k_is)
    (case l9 => k_is)
    (case c9 => k_is)
    (case k9 => k_is)
    (case a10 => k_is)
    (case l10 => k_is)
    (case c10 => k_is)
    (case k10 => k_is)
    (case a11 => k_is)
    (case l11 => k_is)
    (case c11 => k_is)
    (case k11 => k_is)
    (case a12 => k_is)
    (case l12 => k_is)
    (case c12 => k_is)
    (case k12 => k_is)
    (case a13 => k_is)
    (case l13 => k_is)
    (case c13 => k_is)
    (case k13 => k_is)
    (case a14 => k_is)
    (case l14 => k_is)
    (case c14 => k_is)
    (case k14 => k_is)
    (case a15 => k_is)
    (case l15 => k_is)
    (case c15 => k_is)
    (case k15 => k_is)
    (case a16 => k_is)
    (case l16 => k_is)
    (case c16 => k_is)
    (case k16 => k_is)
    (case a17 => k_is)
    (case l17 => k_is)
    (case c17 => k_is)
    (case k17 => k_is)
    (case a18 => k_is)
    (case l18 => k_is)
    (case c18 => k_is)
    (case k18 => k_is)
    (case a19 => k_is)
    (case l19 => k_is)
    (case c19 => k_is)
    (case k19 => k_is)
    (case a20 => k_is)
    (case l20 => k_is)
    (case c20 => k_is)
    (case k20 => k_is)
    (case a21 => k_is)
    (case l21 => k_is)
    (case c21 => k_is)
    (case k21 => k_is)
    (case a22 => k_is)
    (case l22 => k_is)
    (case c22 => k_is)
    (case k22 => k_is)
    (case a23 => k_is)
    (case l23 => k_is)
    (case c23 => k_is)
    (case k23 => k_is)
    (case a24 => k_is)
    (case l24 => k_is)
    (case c24 => k_is)
    (case k24 => k_is)
    (case a25 => k_is)
    (case l25 => k_is)
    (case c25 => k_is)
    (case k25 => k_is)
    (case a26 => k_is)
    (case l26 => k_is)
    (case c26 => k_is)
    (case k26 => k_is)
    (case a27 => k_is)
    (case l27 => k_is)
    (case c27 => k_is)
    (case k27 => k_is)
    (case a28 => k_is)
    (case l28 => k_is)
    (case c28 => k_is)
    (case k28 => k_is)
    (case a29 => k_is)
    (case l29 => k_is)
    (case c29 => k_is)
    (case k29 => k_is)
    (case a30 => k_is)
    (case l30 => k_is)
    (case c30 => k_is)
    (case k30 => k_is)
    (case z_abs => k_is)
    (case z_all => k_is)
    (case z_bool => k_is)
    (case z_int => k_is)
    (case z_isinstance => k_is)
    (case z_len => k_is)
    (case z_max => k_is)
    (case z_range => k_is)
    (case z_str => k_is)
    (case z_sum => k_is)
    (case z_tuple => k_is)
    (case z_zip => k_is)
