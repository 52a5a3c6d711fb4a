import PyProof.Rows.All
import Wide.All
import OpenK.AllK
import Wide.FinOn
import HandS.ForMost
import HandS.TupAny
import HandS.IsInst
import HandS.Conv
import HandS.Wide
import HandS.TupMul
import HandS.WordsDict
import HandS.Walk
import HandS.Flow
import HandS.Iter
import HandS.Zip
import HandS.Strs
import KE.GoesMore
import HandS.Exc
import HandS.ExcInit
import HandS.ExcField
import HandS.ExcOwn
import HandS.WordsExc
import HandS.Style
import HandS.Dict
import HandS.Text
import HandS.StrMore
import HandS.More
import HandS.SortInts
import HandS.RaiseMore
import HandS.TupLen
import HandS.CallSlots
import HandS.Rev
import HandS.SetFor
import HandS.Call
import HandS.Deep
import PySem.Challenge.RW_pilesfit_k69_whole_weights
set_option Elab.async false
set_option maxRecDepth 100000
set_option linter.all false
set_option maxHeartbeats 2000000
/-! New tuples whose object is known whole: it has no dict of its own, so their methods can be called. -/
namespace L3
open PySem PySem.Spec PyProof.Rows L2
open AutoSeq1 (wpAny_loadPart')
/-- a tuple without a dict stands at a -/
def SqX (K : PySem.W.Frag) (H : Hp) (a : Addr) (xs : List V) : Prop :=
  (∃ o : Obj, H a = some (.frz o (.tup xs)) ∧ o.dict = none) ∨ ∃ (o : Obj) (its : Array Value) (n : Nat), K.lookup a = some o ∧ o.cls = .type "tuple" ∧ o.dict = none ∧ o.data = .seq its n ∧ its.size ≤ sizeLine ∧ Vals xs its.toList
theorem SqX.t {K : PySem.W.Frag} {H : Hp} {a : Addr} {xs : List V} (h : SqX K H a xs) : SqT K H a xs := by
  rcases h with ⟨o, h, _⟩ | ⟨o, its, n, h1, h2, _, h3⟩
  · exact .inl (.inr ⟨o, h⟩)
  · exact .inr ⟨o, its, n, h1, h2, h3⟩
theorem SqX.mono {K : PySem.W.Frag} {H H' : Hp} {a : Addr} {xs : List V} (e : Same H H') (h : SqX K H a xs) : SqX K H' a xs := h.imp (fun ⟨o, h, d⟩ => ⟨o, e _ _ h, d⟩) id
/-- what stands at a new place -/
abbrev NewT (Q : VK) (H : Hp) (xs : List V) : Prop := ∀ (p : Addr) (o : Obj), H p = none → o.dict = none → Q (.ref p) (upd H p (.frz o (.tup xs)))
section
variable {X : Cx} {pins : List (Addr × Obj)} {σ : L2.St} {H : Hp} {s : Shared} {xs : List V} {its : List Value} {Q : VK}
theorem pushT (I : Inv X pins σ H s) (t' : Nat) (r : Vals xs its) (z : xs.length ≤ sizeLine) (q : NewT Q H xs) :
    EP X pins σ Q (.ref s.heap.objs.size) { s with heap := s.heap.push { cls := .type "tuple", data := .seq its.toArray }, toks := t' } := by
  have hf : H s.heap.objs.size = none := I.hok.fresh (Nat.le_refl _)
  have h : (s.heap.push { cls := .type "tuple", data := .seq its.toArray }).get? s.heap.objs.size = some { cls := .type "tuple", data := .seq its.toArray } := Heap.get?_push_size _ rfl
  exact ⟨.ref s.heap.objs.size, _, I.laid (t' := t') (o := .frz { cls := .type "tuple", data := .seq its.toArray } (.tup xs)) (fun b u e => Heap.get?_push_of_some _ e) (Nat.le_refl _) ⟨h, z, its, r, ⟨_, h, rfl, _, rfl⟩⟩, rfl, q _ { cls := .type "tuple", data := .seq its.toArray } hf rfl⟩
end
/-! ### displays -/
abbrev tTupX (t : TA) : TE := fun σ H Q => t σ H fun xs H1 => xs.length ≤ sizeLine ∧ NewT Q H1 xs
section
variable {X : Cx} {es : List Expr} {t : TA} {pos : Pos}
theorem pe_tupX {k} (h : PA X es t) : PE X (.Tuple es k pos) (tTupX t) :=
  ⟨fun pins s σ H Q I hq => wpAny_Tuple_spliced (thn (h.run pos pins s σ H _ I hq) fun us s1 ⟨xs, H1, I1, r, z, q⟩ => ⟨by rw [← r.length]; exact z, pushT I1 s1.toks r z q⟩)⟩
/-! ### t + u -/
def rCatX (K : PySem.W.Frag) : R2 := fun x y H Q => ∃ a b xs ys, x = .ref a ∧ y = .ref b ∧ SqT K H a xs ∧ SqT K H b ys ∧ xs.length + ys.length ≤ sizeLine ∧
  (xs = [] → Q (.ref b) H) ∧ (xs ≠ [] → ys = [] → Q (.ref a) H) ∧ (xs ≠ [] → ys ≠ [] → NewT Q H (xs ++ ys))
theorem op_catX : OpR X (binaryOp .Add) (rCatX X.K) := by
  intro pins s σ H x y v u Q I rx ry ⟨a, b, xs, ys, ex, ey, ha, hb, hz, q0, q1, q2⟩
  by_cases hx : xs = []
  · exact op_catA pins s σ H x y v u Q I rx ry ⟨a, b, xs, ys, ex, ey, ha, hb, hz, q0, q1, fun g => absurd hx g⟩
  by_cases hy : ys = []
  · exact op_catA pins s σ H x y v u Q I rx ry ⟨a, b, xs, ys, ex, ey, ha, hb, hz, q0, q1, fun _ g => absurd hy g⟩
  subst ex ey
  cases rx; cases ry
  obtain ⟨l1, r1, p1, _⟩ := I.tuple ha
  obtain ⟨l2, r2, p2, _⟩ := I.tuple hb
  refine HT.cat_tup p1 p2 (fun g => hx (r1.nil_iff.mp g)) (fun g => absurd (r2.nil_iff.mp g) hy) (fun _ => ?_) ?_
  · exact pushT I s.toks (r1.append r2) (by rw [List.length_append]; exact hz) (q2 hx hy)
  · rw [← r1.length, ← r2.length]
    exact hz
/-! ### t[lo:hi] -/
def rSlX (K : PySem.W.Frag) : V → Option Int → Option Int → Hp → VK → Prop := fun x lo hi H Q => ∃ a xs, x = .ref a ∧ SqT K H a xs ∧
  (HT.sIx xs.length 0 lo = 0 ∧ HT.sIx xs.length xs.length hi = xs.length → Q (.ref a) H) ∧ (¬ (HT.sIx xs.length 0 lo = 0 ∧ HT.sIx xs.length xs.length hi = xs.length) → NewT Q H (cutV xs lo hi))
theorem sl_tupX : SlR X (rSlX X.K) := by
  intro pins s σ H x v vl vu lo hi sl Q I rx hs pl pu ⟨a, xs, ex, hx, q1, q2⟩
  by_cases hw : HT.sIx xs.length 0 lo = 0 ∧ HT.sIx xs.length xs.length hi = xs.length
  · exact sl_tupA pins s σ H x v vl vu lo hi sl Q I rx hs pl pu ⟨a, xs, ex, hx, q1, fun g => absurd hw g⟩
  subst ex
  cases rx
  obtain ⟨l, r, ht, hz⟩ := I.tuple hx
  have e : l.toArray.size = xs.length := by rw [List.size_toArray, r.length]
  refine ⟨"tuple", _, PyProof.Rows.slot_tuple_getitem.lookup, ht.typeIs, HT.getItem_tuple_cut ht hs pl pu (by rw [e]; exact hw) ?_ (by rw [e]; exact hz)⟩
  rw [e]
  exact pushT I s.toks ((r.drop _).take _) (Nat.le_trans (cutV_length xs lo hi) hz) (q2 hw)
/-! ### tuple(x) -/
theorem call_tupX : CallR X (.type "tuple") (fun xs H Q => ∃ p ys, xs = [.ref p] ∧ ((SqL X.K H p ys ∧ NewT Q H ys) ∨ (SqT X.K H p ys ∧ Q (.ref p) H))) := by
  intro pins s σ H xs us Q I r ⟨p, ys, ex, h⟩
  rcases h with ⟨hq, q⟩ | ⟨hq, q⟩
  · subst ex
    obtain ⟨u, rfl, ru⟩ := vals1 r
    cases ru
    obtain ⟨l, r', pl, hz⟩ := I.list hq
    exact call_tuple_list pl.isList (fun h' kp => pushT (I.kept (t' := s.toks) kp) s.toks r' hz q) (by rw [List.size_toArray, ← r'.length]; exact hz)
  · exact call_tuple_of pins s σ H xs us Q I r ⟨p, ys, ex, .inr ⟨hq, q⟩⟩
end
/-! ### t * k -/
section
variable (l : Addr) (items : Array Value) (n : Nat) (dd : Option Addr) (sl : Array (Option Value)) (x : Int) (u : Tok)
theorem mulT_none (c0 : (decide (x < -(2 ^ 63)) || decide (x ≥ 2 ^ 63)) = false) (c1 : (items.isEmpty || x == 1) = false) (c2 : x ≤ 0) :
    Meets (Builtin.«tuple.__mul__» ⟨[.ref l, .int x u], []⟩) (fun _ R s => s.heap.get? l = some ⟨.type "tuple", dd, .seq items n, sl⟩ ∧ R (.ok (.ret (Value.ref s.heap.objs.size))) { s with heap := s.heap.push { cls := Value.type "tuple", data := Data.seq #[] } }) :=
  .of_wp fun prog w A R s h => by
    obtain ⟨hp, g, d, tk, os⟩ := s
    obtain ⟨hl, h⟩ := h
    have f1 := AutoSeq1.idx_int
    have c3 : (decide (x ≤ 0) || items.isEmpty) = true := by rw [decide_eq_true c2]; rfl
    wp_walk using wpAny_loadPart' hl
    repeat (first
      | (refine wpAny_ite_false (decide_eq_false (by rw [c0]; exact Bool.false_ne_true)) ?_; wp_walk using wpAny_loadPart' hl)
      | (refine wpAny_ite_false (decide_eq_false (by rw [c1]; exact Bool.false_ne_true)) ?_; wp_walk using wpAny_loadPart' hl)
      | (refine wpAny_ite_true (decide_eq_true c3) ?_; wp_walk using wpAny_loadPart' hl))
    exact ⟨_, rfl, h⟩
theorem mulT_same (c0 : (decide (x < -(2 ^ 63)) || decide (x ≥ 2 ^ 63)) = false) (c1 : (items.isEmpty || x == 1) = true) :
    Meets (Builtin.«tuple.__mul__» ⟨[.ref l, .int x u], []⟩) (fun _ R s => s.heap.get? l = some ⟨.type "tuple", dd, .seq items n, sl⟩ ∧ R (.ok (.ret (Value.ref l))) s) :=
  .of_wp fun prog w A R s h => by
    obtain ⟨hp, g, d, tk, os⟩ := s
    obtain ⟨hl, h⟩ := h
    have f1 := AutoSeq1.idx_int
    wp_walk using wpAny_loadPart' hl
    repeat (first
      | (refine wpAny_ite_false (decide_eq_false (by rw [c0]; exact Bool.false_ne_true)) ?_; wp_walk using wpAny_loadPart' hl)
      | (refine wpAny_ite_true (decide_eq_true c1) ?_; wp_walk using wpAny_loadPart' hl))
    exact ⟨_, rfl, h⟩
end
/-- t * k, of any k -/
def rRepX (K : PySem.W.Frag) : R2 := fun x y H Q => ∃ l k xs, x = .ref l ∧ y = .int k ∧ SqT K H l xs ∧ -1000 ≤ k ∧ k ≤ 1000 ∧ xs.length ≤ 1000 ∧
  ((xs = [] ∨ k = 1) → Q (.ref l) H) ∧ (¬ (xs = [] ∨ k = 1) → NewT Q H (List.replicate k.toNat xs).flatten)
theorem op_repX {X : Cx} : OpR X (binaryOp .Mult) (rRepX X.K) := by
  intro pins s σ H x y v u Q I rx ry ⟨l, k, xs, ex, ey, hT, k0, k1, hz, q1, q2⟩
  subst ex ey
  cases rx
  obtain ⟨t, rfl⟩ := ry
  obtain ⟨its, r, ⟨⟨cls, dd, data, sl⟩, ho, hc, n, hd⟩, hs⟩ := I.tuple hT
  simp only at hc hd
  subst hc hd
  have hle : its.length = xs.length := r.length.symm
  have ie : its.toArray.isEmpty = decide (xs = []) := by
    cases its with
    | nil => cases r; rfl
    | cons a b =>
      cases r with
      | cons _ _ => simp
  have c0 : (decide (k < -(2 ^ 63)) || decide (k ≥ 2 ^ 63)) = false := by
    rw [decide_eq_false (by omega), decide_eq_false (by omega)]
    rfl
  have go : ∀ {R : Value → Shared → Prop}, wpAny (model X.prog X.w) X.A (call (.builtin "tuple.__mul__") [.ref l, .int k t]) R X.xe s → wpAny (model X.prog X.w) X.A (binaryOp .Mult (.ref l) (.int k t)) R X.xe s := fun h =>
    wpAny_binaryOp_repeat_ref (T := "tuple") (U := "int") (by decide) ⟨_, ho, rfl⟩ (fun s' => typeIs_int s' k t) noFill_tuple_mul F.fills_int_mul F.slot_int_rmul repeat_tuple F.slot_int_index.lookup
      (call_meets F.slot_int_rmul (typeIs_int s k t) F.entry_int_rmul (F.args_int_rmul_2 _ _) (int_rmul_tuple k t l its.toArray n dd sl) ⟨ho, rfl, ⟨_, ho, rfl⟩, h⟩)
  by_cases h1 : xs = [] ∨ k = 1
  · have c1 : (its.toArray.isEmpty || k == 1) = true := by
      rw [ie]
      rcases h1 with h1 | h1
      · rw [decide_eq_true h1]; rfl
      · rw [h1]; simp
    exact go (call_meets F.slot_tuple_mul ⟨_, ho, rfl⟩ F.entry_tuple_mul (F.args_tuple_mul_2 _ _) (mulT_same l its.toArray n dd sl k t c0 c1) ⟨ho, .ref l, H, I, rfl, q1 h1⟩)
  have c1 : (its.toArray.isEmpty || k == 1) = false := by
    rw [ie, decide_eq_false fun z => h1 (.inl z), Bool.false_or]
    exact beq_eq_false_iff_ne.mpr fun z => h1 (.inr z)
  by_cases h2 : k ≤ 0
  · refine go (call_meets F.slot_tuple_mul ⟨_, ho, rfl⟩ F.entry_tuple_mul (F.args_tuple_mul_2 _ _) (mulT_none l its.toArray n dd sl k t c0 c1 h2) ⟨ho, ?_⟩)
    have e : k.toNat = 0 := by omega
    have q2 := q2 h1
    rw [e] at q2
    exact pushT (its := []) I s.toks .nil (Nat.zero_le _) q2
  have c2 : (decide (k ≤ 0) || its.toArray.isEmpty) = false := by
    rw [ie, decide_eq_false h2, decide_eq_false fun z => h1 (.inl z)]
    rfl
  have hsz0 : its.toArray.size = xs.length := by rw [List.size_toArray, hle]
  have hm : ((its.toArray.size : Nat) : Int) * k ≤ 1000000 := by
    rw [hsz0]
    have a1 : ((xs.length : Nat) : Int) * k ≤ 1000 * k := Int.mul_le_mul_of_nonneg_right (by omega) (by omega)
    omega
  have mn : k.toNat * xs.length ≤ 1000 * 1000 := Nat.mul_le_mul (by omega) hz
  have flen : (List.replicate k.toNat its).flatten.length ≤ sizeLine := by
    rw [PyProof.Rows.lm_len_rep_flat, hle, sizeLine_eq]
    omega
  have c4 : Builtin.Tuple.tupleTooMany (((its.toArray.size : Nat) : Int) * k) = false := by
    unfold Builtin.Tuple.tupleTooMany
    rw [sizeLine_eq]
    exact decide_eq_false (by omega)
  refine go (call_meets F.slot_tuple_mul ⟨_, ho, rfl⟩ F.entry_tuple_mul (F.args_tuple_mul_2 _ _) (tuple_mulW l its.toArray n dd sl k t c0 c1 c2 (by omega) c4 (by rw [size_rep, List.size_toArray]; exact flen)) ⟨ho, ?_⟩)
  rw [size_rep]
  exact pushT I s.toks (r.rep k.toNat) (by rw [PyProof.Rows.lm_len_rep_flat, sizeLine_eq]; omega) (q2 h1)
/-! ### s * k -/
def repS (x : Str) (k : Int) : Str := ⟨((List.replicate k.toNat x.cps.toList).flatten).toArray⟩
theorem foldS (a : Array Nat) : ∀ (n : Nat) (b : Array Nat), ((List.replicate n a).foldl (· ++ ·) b).toList = b.toList ++ (List.replicate n a.toList).flatten
  | 0, b => by simp
  | n + 1, b => by
    rw [List.replicate_succ, List.foldl_cons, foldS a n, List.replicate_succ, List.flatten_cons, Array.toList_append, List.append_assoc]
theorem repS_eq (z : Str) (k : Int) : (⟨(List.replicate k.toNat z.cps).foldl (· ++ ·) #[]⟩ : Str) = repS z k := by
  unfold repS
  congr 1
  apply Array.ext'
  rw [foldS]
  simp
theorem repS_same {z : Str} {k : Int} (h : (k == 1 || z.length == 0) = true) : repS z k = z := by
  obtain ⟨c⟩ := z
  unfold repS
  congr 1
  apply Array.ext'
  rw [Bool.or_eq_true] at h
  rcases h with h | h
  · rw [show k = 1 from eq_of_beq h]
    simp
  · have h : c.size = 0 := eq_of_beq h
    have e : c = #[] := Array.eq_empty_of_size_eq_zero h
    subst e
    simp
theorem flat_len {α : Type} (l : List α) (n : Nat) : (List.replicate n l).flatten.length = l.length * n := by
  induction n with
  | zero => simp
  | succ n ih => rw [List.replicate_succ, List.flatten_cons, List.length_append, ih, Nat.mul_succ, Nat.add_comm]
theorem repS_length (z : Str) (k : Int) : (repS z k).length = z.length * k.toNat := by
  show (((List.replicate k.toNat z.cps.toList).flatten).toArray).size = _
  rw [List.size_toArray, flat_len]
  rfl
theorem op_mulS {X : Cx} : OpR X (binaryOp .Mult) (fun x y H Q => ∃ z k, x = .str z ∧ y = .int k ∧ -(2 ^ 40) ≤ k ∧ k ≤ 2 ^ 20 ∧ z.length ≤ 2 ^ 20 ∧ z.length * k.toNat ≤ 1000000 ∧ Q (.str (repS z k)) H) := by
  intro pins s σ H x y v u Q I rx ry ⟨z, k, ex, ey, k0, k1, hz, hl, q⟩
  subst ex ey
  obtain ⟨t, rfl⟩ := rx
  obtain ⟨t2, rfl⟩ := ry
  refine PySem.P.mul_str ?_ (fun h1 _ => ?_) (fun _ _ => ?_) ?_
  · rw [decide_eq_false (by omega), decide_eq_false (by omega)]
    rfl
  · have : (2 ^ 21 : Int) ≤ (2 ^ 63 - 1) / k := (Int.le_ediv_iff_mul_le (by omega)).mpr (by omega)
    omega
  · unfold PySem.Builtin.Str.tooLong
    rw [sizeLine_eq]
    exact decide_eq_false (by omega)
  · by_cases h1 : k < 1
    · rw [if_pos h1]
      have e : repS z k = Str.empty := by
        have e : k.toNat = 0 := by omega
        unfold repS
        rw [e]
        rfl
      rw [e] at q
      exact ⟨by decide, .str Str.empty, H, I.tok _, ⟨_, rfl⟩, q⟩
    · rw [if_neg h1]
      by_cases h2 : (k == 1 || z.length == 0) = true
      · rw [if_pos h2]
        exact ⟨.str (repS z k), H, I, ⟨t, by rw [repS_same h2]⟩, q⟩
      · rw [if_neg h2]
        rw [repS_eq]
        refine ⟨?_, .str (repS z k), H, I.tok _, ⟨_, rfl⟩, q⟩
        rw [repS_length, sizeLine_eq]
        omega
end L3

set_option Elab.async false
set_option maxRecDepth 100000
set_option linter.all false
set_option maxHeartbeats 2000000
/-! enumerate of a list or a tuple: each pair is a tuple whose object is known whole -/
namespace L3
open PySem PySem.Spec PyProof.Rows L2
open AutoSeq1 (wpAny_loadPart')
theorem enumNew_tup (l : Addr) (items : Array Value) (n : Nat) (dct : Option Addr) (sl : Array (Option Value)) :
    Meets (Builtin.«enumerate.__new__» ⟨[.type "enumerate", .ref l], []⟩) (fun _ R s => s.heap.get? l = some { cls := .type "tuple", dict := dct, data := .seq items n, slots := sl } ∧
      R (.ok (.ret (.ref (s.heap.push { cls := .type "tuple_iterator", data := .fields #[.ref l, .int 0 0] }).objs.size)))
        { s with heap := (s.heap.push { cls := .type "tuple_iterator", data := .fields #[.ref l, .int 0 0] }).push { cls := .type "enumerate", data := .fields #[.none, .bool false, .ref s.heap.objs.size, rawInt 0, .none, .none] } }) :=
  .of_wp fun prog w A R s h => by
    obtain ⟨hp, g, d, tk, os⟩ := s; obtain ⟨hl, h⟩ := h
    have hsub := sub_enumerate
    have hL : Heap.IsTuple (Shared.heap ⟨hp, g, d, tk, os⟩) l items := ⟨_, hl, rfl, n, rfl⟩
    wp_walk using wpAny_loadPart' hl
    refine wpAny_stack_any fun st => wpAny_pure ?_
    split
    · rename_i c _ _ _ _ _
      cases (c == Value.type "enumerate")
      · wp_walk using wpAny_loadPart' hl, wpAny_pyIter_tuple hL
        exact ⟨_, rfl, h⟩
      · wp_walk using wpAny_loadPart' hl, wpAny_pyIter_tuple hL
        exact ⟨_, rfl, h⟩
    · wp_walk using wpAny_loadPart' hl, wpAny_pyIter_tuple hL
      exact ⟨_, rfl, h⟩
theorem call_enumerate_tup {prog : Program} {w : World} {A : Around} {E : Value → Shared → Prop} {s : Shared} {l : Addr} {items : Array Value} {Q : Value → Shared → Prop} (hL : s.heap.IsTuple l items)
    (h : ∀ h', IsEnum h' (s.heap.objs.size + 1) s.heap.objs.size 0 .none → h'.IsTupleIter s.heap.objs.size l 0 → h'.objs.size = s.heap.objs.size + 2 →
      (∀ b o, s.heap.get? b = some o → h'.get? b = some o) → Q (.ref (s.heap.objs.size + 1)) { s with heap := h' }) :
    wpAny (model prog w) A (call (.type "enumerate") [.ref l]) Q E s := by
  obtain ⟨⟨c, dct, dt, sl⟩, hl, hc, n, hd⟩ := hL
  replace hc : c = .type "tuple" := hc
  replace hd : dt = .seq items n := hd
  subst hc hd
  refine callType_new F.called_enumerate (by decide) (F.typeCall_enumerate_1 _) (F.newCall_enumerate_1 _) (fun obj => F.args_object_init_2 obj _) F.entry_enumerate_new
    (enumNew_tup l items n dct sl) ⟨hl, ?_⟩
  have hz : (s.heap.push { cls := .type "tuple_iterator", data := .fields #[.ref l, .int 0 0] }).objs.size = s.heap.objs.size + 1 := Heap.size_push ..
  show _ ∧ _
  rw [hz]
  have he : IsEnum ((s.heap.push { cls := .type "tuple_iterator", data := .fields #[.ref l, .int 0 0] }).push
      { cls := .type "enumerate", data := .fields #[.none, .bool false, .ref s.heap.objs.size, rawInt 0, .none, .none] }) (s.heap.objs.size + 1) s.heap.objs.size 0 .none := by
    have := Heap.get?_push_size (s.heap.push { cls := .type "tuple_iterator", data := .fields #[.ref l, .int 0 0] })
      (o := { cls := .type "enumerate", data := .fields #[.none, .bool false, .ref s.heap.objs.size, rawInt 0, .none, .none] }) rfl
    rw [hz] at this; exact this
  refine ⟨⟨_, he, rfl⟩, h _ he ⟨_, Heap.get?_push_of_some _ (Heap.get?_push_size _ rfl), rfl, rfl⟩ (by rw [Heap.size_push, hz]) fun b o x => Heap.get?_push_of_some _ (Heap.get?_push_of_some _ x)⟩

/-- a list (true), a tuple (false) -/
def SqB (K : PySem.W.Frag) (H : Hp) (a : Addr) (xs : List V) : Bool → Prop
  | true => SqL K H a xs
  | false => SqT K H a xs
def SrcB (h : Heap) (a : Addr) (its : Array Value) : Bool → Prop
  | true => h.IsList a its
  | false => h.IsTuple a its
def ItrB (h : Heap) (it a : Addr) (i : Nat) : Bool → Prop
  | true => h.IsListIter it a i
  | false => h.IsTupleIter it a i
theorem ItrB.at {h h' : Heap} {it a : Addr} {i : Nat} (k : ∀ o, h.get? it = some o → h'.get? it = some o) : ∀ {b : Bool}, ItrB h it a i b → ItrB h' it a i b
  | true, x => Heap.IsListIter.at x k
  | false, x => Heap.IsTupleIter.at x k
theorem ItrB.obj {h : Heap} {it a : Addr} {i : Nat} : ∀ {b : Bool}, ItrB h it a i b → ∃ o, h.get? it = some o ∧ ∃ vs, o.data = .fields vs
  | true, ⟨o, e, _, d⟩ | false, ⟨o, e, _, d⟩ => ⟨o, e, _, d⟩
theorem srcB {X : Cx} {pins : List (Addr × Obj)} {σ : L2.St} {H : Hp} {s : Shared} {a : Addr} {xs : List V} (I : Inv X pins σ H s) : ∀ {b : Bool}, SqB X.K H a xs b → ∃ its : List Value, Vals xs its ∧ SrcB s.heap a its.toArray b
  | true, h => let ⟨its, r, p, _⟩ := I.list h; ⟨its, r, p.isList⟩
  | false, h => let ⟨its, r, p, _⟩ := I.tuple h; ⟨its, r, p⟩
theorem sqB_inj {X : Cx} {pins : List (Addr × Obj)} {σ : L2.St} {H : Hp} {s : Shared} {a : Addr} {xs ys : List V} (I : Inv X pins σ H s) : ∀ {b : Bool}, SqB X.K H a xs b → SqB X.K H a ys b → xs = ys
  | true, h, g => I.list_inj h g
  | false, h, g => I.tuple_inj h g
theorem drawsB {prog : Program} {w : World} {A : Around} (hh : A.handled = none) (it a : Addr) (hne : a ≠ it) (its : Array Value) : ∀ b : Bool, Draws prog w A it [it, a] its.size (fun i v => its[i]? = some v) (fun i h => ItrB h it a i b ∧ SrcB h a its b)
  | true => Draws.list hh it a hne its
  | false => Draws.tuple hh it a hne its
/-- each item in a new pair -/
def ItE (K : PySem.W.Frag) (a : Addr) (b : Bool) : It where
  go i H := ∃ xs x, SqB K H a xs b ∧ xs[i]? = some x
  yld i H v H' := ∃ T o x, v = .ref T ∧ H T = none ∧ o.dict = none ∧ H' = upd H T (.frz o (.tup [.int (i : Nat), x])) ∧ ∀ xs, SqB K H a xs b → xs[i]? = some x
  stop i H := ∃ xs : List V, SqB K H a xs b ∧ xs.length ≤ i
theorem turn_en {P : Program} {w : World} {K : PySem.W.Frag} {elts : List Expr} {kk : Nat} {tpos : Pos} (a e it : Addr) (b : Bool) (hai : a ≠ it) (hea : e ≠ a) (hne : e ≠ it) :
    Turn P w K (.Tuple elts kk tpos) (ItE K a b) [e, it] e (fun i h => (∃ old, IsEnum h e it ((i : Nat) : Int) old) ∧ ItrB h it a i b) where
  mem := List.mem_cons_self
  obj i h st c hc := by
    obtain ⟨⟨old, he⟩, hi⟩ := st
    obtain ⟨o, eo, vs, d⟩ := hi.obj
    rcases List.mem_cons.mp hc with rfl | hc
    · exact ⟨_, he, fun v q => nomatch q⟩
    · cases List.mem_singleton.mp hc
      exact ⟨o, eo, fun v q => by rw [d] at q; cases q⟩
  keep i h h' st k := ⟨st.1.imp fun old he => k e List.mem_cons_self _ he, st.2.at fun o q => k it (by simp) o q⟩
  self A i s Q E st h := let ⟨_, he⟩ := st.1; wpAny_pyIter_enum he h
  done X hP hw hK hc i pins s σ H E I hf st hg := by
    subst hP hw hK
    obtain ⟨⟨old, he⟩, hit⟩ := st
    obtain ⟨xs, hq, hx⟩ := hg
    obtain ⟨its, rv, p⟩ := srcB I hq
    obtain ⟨f0, f1, f2, f3, f4, f5⟩ := hf it (by simp)
    have hh : X.A.in1.handled = none := I.ok.hd hc
    have hi : its.toArray.size ≤ i := by rw [List.size_toArray, ← rv.length]; exact hx
    have fin : ∀ h', Heap.ExtBut it s.heap h' → (none : Option Value) = none ∧ Inv X pins σ H { s with heap := h' } := fun h' eb => ⟨rfl, I.turned (t' := s.toks) (fun b o hb q => eb b o hb q) f0 f1 f3 f4 f5⟩
    have hT : s.TypeIs (.ref e) "enumerate" := ⟨_, he, rfl⟩
    unfold pyNext
    refine wpAny_bind (wpAny_attempt (wpAny_callSpecial?_slot (name := Str.ofString "__next__") hT F.slot_enumerate_next (wpAny_call_entry F.slot_enumerate_next hT F.entry_enumerate_next ?_ (F.args_enumerate_next_1 _))))
    show wpAny _ _ (field (.ref e) 2 >>= _) _ _ _
    refine wpAny_bind (wpAny_field he rfl (x := .ref it) rfl (wpAny_bind ?_))
    cases b with
    | true =>
      refine wpAny_nextOf_list_end hh hit p (Array.getElem?_eq_none hi) fun h' x he' ⟨o, ho, hc⟩ => ?_
      refine wpAny_bind (wpAny_isInstance (T := "StopIteration") (b := true) ⟨o, ho, hc⟩ isSubtype_stop ?_)
      exact wpAny_pure (fin _ he')
    | false =>
      refine wpAny_nextOf_tuple_end hh hit p (Array.getElem?_eq_none hi) fun h' x he' ⟨o, ho, hc⟩ => ?_
      refine wpAny_bind (wpAny_isInstance (T := "StopIteration") (b := true) ⟨o, ho, hc⟩ isSubtype_stop ?_)
      exact wpAny_pure (fin _ he')
  item X hP hw hK hc i pins s σ H E I hf st hg := by
    subst hP hw hK
    obtain ⟨⟨old, he⟩, hit⟩ := st
    obtain ⟨xs, x, hq, hx⟩ := hg
    obtain ⟨its, rv, p⟩ := srcB I hq
    obtain ⟨u, hu, ru⟩ := rv.get hx
    have el : e < s.heap.objs.size := Heap.lt_size he
    have il : it < s.heap.objs.size := let ⟨_, q, _⟩ := hit.obj; Heap.lt_size q
    have lt : i < its.toArray.size := by rw [List.size_toArray]; exact (List.getElem?_eq_some_iff.mp hu).1
    have hh : X.A.in1.handled = none := I.ok.hd hc
    have D := drawsB (prog := X.prog) (w := X.w) (A := X.A.in1) hh it a hai its.toArray b
    refine wpAny_pyNext_enum_itemD D he ⟨hit, p⟩ lt hne (by simp [hne, hea]) fun u' h1 tk hu' ho st' hT hsz hk => ⟨_, rfl, wpAny_letOwnedTupleGo_enum (s := { s with heap := h1, toks := tk + 1 }) ho fun h2 he' sb => ?_⟩
    have hu' : its[i]? = some u' := by simpa using hu'
    cases Option.some.inj (hu.symm.trans hu')
    have hT2 := (sb.2 _ (Nat.ne_of_gt el)).trans hT
    have hf0 : H s.heap.objs.size = none := I.hok.fresh (Nat.le_refl _)
    refine ⟨.ref s.heap.objs.size, upd H s.heap.objs.size (.frz { cls := .type "tuple", data := .seq #[.int i tk, u] } (.tup [.int (i : Nat), x])), ?_, rfl, ⟨_, { cls := .type "tuple", data := .seq #[.int i tk, u] }, x, rfl, hf0, rfl, rfl, fun ys hy => by rw [sqB_inj I hy hq]; exact hx⟩, ⟨⟨u, ?_⟩, ?_⟩, fun c hc => ?_⟩
    · have new : ObjOk X.prog X.w (upd H s.heap.objs.size (.frz { cls := .type "tuple", data := .seq #[.int i tk, u] } (.tup [.int (i : Nat), x]))) h2 s.heap.objs.size (.frz { cls := .type "tuple", data := .seq #[.int i tk, u] } (.tup [.int (i : Nat), x])) :=
        ⟨hT2, by show 2 ≤ sizeLine; decide, [.int i tk, u], .cons ⟨_, rfl⟩ (.cons ru .nil), ⟨_, hT2, rfl, _, rfl⟩⟩
      exact I.turnedNew (ch := [e, it]) (fun b ob hb q => (sb.2 b (fun z => hb (by simp [z]))).trans (hk b ob (fun z => hb (by simp [z])) (fun z => hb (by simp [z])) q)) hf (Nat.le_refl _) new
    · rw [show ((i + 1 : Nat) : Int) = (i : Int) + 1 by omega]
      exact he'
    · exact st'.1.at fun o q => (sb.2 it (Ne.symm hne)).trans q
    · have hb' : c < s.heap.objs.size := by
        rcases List.mem_cons.mp hc with rfl | hc
        · exact el
        · cases List.mem_singleton.mp hc
          exact il
      rw [upd_ne (Nat.ne_of_lt hb')]
      exact (hf c hc).1
def iEn (K : PySem.W.Frag) (ta : TA) : TI := fun σ H R => ta σ H fun vs H1 => ∃ a xs b, vs = [.ref a] ∧ SqB K H1 a xs b ∧ R (ItE K a b) H1
theorem pi_en {X : Cx} {e : Expr} {ta : TA} {p pos tpos : Pos} {elts : List Expr} {kk : Nat} (hg : Gl X "enumerate") (hm : X.mg "enumerate" = none) (ha : PA X [e] ta) (hs : starEach [e] X.env = [(false, eval e X.env)] := by rfl) :
    PI X (.Tuple elts kk tpos) (.Call (.Name "enumerate" p) [e] [] pos) (iEn X.K ta) := by
  refine ⟨fun pins s σ H R I h => Call_ (ld_blt I hg hm boot_enumerate (PyProof.Rows.callWith_type1 (thn (ha.run pos pins s σ H _ I h) fun us s1 ⟨vs, H1, I1, r1, a, xs, b, ex, hq, q⟩ => ?_) hs rfl))⟩
  subst ex
  obtain ⟨u, rfl, ru⟩ := vals1 r1
  cases ru
  obtain ⟨its, rv, p'⟩ := srcB I1 hq
  have al : a < s1.heap.objs.size := by
    cases b with
    | true => exact let ⟨o, q, _⟩ := p'; Heap.lt_size q
    | false => exact let ⟨o, q, _⟩ := p'; Heap.lt_size q
  have fin : ∀ h', IsEnum h' (s1.heap.objs.size + 1) s1.heap.objs.size 0 .none → ItrB h' s1.heap.objs.size a 0 b → (∀ b o, s1.heap.get? b = some o → h'.get? b = some o) →
      PIE X pins σ (.Tuple elts kk tpos) R (.ref (s1.heap.objs.size + 1)) { s1 with heap := h' } := fun h' he hit hk =>
    ⟨s1.heap.objs.size + 1, [s1.heap.objs.size + 1, s1.heap.objs.size], _, _, H1, rfl, I1.kept (t' := s1.toks) hk, turn_en a (s1.heap.objs.size + 1) s1.heap.objs.size b (Nat.ne_of_lt al) (Ne.symm (Nat.ne_of_lt (Nat.lt_succ_of_lt al))) (Nat.succ_ne_self _), ⟨⟨.none, he⟩, hit⟩, fun c hc => by
      have hle : s1.heap.objs.size ≤ c := by
        rcases List.mem_cons.mp hc with rfl | hc
        · exact Nat.le_succ _
        · cases List.mem_singleton.mp hc
          exact Nat.le_refl _
      exact I1.fpOk hle (I1.hok.fresh hle), q⟩
  cases b with
  | true => exact call_enumerate_list p' fun h' he hit hsz hk => wpAny_pyIter_enum he (fin h' he hit hk)
  | false => exact call_enumerate_tup p' fun h' he hit hsz hk => wpAny_pyIter_enum he (fin h' he hit hk)
end L3

set_option Elab.async false
set_option maxRecDepth 100000
set_option linter.all false
set_option maxHeartbeats 2000000
/-! methods of built-ins' objects, of tuples too -/
namespace L3
open PySem PySem.Spec PyProof.Rows L2
def TyB (K : PySem.W.Frag) (T : String) (x : V) (H : Hp) : Prop := tyV K T x H ∨ (T = "tuple" ∧ ∃ p xs, x = .ref p ∧ SqX K H p xs)
theorem tyB_is {X : Cx} {pins : List (Addr × Obj)} {σ : L2.St} {H : Hp} {s : Shared} {T : String} {x : V} {v : Value} (I : Inv X pins σ H s) (r : RelV x v) (ty : TyB X.K T x H) : s.TypeIs v T ∧ ∀ a, v = .ref a → ∃ ob, s.heap.get? a = some ob ∧ ob.dict = none := by
  rcases ty with ty | ⟨e, p, xs, e2, hx⟩
  · exact tyV_is I r ty
  subst e e2
  cases r
  rcases hx with ⟨o, h, d⟩ | ⟨o, its, n, h1, h2, d, h3⟩
  · obtain ⟨g, _, _, _, o', g', c, _⟩ := I.hok p _ h
    cases Option.some.inj (g.symm.trans g')
    exact ⟨⟨o, g, c⟩, fun a e => by cases e; exact ⟨o, g, d⟩⟩
  · refine tyV_is (T := "tuple") I (v := .ref p) (x := .ref p) rfl (.inr (.inl ⟨rfl, o, h1, h2, d⟩))
abbrev tBX (K : PySem.W.Frag) (T : String) (r : V → List V → Hp → VK → Prop) (to : TE) (t : TA) : TE := fun σ H Q => to σ H fun x H1 => TyB K T x H1 ∧ t σ H1 fun xs H2 => r x xs H2 Q
section
variable {X : Cx} {o e : Expr} {es : List Expr} {to : TE} {t : TA} {name : Str} {apos cpos : Pos} {T id : String} {r : V → List V → Hp → VK → Prop}
theorem pe_bX0 (pa : PlainAttrs T) (slot : Slot T name id) (hty : typeOf (.builtin id) = pure (.type "method_descriptor")) (hm : MtR X id r) (ho : PE X o to)
    (hb : attributeBase o name X.env (eval o X.env) = eval o X.env := by rfl) (hl : (apos.endLine == cpos.line) = true := by rfl) : PE X (.Call (.Attribute o name apos) [] [] cpos) (tBX X.K T r to tNil) :=
  ⟨fun pins s σ H Q I h => wpAny_Call_method0_late hb hl (thn (ho.run pins s σ H _ I h) fun v s1 ⟨x, H1, I1, r1, ty, q1⟩ =>
    let ⟨h1, h2⟩ := tyB_is I1 r1 ty
    ⟨T, id, pa, slot, hty, h1, h2, Calls.callWith_builtin rfl (PySem.evalArgs_none (hm pins s1 σ H1 x [] v [] Q I1 r1 .nil q1))⟩)⟩
theorem pe_bX (pa : PlainAttrs T) (slot : Slot T name id) (hty : typeOf (.builtin id) = pure (.type "method_descriptor")) (hm : MtR X id r) (ho : PE X o to) (ha : PA X (e :: es) t)
    (hb : attributeBase o name X.env (eval o X.env) = eval o X.env := by rfl)
    (hfew : ((backTo cpos (starEach (e :: es) X.env)).all (fun x => !x.1) && (backToKw cpos (keywordEach [] X.env)).all (fun x => x.1.isSome) && decide ((e :: es).length + ([] : List Keyword).length + (if ([] : List Keyword).isEmpty then 0 else 1) < 30)) = true := by rfl)
    (hl : (apos.endLine == cpos.line) = true := by rfl) (hs : starEach (e :: es) X.env = (false, eval e X.env) :: starEach es X.env := by rfl) (hp : (backTo cpos (starEach es X.env)).any (·.1) = false := by rfl) :
    PE X (.Call (.Attribute o name apos) (e :: es) [] cpos) (tBX X.K T r to t) := by
  refine ⟨fun pins s σ H Q I h => wpAny_Call_method_late hb hfew hl rfl (thn (ho.run pins s σ H _ I h) fun v s1 ⟨x, H1, I1, r1, ty, q1⟩ => ?_)⟩
  obtain ⟨h1, h2⟩ := tyB_is I1 r1 ty
  have hA := ha.run cpos pins s1 σ H1 _ I1 q1
  rw [hs] at hA ⊢
  have hpl : (false || (backTo cpos (starEach es X.env)).any (·.1)) = false := by rw [hp]; rfl
  exact ⟨T, id, pa, slot, hty, h1, h2, Calls.callWith_builtin hpl (Calls.evalArgs_plain (thn hA fun us s2 ⟨vs, H2, I2, r2, q2⟩ => hm pins s2 σ H2 x vs v us Q I2 r1 r2 q2))⟩
end
end L3

set_option Elab.async false
set_option maxRecDepth 100000
set_option linter.all false
/-! A layer of plain data over the hand layer: values are trees, only what is mutable stands in a store. -/
namespace L3
open PySem L2

/-- plain data; ref: a handle of a mutable object -/
inductive D where
  | non | bl (b : Bool) | int (i : Int) | str (x : Str)
  | tup (ds : List D) | lst (ds : List D) | ro (ds : List D) | ref (a : Addr) | ty (n : String) | key (ds : List D) | dct (ks : List Key) (ds : List D)

/-- a mutable object -/
inductive SO where
  | lst (ds : List D)
  | dK (kvs : List (Key × D))
  | dT (kvs : List (List Key × D))
  | ins (C : Addr) (fs : List (Str × D))
abbrev Sto := Addr → Option SO
def sup (S : Sto) (a : Addr) (o : SO) : Sto := fun b => if b = a then some o else S b
theorem sup_same {S : Sto} {a : Addr} {o : SO} : sup S a o a = some o := by unfold sup; rw [if_pos rfl]
theorem sup_ne {S : Sto} {a b : Addr} {o : SO} (h : b ≠ a) : sup S a o b = S b := by unfold sup; rw [if_neg h]
theorem sup_sup {S : Sto} {a : Addr} {o u : SO} : sup (sup S a o) a u = sup S a u := by
  funext b; unfold sup; split <;> rfl
/-- the part of the heap that never changes: neither in the store nor hidden -/
def fz (F : Addr → Bool) (S : Sto) (H : Hp) : Hp := fun a => match F a, S a with | false, none => H a | _, _ => none
theorem fz_some {F : Addr → Bool} {S : Sto} {H : Hp} {a : Addr} {o : SO} (h : S a = some o) : fz F S H a = none := by
  unfold fz; rw [h]; cases F a <;> rfl
theorem fz_hid {F : Addr → Bool} {S : Sto} {H : Hp} {a : Addr} (h : F a = true) : fz F S H a = none := by
  unfold fz; rw [h]
theorem fz_none {F : Addr → Bool} {S : Sto} {H : Hp} {a : Addr} (f : F a = false) (h : S a = none) : fz F S H a = H a := by unfold fz; rw [h, f]
theorem fz_of {F : Addr → Bool} {S : Sto} {H : Hp} {a : Addr} {o : HO} (h : fz F S H a = some o) : F a = false ∧ S a = none ∧ H a = some o := by
  unfold fz at h
  cases f : F a with
  | true => rw [f] at h; cases h
  | false =>
    cases e : S a with
    | none => rw [f, e] at h; exact ⟨rfl, rfl, h⟩
    | some u => rw [f, e] at h; cases h
theorem fz_same (F : Addr → Bool) (S : Sto) (H : Hp) : Same (fz F S H) H := fun _ _ h => (fz_of h).2.2

mutual
inductive Rel (K : PySem.W.Frag) (G : Hp) : V → D → Prop
  | non : Rel K G .non .non
  | bl (b : Bool) : Rel K G (.bl b) (.bl b)
  | int (i : Int) : Rel K G (.int i) (.int i)
  | str (x : Str) : Rel K G (.str x) (.str x)
  | ref (a : Addr) : Rel K G (.ref a) (.ref a)
  | ty (n : String) : Rel K G (.ty n) (.ty n)
  | tup {a : Addr} {xs : List V} {ds : List D} : SqX K G a xs → RelL K G xs ds → Rel K G (.ref a) (.tup ds)
  | lst {a : Addr} {xs : List V} {ds : List D} : G a = some (.lst xs) → RelL K G xs ds → Rel K G (.ref a) (.lst ds)
  | ro {a : Addr} {xs : List V} {ds : List D} : SqL K G a xs → RelL K G xs ds → Rel K G (.ref a) (.ro ds)
  | key {a : Addr} {xs : List V} {ds : List D} : G a = some (.tup xs) → RelL K G xs ds → Rel K G (.ref a) (.key ds)
  | dct {a : Addr} {od : Obj} {vs : List (Key × V)} {ds : List D} : G a = some (.frz od (.dK vs)) → RelL K G (vs.map (·.2)) ds → Rel K G (.ref a) (.dct (vs.map (·.1)) ds)
inductive RelL (K : PySem.W.Frag) (G : Hp) : List V → List D → Prop
  | nil : RelL K G [] []
  | cons {v : V} {vs : List V} {d : D} {ds : List D} : Rel K G v d → RelL K G vs ds → RelL K G (v :: vs) (d :: ds)
end
theorem sqT_mono {K : PySem.W.Frag} {H H' : Hp} {a : Addr} {xs : List V} (e : Same H H') (h : SqX K H a xs) : SqT K H' a xs := (h.mono e).t
section
variable {K : PySem.W.Frag} {G G' : Hp}
mutual
theorem Rel.mono (e : Same G G') : ∀ {v : V} {d : D}, Rel K G v d → Rel K G' v d
  | _, _, .non => .non
  | _, _, .bl b => .bl b
  | _, _, .int b => .int b
  | _, _, .str b => .str b
  | _, _, .ref b => .ref b
  | _, _, .ty b => .ty b
  | _, _, .tup h r => .tup (SqX.mono e h) (RelL.mono e r)
  | _, _, .lst h r => .lst (e _ _ h) (RelL.mono e r)
  | _, _, .ro h r => .ro (e.seq h) (RelL.mono e r)
  | _, _, .key h r => .key (e _ _ h) (RelL.mono e r)
  | _, _, .dct h r => .dct (e _ _ h) (RelL.mono e r)
theorem RelL.mono (e : Same G G') : ∀ {vs : List V} {ds : List D}, RelL K G vs ds → RelL K G' vs ds
  | _, _, .nil => .nil
  | _, _, .cons h r => .cons (Rel.mono e h) (RelL.mono e r)
end
theorem RelL.length : ∀ {vs : List V} {ds : List D}, RelL K G vs ds → vs.length = ds.length
  | _, _, .nil => rfl
  | _, _, .cons _ r => by simp [RelL.length r]
theorem RelL.append : ∀ {xs ys : List V} {ds es : List D}, RelL K G xs ds → RelL K G ys es → RelL K G (xs ++ ys) (ds ++ es)
  | _, _, _, _, .nil, s => s
  | _, _, _, _, .cons r t, s => .cons r (RelL.append t s)
theorem RelL.get : ∀ {xs : List V} {ds : List D} {i : Nat} {d : D}, RelL K G xs ds → ds[i]? = some d → ∃ v, xs[i]? = some v ∧ Rel K G v d
  | _, _, _, _, .nil, e => by simp at e
  | _, _, 0, _, .cons r _, e => by simp at e; subst e; exact ⟨_, rfl, r⟩
  | _, _, i + 1, _, .cons _ t, e => by
    obtain ⟨v, h1, h2⟩ := RelL.get (i := i) t (by simpa using e)
    exact ⟨v, by simpa using h1, h2⟩
theorem RelL.get' : ∀ {xs : List V} {ds : List D} {i : Nat} {v : V}, RelL K G xs ds → xs[i]? = some v → ∃ d, ds[i]? = some d ∧ Rel K G v d
  | _, _, _, _, .nil, e => by simp at e
  | _, _, 0, _, .cons r _, e => by simp at e; subst e; exact ⟨_, rfl, r⟩
  | _, _, i + 1, _, .cons _ t, e => by
    obtain ⟨v, h1, h2⟩ := RelL.get' (i := i) t (by simpa using e)
    exact ⟨v, by simpa using h1, h2⟩
theorem RelL.set {v : V} {d : D} (h : Rel K G v d) : ∀ {xs : List V} {ds : List D} (i : Nat), RelL K G xs ds → RelL K G (xs.set i v) (ds.set i d)
  | _, _, _, .nil => .nil
  | _, _, 0, .cons _ t => .cons h t
  | _, _, i + 1, .cons q t => .cons q (RelL.set h i t)
theorem RelL.take : ∀ {xs : List V} {ds : List D} (n : Nat), RelL K G xs ds → RelL K G (xs.take n) (ds.take n)
  | _, _, 0, _ => .nil
  | _, _, _ + 1, .nil => .nil
  | _, _, n + 1, .cons r t => .cons r (RelL.take n t)
theorem RelL.drop : ∀ {xs : List V} {ds : List D} (n : Nat), RelL K G xs ds → RelL K G (xs.drop n) (ds.drop n)
  | _, _, 0, r => r
  | _, _, _ + 1, .nil => .nil
  | _, _, n + 1, .cons _ t => RelL.drop n t
theorem RelL.reverse : ∀ {xs : List V} {ds : List D}, RelL K G xs ds → RelL K G xs.reverse ds.reverse
  | _, _, .nil => .nil
  | _, _, .cons r t => by
    rw [List.reverse_cons, List.reverse_cons]
    exact (RelL.reverse t).append (.cons r .nil)
theorem RelL.ints : ∀ {xs : List V} {ns : List Int}, RelL K G xs (ns.map D.int) → xs = ns.map V.int
  | _, [], h => by cases h; rfl
  | _, n :: ns, h => by
    cases h with
    | cons r t => cases r; rw [RelL.ints t]; rfl
theorem RelL.bls : ∀ {xs : List V} {ns : List Bool}, RelL K G xs (ns.map D.bl) → xs = ns.map V.bl
  | _, [], h => by cases h; rfl
  | _, n :: ns, h => by
    cases h with
    | cons r t => cases r; rw [RelL.bls t]; rfl
theorem RelL.strs : ∀ {xs : List V} {ns : List Str}, RelL K G xs (ns.map D.str) → xs = ns.map V.str
  | _, [], h => by cases h; rfl
  | _, n :: ns, h => by
    cases h with
    | cons r t => cases r; rw [RelL.strs t]; rfl
theorem RelL.ofInts : ∀ (ns : List Int), RelL K G (ns.map V.int) (ns.map D.int)
  | [] => .nil
  | n :: ns => .cons (.int n) (RelL.ofInts ns)
end

/-- fields, entries -/
inductive RelF (K : PySem.W.Frag) (G : Hp) {κ : Type} : List (κ × V) → List (κ × D) → Prop
  | nil : RelF K G [] []
  | cons {k : κ} {v : V} {vs : List (κ × V)} {d : D} {ds : List (κ × D)} : Rel K G v d → RelF K G vs ds → RelF K G ((k, v) :: vs) ((k, d) :: ds)
section
variable {K : PySem.W.Frag} {G G' : Hp} {κ : Type}
theorem RelF.mono (e : Same G G') : ∀ {vs : List (κ × V)} {ds : List (κ × D)}, RelF K G vs ds → RelF K G' vs ds
  | _, _, .nil => .nil
  | _, _, .cons h r => .cons (h.mono e) (RelF.mono e r)
end
def SOk (K : PySem.W.Frag) (G : Hp) (o : Option HO) : SO → Prop
  | .lst ds => ∃ vs, o = some (.lst vs) ∧ RelL K G vs ds
  | .dK kvs => ∃ vs, o = some (.dK vs) ∧ RelF K G vs kvs
  | .dT kvs => ∃ vs, o = some (.dT vs) ∧ RelF K G vs kvs
  | .ins C fs => ∃ dx vs, o = some (.ins C dx vs) ∧ RelF K G vs fs
theorem SOk.mono {K : PySem.W.Frag} {G G' : Hp} {o : Option HO} (e : Same G G') {u : SO} (h : SOk K G o u) : SOk K G' o u := by
  cases u with
  | lst ds => obtain ⟨vs, e1, r⟩ := h; exact ⟨vs, e1, r.mono e⟩
  | dK ds => obtain ⟨vs, e1, r⟩ := h; exact ⟨vs, e1, r.mono e⟩
  | dT ds => obtain ⟨vs, e1, r⟩ := h; exact ⟨vs, e1, r.mono e⟩
  | ins C ds => obtain ⟨dx, vs, e1, r⟩ := h; exact ⟨dx, vs, e1, r.mono e⟩
theorem SOk.some {K : PySem.W.Frag} {G : Hp} {o : Option HO} {u : SO} (h : SOk K G o u) : ∃ x, o = some x := by
  cases u with
  | lst ds => obtain ⟨vs, e1, r⟩ := h; exact ⟨_, e1⟩
  | dK ds => obtain ⟨vs, e1, r⟩ := h; exact ⟨_, e1⟩
  | dT ds => obtain ⟨vs, e1, r⟩ := h; exact ⟨_, e1⟩
  | ins C ds => obtain ⟨dx, vs, e1, r⟩ := h; exact ⟨_, e1⟩
/-- the store and the hidden objects stand in the heap -/
structure SimB (K : PySem.W.Frag) (F : Addr → Bool) (S : Sto) (H : Hp) : Prop where
  at_ : ∀ a o, S a = some o → F a = false ∧ SOk K (fz F S H) (H a) o
  hid : ∀ a, F a = true → ∃ o, H a = some o
/-- from one state to a later one -/
structure GoB (K : PySem.W.Frag) (F : Addr → Bool) (S : Sto) (H : Hp) (S' : Sto) (H' : Hp) : Prop where
  same : Same (fz F S H) (fz F S' H')
  hid : ∀ a, F a = true → H' a = H a
  sim : SimB K F S' H'
section
variable {K : PySem.W.Frag} {F : Addr → Bool} {S S1 S2 : Sto} {H H1 H2 : Hp} {p a : Addr} {o : HO} {u u' : SO}
theorem GoB.refl (s : SimB K F S H) : GoB K F S H S H := ⟨Same.refl _, fun _ _ => rfl, s⟩
theorem GoB.trans (g : GoB K F S H S1 H1) (g' : GoB K F S1 H1 S2 H2) : GoB K F S H S2 H2 := ⟨g.same.trans g'.same, fun a h => (g'.hid a h).trans (g.hid a h), g'.sim⟩
theorem SimB.none (s : SimB K F S H) (h : H p = none) : F p = false ∧ S p = Option.none := by
  constructor
  · cases e : F p with
    | false => rfl
    | true =>
      obtain ⟨x, q⟩ := s.hid p e
      rw [h] at q; cases q
  · cases e : S p with
    | none => rfl
    | some u =>
      obtain ⟨x, q⟩ := (s.at_ p u e).2.some
      rw [h] at q; cases q
theorem same_new (h : H p = none) : Same (fz F S H) (fz F S (upd H p o)) := fun b x e => by
  obtain ⟨h0, h1, h2⟩ := fz_of e
  rw [fz_none h0 h1, upd_ne (ne_of_none h2 h)]
  exact h2
/-- a new object that never changes -/
theorem SimB.new (s : SimB K F S H) (h : H p = Option.none) : GoB K F S H S (upd H p o) := by
  refine ⟨same_new h, fun a f => ?_, fun a u e => ?_, fun a f => ?_⟩
  · rw [upd_ne (fun z => by subst z; rw [(s.none h).1] at f; cases f)]
  · have np : a ≠ p := fun z => by subst z; rw [(s.none h).2] at e; cases e
    rw [upd_ne np]
    exact ⟨(s.at_ a u e).1, (s.at_ a u e).2.mono (same_new h)⟩
  · obtain ⟨x, q⟩ := s.hid a f
    exact ⟨x, by rw [upd_ne (ne_of_none q h)]; exact q⟩
theorem fz_newB (s : SimB K F S H) (h : H p = Option.none) : fz F S (upd H p o) p = some o := by
  rw [fz_none (s.none h).1 (s.none h).2, upd_same]
theorem same_newM (h : H p = Option.none) : Same (fz F S H) (fz F (sup S p u) (upd H p o)) := fun b x e => by
  obtain ⟨h0, h1, h2⟩ := fz_of e
  have np := ne_of_none h2 h
  rw [fz_none h0 (by rw [sup_ne np]; exact h1), upd_ne np]
  exact h2
/-- a new object that may change -/
theorem SimB.newM (s : SimB K F S H) (h : H p = Option.none) (k : SOk K (fz F S H) (some o) u) : GoB K F S H (sup S p u) (upd H p o) := by
  refine ⟨same_newM h, fun a f => ?_, fun a x e => ?_, fun a f => ?_⟩
  · rw [upd_ne (fun z => by subst z; rw [(s.none h).1] at f; cases f)]
  · by_cases np : a = p
    · subst np
      rw [sup_same] at e; cases e
      rw [upd_same]
      exact ⟨(s.none h).1, k.mono (same_newM h)⟩
    · rw [sup_ne np] at e
      rw [upd_ne np]
      exact ⟨(s.at_ a x e).1, (s.at_ a x e).2.mono (same_newM h)⟩
  · obtain ⟨x, q⟩ := s.hid a f
    exact ⟨x, by rw [upd_ne (ne_of_none q h)]; exact q⟩
theorem fz_put (h : S a = some u) : fz F (sup S a u') (upd H a o) = fz F S H := by
  funext b
  by_cases e : b = a
  · subst e
    rw [fz_some h, fz_some sup_same]
  · unfold fz
    rw [sup_ne e, upd_ne e]
/-- a mutable object changes -/
theorem SimB.put (s : SimB K F S H) (h : S a = some u) (k : SOk K (fz F S H) (some o) u') : GoB K F S H (sup S a u') (upd H a o) := by
  refine ⟨by rw [fz_put h]; exact Same.refl _, fun b f => ?_, fun b x e => ?_, fun b f => ?_⟩
  · rw [upd_ne (fun z => by subst z; rw [(s.at_ _ _ h).1] at f; cases f)]
  · rw [fz_put h]
    by_cases np : b = a
    · subst np
      rw [sup_same] at e; cases e
      rw [upd_same]
      exact ⟨(s.at_ _ _ h).1, k⟩
    · rw [sup_ne np] at e
      rw [upd_ne np]
      exact s.at_ b x e
  · obtain ⟨x, q⟩ := s.hid b f
    exact ⟨x, by rw [upd_ne (fun z => by subst z; rw [(s.at_ _ _ h).1] at f; cases f)]; exact q⟩
/-- a part of the store is let go -/
theorem GoB.drop (g : GoB K F S H S1 H1) (h : ∀ a o, S2 a = some o → S1 a = some o) : GoB K F S H S2 H1 := by
  have e : Same (fz F S1 H1) (fz F S2 H1) := fun b x e => by
    obtain ⟨h0, h1, h2⟩ := fz_of e
    rw [fz_none h0 ?_]
    · exact h2
    · cases q : S2 b with
      | none => rfl
      | some u => rw [h b u q] at h1; cases h1
  exact ⟨g.same.trans e, g.hid, fun a o q => ⟨(g.sim.at_ a o (h a o q)).1, (g.sim.at_ a o (h a o q)).2.mono e⟩, g.sim.hid⟩
end

/-- hidden besides -/
def hide (F : Addr → Bool) (a : Addr) : Addr → Bool := fun b => if b = a then true else F b
section
variable {K : PySem.W.Frag} {F : Addr → Bool} {S S' : Sto} {H H' : Hp} {p : Addr} {o o' : HO}
theorem fz_hide_same : Same (fz (hide F p) S H) (fz F S H) := fun b x e => by
  obtain ⟨h0, h1, h2⟩ := fz_of e
  have np : b ≠ p := fun z => by subst z; simp [hide] at h0
  rw [fz_none (by simpa [hide, np] using h0) h1]
  exact h2
theorem fz_hide_new (h : H p = none) : Same (fz F S H) (fz (hide F p) S (upd H p o)) := fun b x e => by
  obtain ⟨h0, h1, h2⟩ := fz_of e
  have np := ne_of_none h2 h
  rw [fz_none (by simp [hide, np, h0]) h1, upd_ne np]
  exact h2
theorem fz_hide_upd : fz (hide F p) S (upd H p o) = fz (hide F p) S H := by
  funext b
  by_cases e : b = p
  · subst e
    rw [fz_hid (by simp [hide]), fz_hid (by simp [hide])]
  · unfold fz
    rw [upd_ne e]
theorem SimB.hideNew (s : SimB K F S H) (h : H p = Option.none) : SimB K (hide F p) S (upd H p o) where
  at_ := fun a u e => by
    have np : a ≠ p := fun z => by subst z; rw [(s.none h).2] at e; cases e
    rw [upd_ne np]
    exact ⟨by simp [hide, np, (s.at_ a u e).1], (s.at_ a u e).2.mono (fz_hide_new h)⟩
  hid := fun a f => by
    by_cases np : a = p
    · subst np
      exact ⟨_, upd_same⟩
    · obtain ⟨x, q⟩ := s.hid a (by simpa [hide, np] using f)
      exact ⟨x, by rw [upd_ne np]; exact q⟩
/-- the hidden object is written -/
theorem SimB.hidePut (s : SimB K (hide F p) S H) : SimB K (hide F p) S (upd H p o) where
  at_ := fun a u e => by
    have q := s.at_ a u e
    have np : a ≠ p := fun z => by subst z; simp [hide] at q
    rw [upd_ne np, fz_hide_upd]
    exact q
  hid := fun a f => by
    by_cases np : a = p
    · subst np
      exact ⟨_, upd_same⟩
    · obtain ⟨x, q⟩ := s.hid a f
      exact ⟨x, by rw [upd_ne np]; exact q⟩
/-- it is shown again -/
theorem SimB.show_ (s : SimB K (hide F p) S H) (f : F p = false) : SimB K F S H where
  at_ := fun a u e => by
    have q := s.at_ a u e
    have np : a ≠ p := fun z => by subst z; simp [hide] at q
    exact ⟨by simpa [hide, np] using q.1, q.2.mono fz_hide_same⟩
  hid := fun a g => s.hid a (by by_cases np : a = p <;> simp [hide, np, g])
end
/-- what is known all along a def: kept by every step -/
structure KG (K : PySem.W.Frag) where
  ok : (Addr → Bool) → Sto → Hp → Prop
  step : ∀ {F S H S' H'}, SimB K F S H → ok F S H → GoB K F S H S' H' → ok F S' H'
  new : ∀ {F S H p o}, SimB K F S H → ok F S H → H p = none → ok (hide F p) S (upd H p o)
  put : ∀ {F S H p o S1 H1}, ok F S1 H1 → F p = false → SimB K (hide F p) S H → ok (hide F p) S H → ok (hide F p) S (upd H p o)
structure Sim {K : PySem.W.Frag} (Γ : KG K) (F : Addr → Bool) (S : Sto) (H : Hp) : Prop extends SimB K F S H where
  knows : Γ.ok F S H
structure Go {K : PySem.W.Frag} (Γ : KG K) (F : Addr → Bool) (S : Sto) (H : Hp) (S' : Sto) (H' : Hp) : Prop where
  same : Same (fz F S H) (fz F S' H')
  hid : ∀ a, F a = true → H' a = H a
  sim : Sim Γ F S' H'
section
variable {K : PySem.W.Frag} {Γ : KG K} {F : Addr → Bool} {S S1 S2 : Sto} {H H1 H2 : Hp} {p a : Addr} {o : HO} {u u' : SO}
theorem Go.b (g : Go Γ F S H S1 H1) : GoB K F S H S1 H1 := ⟨g.same, g.hid, g.sim.toSimB⟩
theorem Go.of (s : Sim Γ F S H) (g : GoB K F S H S1 H1) : Go Γ F S H S1 H1 := ⟨g.same, g.hid, ⟨g.sim, Γ.step s.toSimB s.knows g⟩⟩
theorem Go.refl (s : Sim Γ F S H) : Go Γ F S H S H := ⟨Same.refl _, fun _ _ => rfl, s⟩
theorem Go.trans (g : Go Γ F S H S1 H1) (g' : Go Γ F S1 H1 S2 H2) : Go Γ F S H S2 H2 := ⟨g.same.trans g'.same, fun a h => (g'.hid a h).trans (g.hid a h), g'.sim⟩
theorem Sim.none (s : Sim Γ F S H) (h : H p = none) : F p = false ∧ S p = Option.none := s.toSimB.none h
theorem Sim.new (s : Sim Γ F S H) (h : H p = Option.none) : Go Γ F S H S (upd H p o) := .of s (s.toSimB.new h)
theorem fz_new (s : Sim Γ F S H) (h : H p = Option.none) : fz F S (upd H p o) p = some o := fz_newB s.toSimB h
theorem Sim.newM (s : Sim Γ F S H) (h : H p = Option.none) (k : SOk K (fz F S H) (some o) u) : Go Γ F S H (sup S p u) (upd H p o) := .of s (s.toSimB.newM h k)
theorem Sim.put (s : Sim Γ F S H) (h : S a = some u) (k : SOk K (fz F S H) (some o) u') : Go Γ F S H (sup S a u') (upd H a o) := .of s (s.toSimB.put h k)
theorem Go.drop (s : Sim Γ F S H) (g : Go Γ F S H S1 H1) (h : ∀ a o, S2 a = some o → S1 a = some o) : Go Γ F S H S2 H1 := .of s (g.b.drop h)
theorem Sim.hideNew (s : Sim Γ F S H) (h : H p = Option.none) : Sim Γ (hide F p) S (upd H p o) := ⟨s.toSimB.hideNew h, Γ.new s.toSimB s.knows h⟩
theorem Sim.hidePut (s1 : Sim Γ F S1 H1) (f : F p = false) (s : Sim Γ (hide F p) S H) : Sim Γ (hide F p) S (upd H p o) := ⟨s.toSimB.hidePut, Γ.put s1.knows f s.toSimB s.knows⟩
end
abbrev DSt := List (Option D)
/-- slots -/
inductive RelS (K : PySem.W.Frag) (G : Hp) : St → DSt → Prop
  | nil : RelS K G [] []
  | cons {v : V} {σ : St} {d : D} {δ : DSt} : Rel K G v d → RelS K G σ δ → RelS K G (some v :: σ) (some d :: δ)
  | skip {v : Option V} {σ : St} {δ : DSt} : RelS K G σ δ → RelS K G (v :: σ) (none :: δ)
section
variable {K : PySem.W.Frag} {G G' : Hp}
theorem RelS.mono (e : Same G G') : ∀ {σ : St} {δ : DSt}, RelS K G σ δ → RelS K G' σ δ
  | _, _, .nil => .nil
  | _, _, .cons h r => .cons (h.mono e) (RelS.mono e r)
  | _, _, .skip r => .skip (RelS.mono e r)
theorem RelS.get : ∀ {σ : St} {δ : DSt} {i : Nat} {d : D}, RelS K G σ δ → δ[i]? = some (some d) → ∃ v, σ[i]? = some (some v) ∧ Rel K G v d
  | _, _, _, _, .nil, e => by simp at e
  | _, _, 0, _, .cons r _, e => by simp at e; subst e; exact ⟨_, rfl, r⟩
  | _, _, 0, _, .skip _, e => by simp at e
  | _, _, i + 1, _, .cons _ t, e => by
    obtain ⟨v, h1, h2⟩ := RelS.get (i := i) t (by simpa using e)
    exact ⟨v, by simpa using h1, h2⟩
  | _, _, i + 1, _, .skip t, e => by
    obtain ⟨v, h1, h2⟩ := RelS.get (i := i) t (by simpa using e)
    exact ⟨v, by simpa using h1, h2⟩
theorem RelS.set {v : V} {d : D} (h : Rel K G v d) : ∀ {σ : St} {δ : DSt} (i : Nat), RelS K G σ δ → RelS K G (σ.set i (some v)) (δ.set i (some d))
  | _, _, _, .nil => .nil
  | _, _, 0, .cons _ t => .cons h t
  | _, _, 0, .skip t => .cons h t
  | _, _, i + 1, .cons q t => .cons q (RelS.set h i t)
  | _, _, i + 1, .skip t => .skip (RelS.set h i t)
theorem RelS.unset : ∀ {σ : St} {δ : DSt} {v : Option V} (i : Nat), RelS K G σ δ → RelS K G (σ.set i v) (δ.set i none)
  | _, _, _, _, .nil => .nil
  | _, _, _, 0, .cons _ t => .skip t
  | _, _, _, 0, .skip t => .skip t
  | _, _, _, i + 1, .cons q t => .cons q (RelS.unset i t)
  | _, _, _, i + 1, .skip t => .skip (RelS.unset i t)
theorem RelS.length : ∀ {σ : St} {δ : DSt}, RelS K G σ δ → σ.length = δ.length
  | _, _, .nil => rfl
  | _, _, .cons _ r => by simp [RelS.length r]
  | _, _, .skip r => by simp [RelS.length r]
theorem RelS.repl : ∀ (n : Nat), RelS K G (List.replicate n none) (List.replicate n none)
  | 0 => .nil
  | n + 1 => .skip (RelS.repl n)
theorem RelS.ofL : ∀ {vs : List V} {ds : List D} {σ : St} {δ : DSt}, RelL K G vs ds → RelS K G σ δ → RelS K G (vs.map some ++ σ) (ds.map some ++ δ)
  | _, _, _, _, .nil, s => s
  | _, _, _, _, .cons r t, s => .cons r (RelS.ofL t s)
end

abbrev DK := D → Sto → Prop
abbrev DTE := DSt → Sto → DK → Prop
abbrev DTT := DSt → Sto → (Bool → Sto → Prop) → Prop
abbrev DTA := DSt → Sto → (List D → Sto → Prop) → Prop
structure DEnds where
  nx : DSt → Sto → Prop
  rt : DK
  bk : DSt → Sto → Prop := fun _ _ => False
  ct : DSt → Sto → Prop := fun _ _ => False
abbrev DTS := DEnds → DSt → Sto → Prop

/-- what follows, by data -/
def Ct {K : PySem.W.Frag} (Γ : KG K) (F : Addr → Bool) (S : Sto) (H : Hp) (P : DK) (Q : VK) : Prop := ∀ d S', P d S' → ∀ v H', Go Γ F S H S' H' → Rel K (fz F S' H') v d → Q v H'
def CtT {K : PySem.W.Frag} (Γ : KG K) (F : Addr → Bool) (S : Sto) (H : Hp) (P : Bool → Sto → Prop) (Q : Bool → Hp → Prop) : Prop := ∀ b S', P b S' → ∀ H', Go Γ F S H S' H' → Q b H'
def CtA {K : PySem.W.Frag} (Γ : KG K) (F : Addr → Bool) (S : Sto) (H : Hp) (P : List D → Sto → Prop) (Q : List V → Hp → Prop) : Prop := ∀ ds S', P ds S' → ∀ vs H', Go Γ F S H S' H' → RelL K (fz F S' H') vs ds → Q vs H'
def CtN {K : PySem.W.Frag} (Γ : KG K) (F : Addr → Bool) (S : Sto) (H : Hp) (P : DSt → Sto → Prop) (Q : St → Hp → Prop) : Prop := ∀ δ' S', P δ' S' → ∀ σ' H', Go Γ F S H S' H' → RelS K (fz F S' H') σ' δ' → Q σ' H'
structure CtE {K : PySem.W.Frag} (Γ : KG K) (F : Addr → Bool) (S : Sto) (H : Hp) (P : DEnds) (Q : Ends) : Prop where
  nx : CtN Γ F S H P.nx Q.nx
  rt : Ct Γ F S H P.rt Q.rt
  bk : CtN Γ F S H P.bk Q.bk
  ct : CtN Γ F S H P.ct Q.ct
section
variable {K : PySem.W.Frag} {Γ : KG K} {F : Addr → Bool} {S S1 : Sto} {H H1 : Hp}
theorem Ct.mono {P : DK} {Q : VK} (c : Ct Γ F S H P Q) (e : Go Γ F S H S1 H1) : Ct Γ F S1 H1 P Q := fun d S' h v H' e' => c d S' h v H' (e.trans e')
theorem CtT.mono {P : Bool → Sto → Prop} {Q : Bool → Hp → Prop} (c : CtT Γ F S H P Q) (e : Go Γ F S H S1 H1) : CtT Γ F S1 H1 P Q := fun d S' h H' e' => c d S' h H' (e.trans e')
theorem CtA.mono {P : List D → Sto → Prop} {Q : List V → Hp → Prop} (c : CtA Γ F S H P Q) (e : Go Γ F S H S1 H1) : CtA Γ F S1 H1 P Q := fun d S' h v H' e' => c d S' h v H' (e.trans e')
theorem CtN.mono {P : DSt → Sto → Prop} {Q : St → Hp → Prop} (c : CtN Γ F S H P Q) (e : Go Γ F S H S1 H1) : CtN Γ F S1 H1 P Q := fun d S' h v H' e' => c d S' h v H' (e.trans e')
theorem CtE.mono {P : DEnds} {Q : Ends} (c : CtE Γ F S H P Q) (e : Go Γ F S H S1 H1) : CtE Γ F S1 H1 P Q := ⟨c.nx.mono e, c.rt.mono e, c.bk.mono e, c.ct.mono e⟩
theorem Ct.use {P : DK} {Q : VK} (c : Ct Γ F S H P Q) (s : Sim Γ F S H) {v : V} {d : D} (r : Rel K (fz F S H) v d) (h : P d S) : Q v H := c d S h v H (Go.refl s) r
theorem Ct.new {P : DK} {Q : VK} (c : Ct Γ F S H P Q) (s : Sim Γ F S H) {p : Addr} {o : HO} (hp : H p = none) {v : V} {d : D} (r : Rel K (fz F S (upd H p o)) v d) (h : P d S) : Q v (upd H p o) := c d S h v _ (s.new hp) r
theorem Ct.newM {P : DK} {Q : VK} (c : Ct Γ F S H P Q) (s : Sim Γ F S H) {p : Addr} {o : HO} {u : SO} (hp : H p = none) (k : SOk K (fz F S H) (some o) u) {v : V} {d : D} (r : Rel K (fz F (sup S p u) (upd H p o)) v d) (h : P d (sup S p u)) : Q v (upd H p o) :=
  c d _ h v _ (s.newM hp k) r
theorem Ct.put {P : DK} {Q : VK} (c : Ct Γ F S H P Q) (s : Sim Γ F S H) {a : Addr} {o : HO} {u u' : SO} (ha : S a = some u) (k : SOk K (fz F S H) (some o) u') {v : V} {d : D} (r : Rel K (fz F S H) v d) (h : P d (sup S a u')) : Q v (upd H a o) :=
  c d _ h v _ (s.put ha k) (by rw [fz_put ha]; exact r)
end

/-- a reading by data as a reading -/
def lf {K : PySem.W.Frag} (Γ : KG K) (t : DTE) : TE := fun σ H Q => ∃ F δ S P, Sim Γ F S H ∧ RelS K (fz F S H) σ δ ∧ t δ S P ∧ Ct Γ F S H P Q
def lfT {K : PySem.W.Frag} (Γ : KG K) (t : DTT) : TT := fun σ H Q => ∃ F δ S P, Sim Γ F S H ∧ RelS K (fz F S H) σ δ ∧ t δ S P ∧ CtT Γ F S H P Q
def lfA {K : PySem.W.Frag} (Γ : KG K) (t : DTA) : TA := fun σ H Q => ∃ F δ S P, Sim Γ F S H ∧ RelS K (fz F S H) σ δ ∧ t δ S P ∧ CtA Γ F S H P Q
def lfS {K : PySem.W.Frag} (Γ : KG K) (t : DTS) : TS := fun D σ H => ∃ F δ S P, Sim Γ F S H ∧ RelS K (fz F S H) σ δ ∧ t P δ S ∧ CtE Γ F S H P D
def DPE (X : Cx) (Γ : KG X.K) (e : Expr) (t : DTE) : Prop := PE X e (lf Γ t)
def DPT (X : Cx) (Γ : KG X.K) (e : Expr) (t : DTT) : Prop := PT X e (lfT Γ t)
def DPW (X : Cx) (Γ : KG X.K) (e : Expr) (t : DTT) : Prop := PW X e (lfT Γ t)
def DPA (X : Cx) (Γ : KG X.K) (es : List Expr) (t : DTA) : Prop := PA X es (lfA Γ t)
def DPS (X : Cx) (Γ : KG X.K) (st : Stmt) (t : DTS) : Prop := PS X st (lfS Γ t)
def DPSs (X : Cx) (Γ : KG X.K) (st : List Stmt) (t : DTS) : Prop := PSs X st (lfS Γ t)
section
variable {X : Cx}
theorem PEw {e : Expr} {t u : TE} (h : PE X e t) (w : ∀ σ H Q, u σ H Q → t σ H Q) : PE X e u := ⟨fun pins s σ H Q I q => h.run pins s σ H Q I (w _ _ _ q)⟩
theorem PTw {e : Expr} {t u : TT} (h : PT X e t) (w : ∀ σ H Q, u σ H Q → t σ H Q) : PT X e u := ⟨fun pins s σ H Q I q => h.run pins s σ H Q I (w _ _ _ q)⟩
theorem PWw {e : Expr} {t u : TT} (h : PW X e t) (w : ∀ σ H Q, u σ H Q → t σ H Q) : PW X e u := ⟨fun wh pins s σ H Q I q => h.run wh pins s σ H Q I (w _ _ _ q)⟩
theorem PAw {e : List Expr} {t u : TA} (h : PA X e t) (w : ∀ σ H Q, u σ H Q → t σ H Q) : PA X e u := ⟨fun pos pins s σ H Q I q => h.run pos pins s σ H Q I (w _ _ _ q)⟩
theorem PSw {e : Stmt} {t u : TS} (h : PS X e t) (w : ∀ D σ H, u D σ H → t D σ H) : PS X e u := ⟨fun pins s σ H Q I q => h.run pins s σ H Q I (w _ _ _ q)⟩
theorem PSsw {e : List Stmt} {t u : TS} (h : PSs X e t) (w : ∀ D σ H, u D σ H → t D σ H) : PSs X e u := ⟨fun pins s σ H Q I q => h.run pins s σ H Q I (w _ _ _ q)⟩
end
end L3

set_option Elab.async false
set_option maxRecDepth 100000
set_option linter.all false
namespace L3
open PySem L2
/-! ### rules: names, constants, operators -/
abbrev slot : DSt → Nat → Option D
  | [], _ => none
  | x :: _, 0 => x
  | _ :: r, i + 1 => slot r i
abbrev dset : DSt → Nat → Option D → DSt
  | [], _, _ => []
  | _ :: r, 0, d => d :: r
  | x :: r, i + 1, d => x :: dset r i d
theorem dset_eq : ∀ (δ : DSt) (i : Nat) (d : Option D), dset δ i d = δ.set i d
  | [], _, _ => rfl
  | _ :: _, 0, _ => rfl
  | x :: r, i + 1, d => by simp only [dset, List.set_cons_succ, dset_eq r i d]
theorem RelS.dset {K : PySem.W.Frag} {G : Hp} {v : V} {d : D} {σ : St} {δ : DSt} (h : Rel K G v d) (i : Nat) (r : RelS K G σ δ) : RelS K G (σ.set i (some v)) (L3.dset δ i (some d)) := by
  rw [dset_eq]; exact r.set h i
theorem slot_get : ∀ {δ : DSt} {i : Nat} {d : D}, slot δ i = some d → δ[i]? = some (some d)
  | [], _, _, h => by cases h
  | x :: r, 0, d, h => by simp only [slot] at h; subst h; rfl
  | x :: r, i + 1, d, h => by simpa using slot_get (δ := r) (i := i) h
abbrev dVar (i : Nat) : DTE := fun δ S Q => match slot δ i with | some d => Q d S | none => False
abbrev dC (d : D) : DTE := fun _ S Q => Q d S
abbrev dOp (r : D → D → Sto → DK → Prop) (ta tb : DTE) : DTE := fun δ S Q => ta δ S fun x S1 => tb δ S1 fun y S2 => r x y S2 Q
abbrev dUn (r : D → Sto → DK → Prop) (ta : DTE) : DTE := fun δ S Q => ta δ S fun x S1 => r x S1 Q
abbrev dNil : DTA := fun _ S Q => Q [] S
abbrev dCons (ta : DTE) (tr : DTA) : DTA := fun δ S Q => ta δ S fun x S1 => tr δ S1 fun xs S2 => Q (x :: xs) S2
abbrev dTup (t : DTA) : DTE := fun δ S Q => t δ S fun ds S1 => ds.length ≤ 1000 ∧ Q (.tup ds) S1
abbrev dLst (t : DTA) : DTE := fun δ S Q => t δ S fun ds S1 => ds.length ≤ 1000 ∧ Q (.lst ds) S1
abbrev dLstM (t : DTA) : DTE := fun δ S Q => t δ S fun ds S1 => ds.length ≤ 1000 ∧ ∀ p, S1 p = none → Q (.ref p) (sup S1 p (.lst ds))
abbrev dTest (t : DTE) : DTT := fun δ S Q => t δ S fun x S1 => match x with | .bl b => Q b S1 | _ => False
abbrev dChain (r r' : D → D → Sto → DK → Prop) (ta tb tc : DTE) : DTE := fun δ S Q => ta δ S fun x S1 => tb δ S1 fun y S2 => r x y S2 fun z S3 => match z with
  | .bl k => if k = true then tc δ S3 fun w S4 => r' y w S4 Q else Q (.bl false) S3
  | _ => False
abbrev dAnd (t u : DTT) : DTT := fun δ S Q => t δ S fun c S1 => if c = true then u δ S1 Q else Q false S1
abbrev dOr (t u : DTT) : DTT := fun δ S Q => t δ S fun c S1 => if c = true then Q true S1 else u δ S1 Q
abbrev dNot (t : DTT) : DTT := fun δ S Q => t δ S fun c S1 => Q (!c) S1
abbrev dAndV (ta tb : DTE) : DTE := fun δ S Q => ta δ S fun x S1 => match x with | .bl c => if c = true then tb δ S1 Q else Q (.bl false) S1 | _ => False
abbrev dOrV (ta tb : DTE) : DTE := fun δ S Q => ta δ S fun x S1 => match x with | .bl c => if c = true then Q (.bl true) S1 else tb δ S1 Q | _ => False
abbrev dNotV (ta : DTE) : DTE := fun δ S Q => ta δ S fun x S1 => match x with | .bl c => Q (.bl (!c)) S1 | _ => False
abbrev dIfE (t : DTT) (ta tb : DTE) : DTE := fun δ S Q => t δ S fun c S1 => if c = true then ta δ S1 Q else tb δ S1 Q

/-- a value's operation, lifted -/
def LR2 (K : PySem.W.Frag) (r : R2) (r' : D → D → Sto → DK → Prop) : Prop := ∀ {Γ : KG K} x y dx dy F S H P Q, Sim Γ F S H → Rel K (fz F S H) x dx → Rel K (fz F S H) y dy → r' dx dy S P → Ct Γ F S H P Q → r x y H Q
def LR1 (K : PySem.W.Frag) (r : V → Hp → VK → Prop) (r' : D → Sto → DK → Prop) : Prop := ∀ {Γ : KG K} x dx F S H P Q, Sim Γ F S H → Rel K (fz F S H) x dx → r' dx S P → Ct Γ F S H P Q → r x H Q
def LRL (K : PySem.W.Frag) (r : List V → Hp → VK → Prop) (r' : List D → Sto → DK → Prop) : Prop := ∀ {Γ : KG K} xs ds F S H P Q, Sim Γ F S H → RelL K (fz F S H) xs ds → r' ds S P → Ct Γ F S H P Q → r xs H Q
def LRM (K : PySem.W.Frag) (r : V → List V → Hp → VK → Prop) (r' : D → List D → Sto → DK → Prop) : Prop := ∀ {Γ : KG K} x xs dx ds F S H P Q, Sim Γ F S H → Rel K (fz F S H) x dx → RelL K (fz F S H) xs ds → r' dx ds S P → Ct Γ F S H P Q → r x xs H Q
theorem LR2.or {K : PySem.W.Frag} {r s : R2} {r' s' : D → D → Sto → DK → Prop} (h : LR2 K r r') (g : LR2 K s s') : LR2 K (fun x y H Q => r x y H Q ∨ s x y H Q) (fun x y S Q => r' x y S Q ∨ s' x y S Q) :=
  fun x y dx dy F S H P Q sm rx ry q c => q.elim (fun q => .inl (h x y dx dy F S H P Q sm rx ry q c)) fun q => .inr (g x y dx dy F S H P Q sm rx ry q c)
/-- an operation with its reading by data -/
structure DOp (X : Cx) (f : Value → Value → Sem Value) (r' : D → D → Sto → DK → Prop) : Prop where
  ex : ∃ r, OpR X f r ∧ LR2 X.K r r'
structure DIx (X : Cx) (r' : D → D → Sto → DK → Prop) : Prop where
  ex : ∃ r, IxR X r ∧ LR2 X.K r r'
structure DUn (X : Cx) (f : Value → Sem Value) (r' : D → Sto → DK → Prop) : Prop where
  ex : ∃ r, UnR X f r ∧ LR1 X.K r r'
structure DCall (X : Cx) (f : Value) (r' : List D → Sto → DK → Prop) : Prop where
  ex : ∃ r, CallR X f r ∧ LRL X.K r r'
theorem DOp.or {X : Cx} {f : Value → Value → Sem Value} {r s : D → D → Sto → DK → Prop} (h : DOp X f r) (g : DOp X f s) : DOp X f (fun x y S Q => r x y S Q ∨ s x y S Q) := by
  obtain ⟨a, h1, h2⟩ := h.ex
  obtain ⟨b, g1, g2⟩ := g.ex
  exact ⟨_, h1.or g1, h2.or g2⟩
theorem DOp.imp {X : Cx} {f : Value → Value → Sem Value} {r s : D → D → Sto → DK → Prop} (h : DOp X f r) (w : ∀ x y S Q, s x y S Q → r x y S Q) : DOp X f s := by
  obtain ⟨a, h1, h2⟩ := h.ex
  exact ⟨_, h1, fun x y dx dy F S H P Q sm rx ry q c => h2 x y dx dy F S H P Q sm rx ry (w _ _ _ _ q) c⟩
theorem DIx.or {X : Cx} {r s : D → D → Sto → DK → Prop} (h : DIx X r) (g : DIx X s) : DIx X (fun x y S Q => r x y S Q ∨ s x y S Q) := by
  obtain ⟨a, h1, h2⟩ := h.ex
  obtain ⟨b, g1, g2⟩ := g.ex
  exact ⟨_, h1.or g1, h2.or g2⟩
theorem DIx.imp {X : Cx} {r s : D → D → Sto → DK → Prop} (h : DIx X r) (w : ∀ x y S Q, s x y S Q → r x y S Q) : DIx X s := by
  obtain ⟨a, h1, h2⟩ := h.ex
  exact ⟨_, h1, fun x y dx dy F S H P Q sm rx ry q c => h2 x y dx dy F S H P Q sm rx ry (w _ _ _ _ q) c⟩
theorem DCall.or {X : Cx} {f : Value} {r s : List D → Sto → DK → Prop} (h : DCall X f r) (g : DCall X f s) : DCall X f (fun x S Q => r x S Q ∨ s x S Q) := by
  obtain ⟨a, h1, h2⟩ := h.ex
  obtain ⟨b, g1, g2⟩ := g.ex
  exact ⟨_, h1.or g1, fun xs ds F S H P Q sm rx q c => q.elim (fun q => .inl (h2 xs ds F S H P Q sm rx q c)) fun q => .inr (g2 xs ds F S H P Q sm rx q c)⟩
theorem DCall.imp {X : Cx} {f : Value} {r s : List D → Sto → DK → Prop} (h : DCall X f r) (w : ∀ x S Q, s x S Q → r x S Q) : DCall X f s := by
  obtain ⟨a, h1, h2⟩ := h.ex
  exact ⟨_, h1, fun xs ds F S H P Q sm rx q c => h2 xs ds F S H P Q sm rx (w _ _ _ q) c⟩

section
variable {X : Cx} {Γ : KG X.K} {a b c : Expr} {ta tb tc : DTE} {tA tB' : DTT} {t : DTA} {pos : Pos} {es rest : List Expr} {r r' : D → D → Sto → DK → Prop}
theorem dpe_var (i : Nat) {x : Str} (hN : X.N[i]? = some x := by rfl) (hv : Vis X.env.scope x := by first | exact Or.inl rfl | exact Or.inr (Or.inl rfl) | exact Or.inr (Or.inr rfl)) (hd : (x == ("__debug__" : Str)) = false := by decide)
    (hcd : (x == ("__classdict__" : Str)) = false := by decide) : DPE X Γ (.Name x pos) (dVar i) := PEw (pe_var hN hv hd hcd) fun σ H Q ⟨F, δ, S, P, sm, rs, h, c⟩ => by
  simp only [dVar] at h
  cases e : slot δ i with
  | none => rw [e] at h; exact h.elim
  | some d =>
    rw [e] at h
    obtain ⟨v, h1, h2⟩ := rs.get (slot_get e)
    exact ⟨v, h1, c.use sm h2 h⟩
theorem lf_C {K : PySem.W.Frag} {Γ : KG K} {v : V} {d : D} (hr : ∀ G, Rel K G v d) (σ : St) (H : Hp) (Q : VK) (h : lf Γ (dC d) σ H Q) : tC v σ H Q := by
  obtain ⟨F, δ, S, P, sm, rs, h, c⟩ := h
  exact c.use sm (hr _) h
theorem dpe_int {i : Int} {j} : DPE X Γ (.Constant (.int i) j pos) (dC (.int i)) := PEw pe_int (lf_C fun _ => .int i)
theorem dpe_bl {i : Bool} {j} : DPE X Γ (.Constant (.bool i) j pos) (dC (.bl i)) := PEw pe_bl (lf_C fun _ => .bl i)
theorem dpe_non {j} : DPE X Γ (.Constant .none j pos) (dC .non) := PEw pe_non (lf_C fun _ => .non)
theorem dpe_str {i : Str} {j} : DPE X Γ (.Constant (.str i) j pos) (dC (.str i)) := PEw pe_str (lf_C fun _ => .str i)
/-- a module's constant -/
theorem dpe_glob {x : Str} {v : V} {d : D} {u : Value} (hg : Gl X x) (hm : X.mg x = some u) (q : RelV v u) (hr : ∀ G, Rel X.K G v d) (hd : (x == ("__debug__" : Str)) = false := by decide) : DPE X Γ (.Name x pos) (dC d) :=
  PEw (pe_glob hg hm q hd) (lf_C hr)
theorem dpe_ty {x : Str} {n : String} (hg : Gl X x) (hm : X.mg x = none) (hv : bootBuiltins x = some (.type n)) (hn : x ≠ "__name__" := by decide) (hd : (x == ("__debug__" : Str)) = false := by decide) : DPE X Γ (.Name x pos) (dC (.ty n)) :=
  PEw (pe_bltn (v := .ty n) hg hm hv rfl hn hd) (lf_C fun _ => .ty n)
theorem lf_op {K : PySem.W.Frag} {Γ : KG K} {q : R2} (hl : LR2 K q r) (σ : St) (H : Hp) (Q : VK) (h : lf Γ (dOp r ta tb) σ H Q) : tOp q (lf Γ ta) (lf Γ tb) σ H Q := by
  obtain ⟨F, δ, S, P, sm, rs, h, c⟩ := h
  refine ⟨F, δ, S, _, sm, rs, h, fun dx S1 h1 x H1 g1 rx => ?_⟩
  refine ⟨F, δ, S1, _, g1.sim, rs.mono g1.same, h1, fun dy S2 h2 y H2 g2 ry => ?_⟩
  exact hl x y dx dy F S2 H2 P Q g2.sim (rx.mono g2.same) ry h2 (c.mono (g1.trans g2))
theorem dpe_op {op : Operator} (ho : DOp X (binaryOp op) r) (ha : DPE X Γ a ta) (hb : DPE X Γ b tb) : DPE X Γ (.BinOp a op b pos) (dOp r ta tb) := by
  obtain ⟨q, h1, h2⟩ := ho.ex
  exact PEw (pe_op h1 ha hb) (lf_op h2)
theorem dpe_un {op : UnaryOp} {r : D → Sto → DK → Prop} (ho : DUn X (unaryOp op) r) (ha : DPE X Γ a ta) : DPE X Γ (.UnaryOp op a pos) (dUn r ta) := by
  obtain ⟨q, h1, h2⟩ := ho.ex
  refine PEw (pe_un h1 ha) fun σ H Q ⟨F, δ, S, P, sm, rs, h, c⟩ => ?_
  exact ⟨F, δ, S, _, sm, rs, h, fun dx S1 h1 x H1 g1 rx => h2 x dx F S1 H1 P Q g1.sim rx h1 (c.mono g1)⟩
theorem dpe_cmp {op : CmpOp} (ho : DOp X (compareOp op) r) (ha : DPE X Γ a ta) (hb : DPE X Γ b tb) (hm : behindInMarks op b = false := by first | exact nomark _ | rfl | with_unfolding_all rfl) : DPE X Γ (.Compare a [op] [b] pos) (dOp r ta tb) := by
  obtain ⟨q, h1, h2⟩ := ho.ex
  exact PEw (pe_cmpR h1 ha hb hm) (lf_op h2)
theorem lf_test {K : PySem.W.Frag} {Γ : KG K} {te : DTE} (σ : St) (H : Hp) (Q : Bool → Hp → Prop) (h : lfT Γ (dTest te) σ H Q) : lf Γ te σ H (fun x H' => ∃ k, x = .bl k ∧ Q k H') := by
  obtain ⟨F, δ, S, P, sm, rs, h, c⟩ := h
  refine ⟨F, δ, S, _, sm, rs, h, fun d S1 h1 v H1 g1 r1 => ?_⟩
  cases r1 <;> first | exact h1.elim | skip
  exact ⟨_, rfl, c _ _ h1 _ g1⟩
theorem dpt_cmp {op : CmpOp} (ho : DOp X (compareOp op) r) (ha : DPE X Γ a ta) (hb : DPE X Γ b tb) (hm : behindInMarks op b = false := by first | exact nomark _ | rfl | with_unfolding_all rfl) : DPT X Γ (.Compare a [op] [b] pos) (dTest (dOp r ta tb)) := by
  obtain ⟨q, h1, h2⟩ := ho.ex
  refine PTw (pt_cmpR h1 ha hb hm) fun σ H Q h => ?_
  exact lf_op h2 σ H _ (lf_test σ H Q h)
theorem lf_chain {K : PySem.W.Frag} {Γ : KG K} {q q' : R2} (hl : LR2 K q r) (hl' : LR2 K q' r') (σ : St) (H : Hp) (Q : VK) (h : lf Γ (dChain r r' ta tb tc) σ H Q) : tChain q q' (lf Γ ta) (lf Γ tb) (lf Γ tc) σ H Q := by
  obtain ⟨F, δ, S, P, sm, rs, h, c⟩ := h
  refine ⟨F, δ, S, _, sm, rs, h, fun dx S1 h1 x H1 g1 rx => ?_⟩
  refine ⟨F, δ, S1, _, g1.sim, rs.mono g1.same, h1, fun dy S2 h2 y H2 g2 ry => ?_⟩
  refine hl x y dx dy F S2 H2 _ _ g2.sim (rx.mono g2.same) ry h2 fun dz S3 h3 z H3 g3 rz => ?_
  cases rz <;> first | exact h3.elim | skip
  rename_i k
  refine ⟨k, rfl, ?_⟩
  have h3 : if k = true then tc δ S3 fun w S4 => r' dy w S4 P else P (.bl false) S3 := h3
  cases k with
  | false => exact (c.mono ((g1.trans g2).trans g3)).use g3.sim (.bl false) h3
  | true =>
    refine ⟨F, δ, S3, _, g3.sim, rs.mono ((g1.same.trans g2.same).trans g3.same), h3, fun dw S4 h4 w H4 g4 rw' => ?_⟩
    exact hl' y w dy dw F S4 H4 P Q g4.sim (ry.mono (g3.same.trans g4.same)) rw' h4 (c.mono (((g1.trans g2).trans g3).trans g4))
theorem dpe_chain {op op' : CmpOp} (ho : DOp X (compareOp op) r) (ho' : DOp X (compareOp op') r') (ha : DPE X Γ a ta) (hb : DPE X Γ b tb) (hc : DPE X Γ c tc)
    (hm : lastMarks [op, op'] [b, c] = false := by with_unfolding_all rfl) : DPE X Γ (.Compare a [op, op'] [b, c] pos) (dChain r r' ta tb tc) := by
  obtain ⟨q, h1, h2⟩ := ho.ex
  obtain ⟨q', h1', h2'⟩ := ho'.ex
  exact PEw (pe_chain h1 h1' ha hb hc hm) (lf_chain h2 h2')
theorem dpt_chain {op op' : CmpOp} (ho : DOp X (compareOp op) r) (ho' : DOp X (compareOp op') r') (ha : DPE X Γ a ta) (hb : DPE X Γ b tb) (hc : DPE X Γ c tc)
    (hm : lastMarks [op, op'] [b, c] = false := by with_unfolding_all rfl) : DPT X Γ (.Compare a [op, op'] [b, c] pos) (dTest (dChain r r' ta tb tc)) := by
  obtain ⟨q, h1, h2⟩ := ho.ex
  obtain ⟨q', h1', h2'⟩ := ho'.ex
  refine PTw (pt_chain h1 h1' ha hb hc hm) fun σ H Q h => ?_
  exact lf_chain h2 h2' σ H _ (lf_test σ H Q h)
theorem dpt_val (h : DPE X Γ a ta) (he : ∀ whole, isTrue a X.env whole = (do let v ← whole; standAt a.pos; holding [v] (truthy v)) := by intro _; rfl) : DPT X Γ a (dTest ta) :=
  PTw (pt_val h he) fun σ H Q h => lf_test σ H Q h
theorem dpw_and1 (ha : DPT X Γ a tA) : DPW X Γ (.BoolOp .And [a] pos) tA := pw_and1 ha
theorem dpw_or1 (ha : DPT X Γ a tA) : DPW X Γ (.BoolOp .Or [a] pos) tA := pw_or1 ha
theorem DPW.pt {e : Expr} (h : DPW X Γ e tA) : DPT X Γ e tA := PW.pt h
theorem dpw_and (ha : DPT X Γ a tA) (hb : DPW X Γ (.BoolOp .And (b :: rest) pos) tB') : DPW X Γ (.BoolOp .And (a :: b :: rest) pos) (dAnd tA tB') :=
  PWw (pw_and ha hb) fun σ H Q ⟨F, δ, S, P, sm, rs, h, c⟩ => ⟨F, δ, S, _, sm, rs, h, fun k S1 h1 H1 g1 => by
    cases k with
    | false => exact c _ _ h1 _ g1
    | true => exact ⟨F, δ, S1, P, g1.sim, rs.mono g1.same, h1, c.mono g1⟩⟩
theorem dpw_or (ha : DPT X Γ a tA) (hb : DPW X Γ (.BoolOp .Or (b :: rest) pos) tB') : DPW X Γ (.BoolOp .Or (a :: b :: rest) pos) (dOr tA tB') :=
  PWw (pw_or ha hb) fun σ H Q ⟨F, δ, S, P, sm, rs, h, c⟩ => ⟨F, δ, S, _, sm, rs, h, fun k S1 h1 H1 g1 => by
    cases k with
    | true => exact c _ _ h1 _ g1
    | false => exact ⟨F, δ, S1, P, g1.sim, rs.mono g1.same, h1, c.mono g1⟩⟩
theorem dpt_not (ha : DPT X Γ a tA) : DPT X Γ (.UnaryOp .Not a pos) (dNot tA) :=
  PTw (pt_not ha) fun σ H Q ⟨F, δ, S, P, sm, rs, h, c⟩ => ⟨F, δ, S, _, sm, rs, h, fun k S1 h1 H1 g1 => c _ _ h1 _ g1⟩
theorem dpe_one {op} (h : DPE X Γ a ta) : DPE X Γ (.BoolOp op [a] pos) ta := pe_one h
theorem dpe_and (ha : DPE X Γ a ta) (hb : DPE X Γ (.BoolOp .And (b :: rest) pos) tb) : DPE X Γ (.BoolOp .And (a :: b :: rest) pos) (dAndV ta tb) :=
  PEw (pe_and ha hb) fun σ H Q ⟨F, δ, S, P, sm, rs, h, c⟩ => ⟨F, δ, S, _, sm, rs, h, fun d S1 h1 x H1 g1 rx => by
    cases rx <;> first | exact h1.elim | skip
    rename_i k
    refine ⟨k, rfl, ?_⟩
    cases k with
    | false => exact (c.mono g1).use g1.sim (.bl false) h1
    | true => exact ⟨F, δ, S1, P, g1.sim, rs.mono g1.same, h1, c.mono g1⟩⟩
theorem dpe_or (ha : DPE X Γ a ta) (hb : DPE X Γ (.BoolOp .Or (b :: rest) pos) tb) : DPE X Γ (.BoolOp .Or (a :: b :: rest) pos) (dOrV ta tb) :=
  PEw (pe_or ha hb) fun σ H Q ⟨F, δ, S, P, sm, rs, h, c⟩ => ⟨F, δ, S, _, sm, rs, h, fun d S1 h1 x H1 g1 rx => by
    cases rx <;> first | exact h1.elim | skip
    rename_i k
    refine ⟨k, rfl, ?_⟩
    cases k with
    | true => exact (c.mono g1).use g1.sim (.bl true) h1
    | false => exact ⟨F, δ, S1, P, g1.sim, rs.mono g1.same, h1, c.mono g1⟩⟩
theorem dpe_not (ha : DPE X Γ a ta) : DPE X Γ (.UnaryOp .Not a pos) (dNotV ta) :=
  PEw (pe_not ha) fun σ H Q ⟨F, δ, S, P, sm, rs, h, c⟩ => ⟨F, δ, S, _, sm, rs, h, fun d S1 h1 x H1 g1 rx => by
    cases rx <;> first | exact h1.elim | skip
    exact ⟨_, rfl, (c.mono g1).use g1.sim (.bl _) h1⟩⟩
theorem dpe_ifExp (hc : DPT X Γ c tA) (ha : DPE X Γ a ta) (hb : DPE X Γ b tb) : DPE X Γ (.IfExp c a b pos) (dIfE tA ta tb) :=
  PEw (pe_ifExp hc ha hb) fun σ H Q ⟨F, δ, S, P, sm, rs, h, c⟩ => ⟨F, δ, S, _, sm, rs, h, fun k S1 h1 H1 g1 => by
    cases k with
    | true => exact ⟨F, δ, S1, P, g1.sim, rs.mono g1.same, h1, c.mono g1⟩
    | false => exact ⟨F, δ, S1, P, g1.sim, rs.mono g1.same, h1, c.mono g1⟩⟩
theorem dpa_nil : DPA X Γ [] dNil := PAw pa_nil fun σ H Q ⟨F, δ, S, P, sm, rs, h, c⟩ => c _ _ h _ _ (Go.refl sm) .nil
theorem dpa_cons {e : Expr} {te : DTE} (ha : DPE X Γ e te) (hr : DPA X Γ es t) (hs : starEach (e :: es) X.env = (false, eval e X.env) :: starEach es X.env := by rfl) : DPA X Γ (e :: es) (dCons te t) :=
  PAw (pa_cons ha hr hs) fun σ H Q ⟨F, δ, S, P, sm, rs, h, c⟩ => ⟨F, δ, S, _, sm, rs, h, fun d S1 h1 x H1 g1 rx =>
    ⟨F, δ, S1, _, g1.sim, rs.mono g1.same, h1, fun ds S2 h2 xs H2 g2 rxs => c _ _ h2 _ _ (g1.trans g2) (.cons (rx.mono g2.same) rxs)⟩⟩
theorem fz_newT {K : PySem.W.Frag} {Γ : KG K} {F : Addr → Bool} {S : Sto} {H : Hp} {p : Addr} {xs : List V} {ds : List D} {o : Obj} (sm : Sim Γ F S H) (hp : H p = none) (hd : o.dict = none) (r : RelL K (fz F S H) xs ds) : Rel K (fz F S (upd H p (.frz o (.tup xs)))) (.ref p) (.tup ds) :=
  .tup (.inl ⟨o, fz_new sm hp, hd⟩) (r.mono (same_new hp))
theorem fz_newL {K : PySem.W.Frag} {Γ : KG K} {F : Addr → Bool} {S : Sto} {H : Hp} {p : Addr} {xs : List V} {ds : List D} (sm : Sim Γ F S H) (hp : H p = none) (r : RelL K (fz F S H) xs ds) : Rel K (fz F S (upd H p (.lst xs))) (.ref p) (.lst ds) :=
  .lst (fz_new sm hp) (r.mono (same_new hp))
theorem dpe_tup {x1} (h : DPA X Γ es t) : DPE X Γ (.Tuple es x1 pos) (dTup t) :=
  PEw (pe_tupX h) fun σ H Q ⟨F, δ, S, P, sm, rs, h, c⟩ => ⟨F, δ, S, _, sm, rs, h, fun ds S1 ⟨hn, h1⟩ xs H1 g1 rx => ⟨by rw [rx.length, sizeLine_eq]; omega, fun p o hp hd =>
    (c.mono g1).new g1.sim hp (fz_newT g1.sim hp hd rx) h1⟩⟩
theorem dpe_lst (h : DPA X Γ es t) : DPE X Γ (.List es pos) (dLst t) :=
  PEw (pe_lst h) fun σ H Q ⟨F, δ, S, P, sm, rs, h, c⟩ => ⟨F, δ, S, _, sm, rs, h, fun ds S1 ⟨hn, h1⟩ xs H1 g1 rx => ⟨by rw [rx.length, sizeLine_eq]; omega, fun p hp =>
    (c.mono g1).new g1.sim hp (fz_newL g1.sim hp rx) h1⟩⟩
theorem dpe_lstM (h : DPA X Γ es t) : DPE X Γ (.List es pos) (dLstM t) :=
  PEw (pe_lst h) fun σ H Q ⟨F, δ, S, P, sm, rs, h, c⟩ => ⟨F, δ, S, _, sm, rs, h, fun ds S1 ⟨hn, h1⟩ xs H1 g1 rx => ⟨by rw [rx.length, sizeLine_eq]; omega, fun p hp =>
    (c.mono g1).newM (u := .lst ds) g1.sim hp ⟨xs, rfl, rx⟩ (.ref p) (h1 p (g1.sim.none hp).2)⟩⟩
theorem lf_call {K : PySem.W.Frag} {Γ : KG K} {q : List V → Hp → VK → Prop} {r : List D → Sto → DK → Prop} (hl : LRL K q r) (σ : St) (H : Hp) (Q : VK) (h : lf Γ (fun δ S Q => t δ S fun ds S1 => r ds S1 Q) σ H Q) : tCB q (lfA Γ t) σ H Q := by
  obtain ⟨F, δ, S, P, sm, rs, h, c⟩ := h
  exact ⟨F, δ, S, _, sm, rs, h, fun ds S1 h1 xs H1 g1 rx => hl xs ds F S1 H1 P Q g1.sim rx h1 (c.mono g1)⟩
end
abbrev dCB (r : List D → Sto → DK → Prop) (t : DTA) : DTE := fun δ S Q => t δ S fun ds S1 => r ds S1 Q
section
variable {X : Cx} {Γ : KG X.K} {a b c e : Expr} {ta tb tc te : DTE} {tA tB' : DTT} {t : DTA} {pos p : Pos} {es rest : List Expr} {r r' : D → D → Sto → DK → Prop} {x : Str} {id T : String}
/-- a built-in function by its name -/
theorem dpe_callB {r : List D → Sto → DK → Prop} (hc : DCall X (.builtin id) r) (hg : Gl X x) (hm : X.mg x = none) (hv : bootBuiltins x = some (.builtin id)) (ha : DPA X Γ (e :: es) t) (hn : x ≠ "__name__" := by decide) (hdb : (x == ("__debug__" : Str)) = false := by decide)
    (he : starEach (e :: es) X.env = (false, eval e X.env) :: starEach es X.env := by rfl) (hpl : (backTo pos (starEach es X.env)).any (·.1) = false := by rfl) : DPE X Γ (.Call (.Name x p) (e :: es) [] pos) (dCB r t) := by
  obtain ⟨q, h1, h2⟩ := hc.ex
  exact PEw (pe_callB h1 hg hm hv ha hn hdb he hpl) (lf_call h2)
theorem dpe_callTy {r : List D → Sto → DK → Prop} (hc : DCall X (.type T) r) (hg : Gl X x) (hm : X.mg x = none) (hv : bootBuiltins x = some (.type T)) (ha : DPA X Γ (e :: es) t) (hn : x ≠ "__name__" := by decide) (hdb : (x == ("__debug__" : Str)) = false := by decide)
    (he : starEach (e :: es) X.env = (false, eval e X.env) :: starEach es X.env := by rfl) (hpl : (backTo pos (starEach es X.env)).any (·.1) = false := by rfl) : DPE X Γ (.Call (.Name x p) (e :: es) [] pos) (dCB r t) := by
  obtain ⟨q, h1, h2⟩ := hc.ex
  exact PEw (pe_callTy h1 hg hm hv ha hn hdb he hpl) (lf_call h2)
/-- a subscript -/
theorem dpe_ix (ho : DIx X r) (ha : DPE X Γ a ta) (hb : DPE X Γ b tb) (hs : PlainIx b := by exact fun _ _ => rfl) : DPE X Γ (.Subscript a b pos) (dOp r ta tb) := by
  obtain ⟨q, h1, h2⟩ := ho.ex
  exact PEw (pe_ix h1 ha hb hs) (lf_op h2)
end
/-! ### slices -/
abbrev DTO := DSt → Sto → (Option Int → Sto → Prop) → Prop
def CtO {K : PySem.W.Frag} (Γ : KG K) (F : Addr → Bool) (S : Sto) (H : Hp) (P : Option Int → Sto → Prop) (Q : Option Int → Hp → Prop) : Prop := ∀ b S', P b S' → ∀ H', Go Γ F S H S' H' → Q b H'
def lfO {K : PySem.W.Frag} (Γ : KG K) (t : DTO) : TO := fun σ H Q => ∃ F δ S P, Sim Γ F S H ∧ RelS K (fz F S H) σ δ ∧ t δ S P ∧ CtO Γ F S H P Q
def DPO (X : Cx) (Γ : KG X.K) (e : Option Expr) (t : DTO) : Prop := PO X e (lfO Γ t)
abbrev dNoPart : DTO := fun _ S Q => Q none S
abbrev dPart (t : DTE) : DTO := fun δ S Q => t δ S fun x S1 => match x with | .int i => Q (some i) S1 | _ => False
abbrev dSl (r : D → Option Int → Option Int → Sto → DK → Prop) (te : DTE) (tl th : DTO) : DTE := fun δ S Q => te δ S fun x S1 => tl δ S1 fun l S2 => th δ S2 fun u S3 => r x l u S3 Q
structure DSlR (X : Cx) (r' : D → Option Int → Option Int → Sto → DK → Prop) : Prop where
  ex : ∃ r, SlR X r ∧ ∀ {Γ : KG X.K} x dx lo hi F S H P Q, Sim Γ F S H → Rel X.K (fz F S H) x dx → r' dx lo hi S P → Ct Γ F S H P Q → r x lo hi H Q
theorem DSlR.or {X : Cx} {r s : D → Option Int → Option Int → Sto → DK → Prop} (h : DSlR X r) (g : DSlR X s) : DSlR X (fun x l u S Q => r x l u S Q ∨ s x l u S Q) := by
  obtain ⟨a, h1, h2⟩ := h.ex
  obtain ⟨b, g1, g2⟩ := g.ex
  exact ⟨_, h1.or g1, fun x dx lo hi F S H P Q sm rx q c => q.elim (fun q => .inl (h2 x dx lo hi F S H P Q sm rx q c)) fun q => .inr (g2 x dx lo hi F S H P Q sm rx q c)⟩
theorem DSlR.imp {X : Cx} {r s : D → Option Int → Option Int → Sto → DK → Prop} (h : DSlR X r) (w : ∀ x l u S Q, s x l u S Q → r x l u S Q) : DSlR X s := by
  obtain ⟨a, h1, h2⟩ := h.ex
  exact ⟨_, h1, fun x dx lo hi F S H P Q sm rx q c => h2 x dx lo hi F S H P Q sm rx (w _ _ _ _ _ q) c⟩
section
variable {X : Cx} {Γ : KG X.K} {a b c e : Expr} {ta tb tc te : DTE} {tl th : DTO} {pos p2 : Pos} {lo hi : Option Expr}
theorem dpo_none : DPO X Γ none dNoPart := ⟨fun pins s σ H Q I ⟨F, δ, S, P, sm, rs, h, c⟩ => po_none.run pins s σ H Q I (c _ _ h _ (Go.refl sm))⟩
theorem dpo_some (h : DPE X Γ e te) : DPO X Γ (some e) (dPart te) := ⟨fun pins s σ H Q I ⟨F, δ, S, P, sm, rs, hh, c⟩ => (po_some h).run pins s σ H Q I (by
  refine ⟨F, δ, S, _, sm, rs, hh, fun d S1 h1 x H1 g1 rx => ?_⟩
  cases rx <;> first | exact h1.elim | skip
  exact ⟨_, rfl, c _ _ h1 _ g1⟩)⟩
theorem dpe_slice {r : D → Option Int → Option Int → Sto → DK → Prop} (hr : DSlR X r) (he : DPE X Γ e te) (hl : DPO X Γ lo tl) (hu : DPO X Γ hi th) : DPE X Γ (.Subscript e (.Slice lo hi none p2) pos) (dSl r te tl th) := by
  obtain ⟨q, h1, h2⟩ := hr.ex
  refine PEw (pe_slice h1 he hl hu) fun σ H Q ⟨F, δ, S, P, sm, rs, h, c⟩ => ?_
  refine ⟨F, δ, S, _, sm, rs, h, fun dx S1 k1 x H1 g1 rx => ?_⟩
  refine ⟨F, δ, S1, _, g1.sim, rs.mono g1.same, k1, fun l S2 k2 H2 g2 => ?_⟩
  refine ⟨F, δ, S2, _, g2.sim, rs.mono (g1.same.trans g2.same), k2, fun u S3 k3 H3 g3 => ?_⟩
  exact h2 x dx l u F S3 H3 P Q g3.sim (rx.mono (g2.same.trans g3.same)) k3 (c.mono ((g1.trans g2).trans g3))
end
end L3

set_option Elab.async false
set_option maxRecDepth 100000
set_option linter.all false
set_option maxHeartbeats 2000000
namespace L3
open PySem L2
/-! ### operations on data -/
mutual
def toP : D → PyData
  | .non => .none
  | .bl b => .bool b
  | .int i => .int i
  | .str x => .str x
  | .tup ds => .tuple (toPs ds)
  | .lst ds => .list (toPs ds)
  | .ro ds => .list (toPs ds)
  | .key ds => .tuple (toPs ds)
  | .dct _ _ => .none
  | .ref _ => .none
  | .ty _ => .none
def toPs : List D → List PyData
  | [] => []
  | d :: ds => toP d :: toPs ds
end
mutual
/-- data that == may be asked of -/
def okE : D → Bool
  | .non => true
  | .bl _ => true
  | .int _ => true
  | .str x => PyData.canLay0 (.str x)
  | .tup ds => okEs ds
  | .lst ds => okEs ds
  | .ro ds => okEs ds
  | .key ds => okEs ds
  | .dct _ _ => false
  | .ref _ => false
  | .ty _ => false
def okEs : List D → Bool
  | [] => true
  | d :: ds => okE d && okEs ds
end
mutual
def dep : D → Nat
  | .tup ds => deps ds + 1
  | .lst ds => deps ds + 1
  | .ro ds => deps ds + 1
  | .key ds => deps ds + 1
  | _ => 0
def deps : List D → Nat
  | [] => 0
  | d :: ds => max (dep d) (deps ds)
end
def eqv (x y : D) : Bool := PyData.eqv (toP x) (toP y)
mutual
theorem okE_lay : ∀ d : D, okE d = true → (toP d).canLay0 = true
  | .non, _ => by simp only [toP, PyData.canLay0]
  | .bl _, _ => by simp only [toP, PyData.canLay0]
  | .int _, _ => by simp only [toP, PyData.canLay0]
  | .str x, h => by simpa only [okE, toP] using h
  | .tup ds, h => by simp only [okE] at h; simp only [toP, PyData.canLay0]; exact okEs_lay ds h
  | .lst ds, h => by simp only [okE] at h; simp only [toP, PyData.canLay0]; exact okEs_lay ds h
  | .ro ds, h => by simp only [okE] at h; simp only [toP, PyData.canLay0]; exact okEs_lay ds h
  | .key ds, h => by simp only [okE] at h; simp only [toP, PyData.canLay0]; exact okEs_lay ds h
  | .dct _ _, h => by simp [okE] at h
  | .ref _, h => by simp [okE] at h
  | .ty _, h => by simp [okE] at h
theorem okEs_lay : ∀ ds : List D, okEs ds = true → PyData.canLayAll0 (toPs ds) = true
  | [], _ => by simp only [toPs, PyData.canLayAll0]
  | d :: ds, h => by
    simp only [okEs, Bool.and_eq_true] at h
    simp only [toPs, PyData.canLayAll0, okE_lay d h.1, okEs_lay ds h.2, Bool.and_self]
end
mutual
theorem dep_toP : ∀ d : D, (toP d).depth = dep d
  | .non => by simp only [toP, PyData.depth, dep]
  | .bl _ => by simp only [toP, PyData.depth, dep]
  | .int _ => by simp only [toP, PyData.depth, dep]
  | .str x => by simp only [toP, PyData.depth, dep]
  | .tup ds => by simp only [toP, PyData.depth, dep, dep_toPs ds]
  | .lst ds => by simp only [toP, PyData.depth, dep, dep_toPs ds]
  | .ro ds => by simp only [toP, PyData.depth, dep, dep_toPs ds]
  | .key ds => by simp only [toP, PyData.depth, dep, dep_toPs ds]
  | .dct _ _ => by simp only [toP, PyData.depth, dep]
  | .ref _ => by simp only [toP, PyData.depth, dep]
  | .ty _ => by simp only [toP, PyData.depth, dep]
theorem dep_toPs : ∀ ds : List D, PyData.depthAll (toPs ds) = deps ds
  | [] => by simp only [toPs, PyData.depthAll, deps]
  | d :: ds => by simp only [toPs, PyData.depthAll, deps, dep_toP d, dep_toPs ds]
end
theorem shaped_of {d : D} (h : okE d = true) (z : dep d ≤ 64) : SeqAt.shaped (toP d) = true := by
  unfold SeqAt.shaped
  rw [okE_lay d h, dep_toP]
  simpa using z
section
variable {K : PySem.W.Frag} {Γ : KG K} {G : Hp}
mutual
theorem Rel.dp : ∀ {v : V} {d : D}, Rel K G v d → okE d = true → Dp K G v (toP d)
  | _, _, .non, _ => by simp only [toP]; exact .non
  | _, _, .bl b, _ => by simp only [toP]; exact .bl b
  | _, _, .int i, _ => by simp only [toP]; exact .int i
  | _, _, .str x, _ => by simp only [toP]; exact .str x
  | _, _, .dct _ _, h => by simp [okE] at h
  | _, _, .ref _, h => by simp [okE] at h
  | _, _, .ty _, h => by simp [okE] at h
  | _, _, .tup h r, k => by simp only [toP]; exact .tup h.t (RelL.dp r (by simpa only [okE] using k))
  | _, _, .lst h r, k => by simp only [toP]; exact .lst (.of h) (RelL.dp r (by simpa only [okE] using k))
  | _, _, .ro h r, k => by simp only [toP]; exact .lst h (RelL.dp r (by simpa only [okE] using k))
  | _, _, .key h r, k => by simp only [toP]; exact .tup (.of h) (RelL.dp r (by simpa only [okE] using k))
theorem RelL.dp : ∀ {vs : List V} {ds : List D}, RelL K G vs ds → okEs ds = true → DpAll K G vs (toPs ds)
  | _, _, .nil, _ => by simp only [toPs]; exact .nil
  | _, _, .cons r t, k => by
    simp only [okEs, Bool.and_eq_true] at k
    simp only [toPs]
    exact .cons (Rel.dp r k.1) (RelL.dp t k.2)
end
end
/-- == by data -/
def vEq : D → D → Sto → DK → Prop
  | .int i, .int j, S, Q => Q (.bl (decide (i = j))) S
  | .str i, .str j, S, Q => Q (.bl (decide (i = j))) S
  | .bl i, .bl j, S, Q => Q (.bl (decide (i = j))) S
  | x, y, S, Q => okE x = true ∧ okE y = true ∧ dep x ≤ 64 ∧ dep y ≤ 64 ∧ Q (.bl (eqv x y)) S
def vNe : D → D → Sto → DK → Prop
  | .int i, .int j, S, Q => Q (.bl (!decide (i = j))) S
  | .str i, .str j, S, Q => Q (.bl (!decide (i = j))) S
  | .bl i, .bl j, S, Q => Q (.bl (!decide (i = j))) S
  | x, y, S, Q => okE x = true ∧ okE y = true ∧ dep x ≤ 64 ∧ dep y ≤ 64 ∧ Q (.bl (!eqv x y)) S
def rEqA (K : PySem.W.Frag) : R2 := fun x y H Q => rEq x y H Q ∨ rEqD K x y H Q
def rNeA (K : PySem.W.Frag) : R2 := fun x y H Q => rNe x y H Q ∨ rNeD K x y H Q
section
variable {X : Cx} {Γ : KG X.K}
theorem dop_eq (hu : X.A.units + 64 < cLine) : DOp X (compareOp .Eq) vEq := by
  refine ⟨_, op_eq.or (op_eqD hu), fun x y dx dy F S H P Q sm rx ry h c => ?_⟩
  have fin : okE dx = true ∧ okE dy = true ∧ dep dx ≤ 64 ∧ dep dy ≤ 64 ∧ P (.bl (eqv dx dy)) S → rEq x y H Q ∨ rEqD X.K x y H Q := fun ⟨h1, h2, h3, h4, h5⟩ =>
    .inr ⟨_, _, (rx.mono (fz_same F S H)).dp h1, (ry.mono (fz_same F S H)).dp h2, shaped_of h1 h3, shaped_of h2 h4, c.use sm (.bl _) h5⟩
  cases dx <;> cases dy <;> first
    | exact fin h
    | (cases rx; cases ry
       refine .inl ⟨rfl, ?_⟩
       refine c.use sm ?_ h
       simp only [reduceCtorEq, V.int.injEq, V.str.injEq, V.bl.injEq]
       exact .bl _)
theorem dop_ne (hu : X.A.units + 64 < cLine) : DOp X (compareOp .NotEq) vNe := by
  refine ⟨_, op_ne.or (op_neD hu), fun x y dx dy F S H P Q sm rx ry h c => ?_⟩
  have fin : okE dx = true ∧ okE dy = true ∧ dep dx ≤ 64 ∧ dep dy ≤ 64 ∧ P (.bl (!eqv dx dy)) S → rNe x y H Q ∨ rNeD X.K x y H Q := fun ⟨h1, h2, h3, h4, h5⟩ =>
    .inr ⟨_, _, (rx.mono (fz_same F S H)).dp h1, (ry.mono (fz_same F S H)).dp h2, shaped_of h1 h3, shaped_of h2 h4, c.use sm (.bl _) h5⟩
  cases dx <;> cases dy <;> first
    | exact fin h
    | (cases rx; cases ry
       refine .inl ⟨rfl, ?_⟩
       refine c.use sm ?_ h
       simp only [reduceCtorEq, V.int.injEq, V.str.injEq, V.bl.injEq]
       exact .bl _)
end
/-! ints -/
abbrev vII (C : Int → Int → Prop) (g : Int → Int → D) : D → D → Sto → DK → Prop
  | .int i, .int j, S, Q => C i j ∧ Q (g i j) S
  | _, _, _, _ => False
abbrev vII0 (g : Int → Int → D) : D → D → Sto → DK → Prop
  | .int i, .int j, S, Q => Q (g i j) S
  | _, _, _, _ => False
section
variable {X : Cx} {Γ : KG X.K} {f : Value → Value → Sem Value}
theorem dop_II {C : Int → Int → Prop} {g : Int → Int → V} {g' : Int → Int → D} (h : OpR X f (rI C g)) (hr : ∀ G i j, Rel X.K G (g i j) (g' i j)) : DOp X f (vII C g') :=
  ⟨_, h, fun x y dx dy F S H P Q sm rx ry q c => by
    cases dx <;> first | exact q.elim | skip
    cases dy <;> first | exact q.elim | skip
    cases rx; cases ry
    exact ⟨_, _, rfl, rfl, q.1, c.use sm (hr _ _ _) q.2⟩⟩
theorem dop_II0 {g : Int → Int → V} {g' : Int → Int → D} (h : OpR X f (rI0 g)) (hr : ∀ G i j, Rel X.K G (g i j) (g' i j)) : DOp X f (vII0 g') :=
  ⟨_, h, fun x y dx dy F S H P Q sm rx ry q c => by
    cases dx <;> first | exact q.elim | skip
    cases dy <;> first | exact q.elim | skip
    cases rx; cases ry
    exact ⟨_, _, rfl, rfl, c.use sm (hr _ _ _) q⟩⟩
end
def vLt : D → D → Sto → DK → Prop := vII0 fun i j => .bl (decide (i < j))
def vLe : D → D → Sto → DK → Prop := vII0 fun i j => .bl (decide (i ≤ j))
def vGt : D → D → Sto → DK → Prop := vII0 fun i j => .bl (decide (j < i))
def vGe : D → D → Sto → DK → Prop := vII0 fun i j => .bl (decide (j ≤ i))
def vSub : D → D → Sto → DK → Prop := vII0 fun i j => .int (i - j)
def vMod : D → D → Sto → DK → Prop := vII (fun _ j => 0 < j) fun i j => .int (i % j)
def vDiv : D → D → Sto → DK → Prop := vII CDiv fun i j => .int (i / j)
def vPow : D → D → Sto → DK → Prop := vII CPow fun i j => .int (i ^ j.toNat)
def vShl : D → D → Sto → DK → Prop := vII CPow fun i j => .int (i * 2 ^ j.toNat)
section
variable {X : Cx} {Γ : KG X.K}
theorem dop_lt : DOp X (compareOp .Lt) vLt := dop_II0 op_lt fun _ _ _ => .bl _
theorem dop_le : DOp X (compareOp .LtE) vLe := dop_II0 op_le fun _ _ _ => .bl _
theorem dop_gt : DOp X (compareOp .Gt) vGt := dop_II0 op_gt fun _ _ _ => .bl _
theorem dop_ge : DOp X (compareOp .GtE) vGe := dop_II0 op_ge fun _ _ _ => .bl _
theorem dop_sub : DOp X (binaryOp .Sub) vSub := dop_II0 op_sub fun _ _ _ => .int _
theorem dop_mod : DOp X (binaryOp .Mod) vMod := dop_II op_mod fun _ _ _ => .int _
theorem dop_div : DOp X (binaryOp .FloorDiv) vDiv := dop_II op_fdiv fun _ _ _ => .int _
theorem dop_pow : DOp X (binaryOp .Pow) vPow := dop_II op_pow fun _ _ _ => .int _
theorem dop_shl : DOp X (binaryOp .LShift) vShl := dop_II op_shl fun _ _ _ => .int _
end
/-- a product: of ints (one small, or together below a million bits), of a tuple and a number -/
def vMul : D → D → Sto → DK → Prop
  | .int i, .int j, S, Q => (CMul i j ∨ CMulW i j) ∧ Q (.int (i * j)) S
  | .tup ds, .int k, S, Q => -1000 ≤ k ∧ k ≤ 1000 ∧ ds.length ≤ 1000 ∧ Q (.tup (List.replicate k.toNat ds).flatten) S
  | .str z, .int k, S, Q => -(2 ^ 40) ≤ k ∧ k ≤ 2 ^ 20 ∧ z.length ≤ 2 ^ 20 ∧ z.length * k.toNat ≤ 1000000 ∧ Q (.str (repS z k)) S
  | .lst ds, .int k, S, Q => -(2 ^ 63) ≤ k ∧ k < 2 ^ 63 ∧ ds.length * k.toNat ≤ sizeLine ∧ Q (.lst (List.replicate k.toNat ds).flatten) S
  | _, _, _, _ => False
theorem RelL.rep {K : PySem.W.Frag} {G : Hp} {xs : List V} {ds : List D} (r : RelL K G xs ds) : ∀ n : Nat, RelL K G (List.replicate n xs).flatten (List.replicate n ds).flatten
  | 0 => .nil
  | n + 1 => by
    rw [List.replicate_succ, List.replicate_succ, List.flatten_cons, List.flatten_cons]
    exact r.append (RelL.rep r n)
section
variable {X : Cx} {Γ : KG X.K}
theorem dop_mul : DOp X (binaryOp .Mult) vMul := by
  refine ⟨_, (op_mul.or op_mulW).or ((op_repX.or op_rep).or op_mulS), fun x y dx dy F S H P Q sm rx ry q c => ?_⟩
  cases dx <;> first | exact (q : False).elim | skip
  all_goals cases dy <;> first | exact (q : False).elim | skip
  · cases rx; cases ry
    obtain ⟨h1, h2⟩ := q
    rcases h1 with h1 | h1
    · exact .inl (.inl ⟨_, _, rfl, rfl, h1, c.use sm (.int _) h2⟩)
    · exact .inl (.inr ⟨_, _, rfl, rfl, h1, c.use sm (.int _) h2⟩)
  · cases rx; cases ry
    obtain ⟨h1, h2, h3, h4, h5⟩ := q
    exact .inr (.inr ⟨_, _, rfl, rfl, h1, h2, h3, h4, c.use sm (.str _) h5⟩)
  · cases ry
    cases rx with
    | tup hs rl =>
    obtain ⟨h2, h3, h4, h5⟩ := q
    refine .inr (.inl (.inl ⟨_, _, _, rfl, rfl, sqT_mono (fz_same F S H) hs, h2, h3, by rw [rl.length]; exact h4, fun z => ?_, fun z p o hp hd => c.new sm hp (fz_newT sm hp hd (rl.rep _)) h5⟩))
    rename_i ds k a xs
    refine c.use sm (d := .tup (List.replicate k.toNat ds).flatten) ?_ h5
    have e : (List.replicate k.toNat ds).flatten = ds := by
      rcases z with z | z
      · subst z
        cases rl
        simp
      · subst z
        simp
    rw [e]
    exact .tup hs rl
  · cases ry
    cases rx with
    | lst hs rl =>
    obtain ⟨h2, h3, h4, h5⟩ := q
    exact .inr (.inl (.inr ⟨_, _, _, rfl, rfl, fz_same F S H _ _ hs, h2, h3, by rw [rl.length]; exact h4, fun p hp => c.new sm hp (fz_newL sm hp (rl.rep _)) h5⟩))
end
/-- a sum -/
def vAdd : D → D → Sto → DK → Prop
  | .int i, .int j, S, Q => Q (.int (i + j)) S
  | .str a, .str b, S, Q => a.length + b.length ≤ sizeLine ∧ Q (.str (a ++ b)) S
  | .tup a, .tup b, S, Q => a.length + b.length ≤ sizeLine ∧ Q (.tup (a ++ b)) S
  | .lst a, .lst b, S, Q => a.length + b.length ≤ sizeLine ∧ Q (.lst (a ++ b)) S
  | .ref a, .lst b, S, Q => match S a with
    | some (.lst ds) => ds.length + b.length ≤ sizeLine ∧ Q (.lst (ds ++ b)) S
    | _ => False
  | _, _, _, _ => False
theorem Sim.lst {K : PySem.W.Frag} {Γ : KG K} {F : Addr → Bool} {S : Sto} {H : Hp} {a : Addr} {ds : List D} (sm : Sim Γ F S H) (h : S a = some (.lst ds)) : ∃ vs, H a = some (.lst vs) ∧ RelL K (fz F S H) vs ds := (sm.at_ a _ h).2
section
variable {X : Cx} {Γ : KG X.K}
theorem dop_add : DOp X (binaryOp .Add) vAdd := by
  refine ⟨_, (op_add.or op_add_str).or (op_catX.or op_cat), fun x y dx dy F S H P Q sm rx ry q c => ?_⟩
  cases dx <;> first | exact (q : False).elim | skip
  all_goals cases dy <;> first | exact (q : False).elim | skip
  · cases rx; cases ry
    exact .inl (.inl ⟨_, _, rfl, rfl, c.use sm (.int _) q⟩)
  · cases rx; cases ry
    exact .inl (.inr ⟨_, _, rfl, rfl, q.1, c.use sm (.str _) q.2⟩)
  · cases rx with
    | tup hs rl =>
    cases ry with
    | tup hs2 rl2 =>
    obtain ⟨h1, h2⟩ := q
    refine .inr (.inl ⟨_, _, _, _, rfl, rfl, sqT_mono (fz_same F S H) hs, sqT_mono (fz_same F S H) hs2, by rw [rl.length, rl2.length]; exact h1, fun z => ?_, fun _ z => ?_, fun _ _ p o hp hd => ?_⟩)
    · subst z
      cases rl
      exact c.use sm (.tup hs2 rl2) h2
    · subst z
      cases rl2
      exact c.use sm (.tup hs (by rw [List.append_nil]; exact rl)) h2
    · exact c.new sm hp (fz_newT sm hp hd (rl.append rl2)) h2
  · cases rx with
    | lst hs rl =>
    cases ry with
    | lst hs2 rl2 =>
    obtain ⟨h1, h2⟩ := q
    exact .inr (.inr ⟨_, _, _, _, rfl, rfl, fz_same F S H _ _ hs, fz_same F S H _ _ hs2, by rw [rl.length, rl2.length]; exact h1, fun p hp => c.new sm hp (fz_newL sm hp (rl.append rl2)) h2⟩)
  · cases rx
    cases ry with
    | lst hs2 rl2 =>
    rename_i a ds _ _
    simp only [vAdd] at q
    split at q
    · rename_i ds' e
      obtain ⟨vs, e1, r1⟩ := sm.lst e
      obtain ⟨h1, h2⟩ := q
      exact .inr (.inr ⟨_, _, _, _, rfl, rfl, e1, fz_same F S H _ _ hs2, by rw [r1.length, rl2.length]; exact h1, fun p hp => c.new sm hp (fz_newL sm hp (r1.append rl2)) h2⟩)
    · exact q.elim
end
/-! is None -/
def isN : D → Bool
  | .non => true
  | _ => false
theorem Rel.isN {K : PySem.W.Frag} {G : Hp} {v : V} {d : D} (r : Rel K G v d) : decide (v = .non) = isN d := by
  cases r <;> simp [L3.isN]
def vIs : D → D → Sto → DK → Prop
  | x, .non, S, Q => Q (.bl (isN x)) S
  | _, _, _, _ => False
def vIsNot : D → D → Sto → DK → Prop
  | x, .non, S, Q => Q (.bl (!isN x)) S
  | _, _, _, _ => False
section
variable {X : Cx} {Γ : KG X.K}
theorem dop_is : DOp X (compareOp .Is) vIs := by
  refine ⟨_, op_isN, fun x y dx dy F S H P Q sm rx ry q c => ?_⟩
  cases ry <;> first | exact (q : False).elim | skip
  exact ⟨rfl, c.use sm (d := .bl (isN dx)) (by rw [rx.isN]; exact .bl _) q⟩
theorem dop_isnot : DOp X (compareOp .IsNot) vIsNot := by
  refine ⟨_, op_notN, fun x y dx dy F S H P Q sm rx ry q c => ?_⟩
  cases ry <;> first | exact (q : False).elim | skip
  exact ⟨rfl, c.use sm (d := .bl (!isN dx)) (by rw [rx.isN]; exact .bl _) q⟩
def vNeg : D → Sto → DK → Prop
  | .int i, S, Q => Q (.int (-i)) S
  | _, _, _ => False
theorem dun_neg : DUn X (unaryOp .USub) vNeg := by
  refine ⟨_, un_neg, fun x dx F S H P Q sm rx q c => ?_⟩
  cases rx <;> first | exact (q : False).elim | skip
  exact ⟨_, rfl, c.use sm (.int _) q⟩
end
/-! subscripts -/
def vIx : D → D → Sto → DK → Prop
  | .tup ds, .int i, S, Q => match atI ds i with | some d => Q d S | none => False
  | .lst ds, .int i, S, Q => match atI ds i with | some d => Q d S | none => False
  | .ro ds, .int i, S, Q => match atI ds i with | some d => Q d S | none => False
  | .key ds, .int i, S, Q => match atI ds i with | some d => Q d S | none => False
  | .str z, .int i, S, Q => z.length ≤ sizeLine ∧ match atI z.cps.toList i with | some c => Q (.str ⟨#[c]⟩) S | none => False
  | .ref a, .int i, S, Q => match S a with
    | some (.lst ds) => match atI ds i with | some d => Q d S | none => False
    | _ => False
  | _, _, _, _ => False
theorem RelL.atI {K : PySem.W.Frag} {G : Hp} {xs : List V} {ds : List D} {i : Int} {d : D} (r : RelL K G xs ds) (h : L2.atI ds i = some d) : ∃ v, L2.atI xs i = some v ∧ Rel K G v d := by
  unfold L2.atI at h ⊢
  rw [r.length]
  cases e : ixN ds.length i with
  | none => rw [e] at h; cases h
  | some j =>
    rw [e] at h
    exact r.get h
section
variable {X : Cx} {Γ : KG X.K}
theorem dix : DIx X vIx := by
  refine ⟨_, ix_seq, fun x y dx dy F S H P Q sm rx ry q c => ?_⟩
  cases dx <;> first | exact (q : False).elim | skip
  all_goals cases dy <;> first | exact (q : False).elim | skip
  all_goals cases ry
  · cases rx
    obtain ⟨h1, h2⟩ := q
    split at h2
    · rename_i e
      exact .inr (.inr ⟨_, _, _, rfl, rfl, h1, e, c.use sm (.str _) h2⟩)
    · exact h2.elim
  · cases rx with
    | tup hs rl =>
    simp only [vIx] at q
    split at q
    · rename_i e
      obtain ⟨v, e1, r1⟩ := rl.atI e
      exact .inr (.inl ⟨_, _, _, _, rfl, rfl, sqT_mono (fz_same F S H) hs, e1, c.use sm r1 q⟩)
    · exact q.elim
  · cases rx with
    | lst hs rl =>
    simp only [vIx] at q
    split at q
    · rename_i e
      obtain ⟨v, e1, r1⟩ := rl.atI e
      exact .inl ⟨_, _, _, _, rfl, rfl, .of (fz_same F S H _ _ hs), e1, c.use sm r1 q⟩
    · exact q.elim
  · cases rx with
    | ro hs rl =>
    simp only [vIx] at q
    split at q
    · rename_i e
      obtain ⟨v, e1, r1⟩ := rl.atI e
      exact .inl ⟨_, _, _, _, rfl, rfl, (fz_same F S H).seq hs, e1, c.use sm r1 q⟩
    · exact q.elim
  · cases rx
    simp only [vIx] at q
    split at q
    · rename_i e
      obtain ⟨vs, e1, r1⟩ := sm.lst e
      split at q
      · rename_i e2
        obtain ⟨v, e3, r3⟩ := r1.atI e2
        exact .inl ⟨_, _, _, _, rfl, rfl, .of e1, e3, c.use sm r3 q⟩
      · exact q.elim
    · exact q.elim
  · cases rx with
    | key hs rl =>
    simp only [vIx] at q
    split at q
    · rename_i e
      obtain ⟨v, e1, r1⟩ := rl.atI e
      exact .inr (.inl ⟨_, _, _, _, rfl, rfl, .of (fz_same F S H _ _ hs), e1, c.use sm r1 q⟩)
    · exact q.elim
end
/-! slices -/
def cut {α : Type} (xs : List α) (lo hi : Option Int) : List α := (xs.drop (HT.sIx xs.length 0 lo)).take (HT.sIx xs.length xs.length hi - HT.sIx xs.length 0 lo)
theorem RelL.cut {K : PySem.W.Frag} {G : Hp} {xs : List V} {ds : List D} (r : RelL K G xs ds) (lo hi : Option Int) : RelL K G (cutV xs lo hi) (L3.cut ds lo hi) := by
  unfold cutV L3.cut
  rw [r.length]
  exact (r.drop _).take _
theorem cut_whole {α : Type} {xs : List α} {lo hi : Option Int} (h : HT.sIx xs.length 0 lo = 0 ∧ HT.sIx xs.length xs.length hi = xs.length) : cut xs lo hi = xs := by
  unfold cut
  rw [h.1, h.2]
  simp
def vSl : D → Option Int → Option Int → Sto → DK → Prop
  | .tup ds, lo, hi, S, Q => Q (.tup (cut ds lo hi)) S
  | .lst ds, lo, hi, S, Q => Q (.lst (cut ds lo hi)) S
  | .ro ds, lo, hi, S, Q => Q (.lst (cut ds lo hi)) S
  | .str z, lo, hi, S, Q => z.length ≤ sizeLine ∧ Q (.str (cutS z lo hi)) S
  | .ref a, lo, hi, S, Q => match S a with
    | some (.lst ds) => Q (.lst (cut ds lo hi)) S
    | _ => False
  | _, _, _, _, _ => False
section
variable {X : Cx} {Γ : KG X.K}
theorem dsl : DSlR X vSl := by
  refine ⟨_, (sl_tupX.or sl_list).or sl_str, fun x dx lo hi F S H P Q sm rx q c => ?_⟩
  cases rx <;> first | exact (q : False).elim | skip
  · exact .inr ⟨_, rfl, q.1, c.use sm (.str _) q.2⟩
  · simp only [vSl] at q
    split at q
    · rename_i e
      obtain ⟨vs, e1, r1⟩ := sm.lst e
      exact .inl (.inr ⟨_, _, rfl, .of e1, fun p hp => c.new sm hp (fz_newL sm hp (r1.cut lo hi)) q⟩)
    · exact q.elim
  · rename_i hs rl
    refine .inl (.inl ⟨_, _, rfl, sqT_mono (fz_same F S H) hs, fun z => ?_, fun _ p o hp hd => c.new sm hp (fz_newT sm hp hd (rl.cut lo hi)) q⟩)
    have e := cut_whole z
    have z' := z
    rw [rl.length] at z'
    have q : P (.tup (cut _ lo hi)) S := q
    rw [cut_whole z'] at q
    exact c.use sm (.tup hs rl) q
  · rename_i hs rl
    exact .inl (.inr ⟨_, _, rfl, .of (fz_same F S H _ _ hs), fun p hp => c.new sm hp (fz_newL sm hp (rl.cut lo hi)) q⟩)
  · rename_i hs rl
    exact .inl (.inr ⟨_, _, rfl, (fz_same F S H).seq hs, fun p hp => c.new sm hp (fz_newL sm hp (rl.cut lo hi)) q⟩)
end
/-! built-in functions -/
def vLen : List D → Sto → DK → Prop
  | [.str z], S, Q => z.length ≤ sizeLine ∧ Q (.int z.length) S
  | [.tup ds], S, Q => Q (.int ds.length) S
  | [.lst ds], S, Q => Q (.int ds.length) S
  | [.ro ds], S, Q => Q (.int ds.length) S
  | [.ref a], S, Q => match S a with
    | some (.lst ds) => Q (.int ds.length) S
    | some (.dK kvs) => Q (.int kvs.length) S
    | _ => False
  | _, _, _ => False
theorem RelF.length {K : PySem.W.Frag} {G : Hp} {κ : Type} : ∀ {vs : List (κ × V)} {ds : List (κ × D)}, RelF K G vs ds → vs.length = ds.length
  | _, _, .nil => rfl
  | _, _, .cons _ r => by simp [RelF.length r]
section
variable {X : Cx} {Γ : KG X.K}
theorem dcall_len : DCall X (.builtin "len") vLen := by
  refine ⟨_, call_len.or call_lenD, fun xs ds F S H P Q sm rx q c => ?_⟩
  cases rx with
  | nil => exact (q : False).elim
  | cons r1 r2 =>
  cases r2 with
  | cons _ _ => cases r1 <;> exact (q : False).elim
  | nil =>
  cases r1 <;> first | exact (q : False).elim | skip
  · exact .inl ⟨_, _, rfl, ⟨q.1, rfl⟩, c.use sm (.int _) q.2⟩
  · simp only [vLen] at q
    split at q
    · rename_i e
      obtain ⟨vs, e1, r1⟩ := sm.lst e
      exact .inl ⟨_, _, rfl, .inl ⟨_, .of e1, rfl⟩, c.use sm (by rw [r1.length]; exact .int _) q⟩
    · rename_i e
      obtain ⟨vs, e1, r1⟩ := (sm.at_ _ _ e).2
      exact .inr ⟨_, _, rfl, e1, c.use sm (by rw [r1.length]; exact .int _) q⟩
    · exact q.elim
  · rename_i hs rl
    exact .inl ⟨_, _, rfl, .inr ⟨_, sqT_mono (fz_same F S H) hs, rfl⟩, c.use sm (by rw [rl.length]; exact .int _) q⟩
  · rename_i hs rl
    exact .inl ⟨_, _, rfl, .inl ⟨_, .of (fz_same F S H _ _ hs), rfl⟩, c.use sm (by rw [rl.length]; exact .int _) q⟩
  · rename_i hs rl
    exact .inl ⟨_, _, rfl, .inl ⟨_, (fz_same F S H).seq hs, rfl⟩, c.use sm (by rw [rl.length]; exact .int _) q⟩
def vAbs : List D → Sto → DK → Prop
  | [.int i], S, Q => Q (.int (if i < 0 then -i else i)) S
  | _, _, _ => False
def vMin2 : List D → Sto → DK → Prop
  | [.int i, .int j], S, Q => Q (.int (if j < i then j else i)) S
  | _, _, _ => False
def vMax2 : List D → Sto → DK → Prop
  | [.int i, .int j], S, Q => Q (.int (if j > i then j else i)) S
  | _, _, _ => False
def vInt : List D → Sto → DK → Prop
  | [.int i], S, Q => Q (.int i) S
  | [.bl k], S, Q => Q (.int (if k then 1 else 0)) S
  | _, _, _ => False
def vBool : List D → Sto → DK → Prop
  | [.int i], S, Q => Q (.bl (i != 0)) S
  | [.bl k], S, Q => Q (.bl k) S
  | _, _, _ => False
theorem dcall_abs : DCall X (.builtin "abs") vAbs := by
  refine ⟨_, call_abs, fun xs ds F S H P Q sm rx q c => ?_⟩
  cases rx with
  | nil => exact (q : False).elim
  | cons r1 r2 =>
  cases r2 with
  | cons _ _ => cases r1 <;> exact (q : False).elim
  | nil =>
  cases r1 <;> first | exact (q : False).elim | skip
  exact ⟨_, rfl, c.use sm (.int _) q⟩
theorem dcall_int : DCall X (.type "int") vInt := by
  refine ⟨_, call_int1, fun xs ds F S H P Q sm rx q c => ?_⟩
  cases rx with
  | nil => exact (q : False).elim
  | cons r1 r2 =>
  cases r2 with
  | cons _ _ => cases r1 <;> exact (q : False).elim
  | nil =>
  cases r1 <;> first | exact (q : False).elim | skip
  · exact .inr ⟨_, rfl, c.use sm (.int _) q⟩
  · exact .inl ⟨_, rfl, c.use sm (.int _) q⟩
theorem dcall_bool : DCall X (.type "bool") vBool := by
  refine ⟨_, call_bool1, fun xs ds F S H P Q sm rx q c => ?_⟩
  cases rx with
  | nil => exact (q : False).elim
  | cons r1 r2 =>
  cases r2 with
  | cons _ _ => cases r1 <;> exact (q : False).elim
  | nil =>
  cases r1 <;> first | exact (q : False).elim | skip
  · exact .inr ⟨_, rfl, c.use sm (.bl _) q⟩
  · exact .inl ⟨_, rfl, c.use sm (.bl _) q⟩
theorem dcall_min2 (hc : X.calm = true) : DCall X (.builtin "min") vMin2 := by
  refine ⟨_, call_min2 hc, fun xs ds F S H P Q sm rx q c => ?_⟩
  rcases ds with _ | ⟨d1, _ | ⟨d2, _ | ⟨d3, ds⟩⟩⟩ <;> first | exact (q : False).elim | (cases d1 <;> exact (q : False).elim) | skip
  · cases d1 <;> first | exact (q : False).elim | skip
    cases d2 <;> first | exact (q : False).elim | skip
    cases rx with
    | cons r1 r2 =>
    cases r2 with
    | cons r2 r3 =>
    cases r1; cases r2; cases r3
    exact ⟨_, _, rfl, c.use sm (.int _) q⟩
  · cases d1 <;> first | exact (q : False).elim | skip
    cases d2 <;> exact (q : False).elim
theorem dcall_max2 (hc : X.calm = true) : DCall X (.builtin "max") vMax2 := by
  refine ⟨_, call_max2 hc, fun xs ds F S H P Q sm rx q c => ?_⟩
  rcases ds with _ | ⟨d1, _ | ⟨d2, _ | ⟨d3, ds⟩⟩⟩ <;> first | exact (q : False).elim | (cases d1 <;> exact (q : False).elim) | skip
  · cases d1 <;> first | exact (q : False).elim | skip
    cases d2 <;> first | exact (q : False).elim | skip
    cases rx with
    | cons r1 r2 =>
    cases r2 with
    | cons r2 r3 =>
    cases r1; cases r2; cases r3
    exact ⟨_, _, rfl, c.use sm (.int _) q⟩
  · cases d1 <;> first | exact (q : False).elim | skip
    cases d2 <;> exact (q : False).elim
/-- tuple(x) -/
def vTuple : List D → Sto → DK → Prop
  | [.tup ds], S, Q => Q (.tup ds) S
  | [.lst ds], S, Q => Q (.tup ds) S
  | [.ro ds], S, Q => Q (.tup ds) S
  | [.ref a], S, Q => match S a with
    | some (.lst ds) => Q (.tup ds) S
    | _ => False
  | _, _, _ => False
theorem dcall_tuple : DCall X (.type "tuple") vTuple := by
  refine ⟨_, call_tupX, fun xs ds F S H P Q sm rx q c => ?_⟩
  cases rx with
  | nil => exact (q : False).elim
  | cons r1 r2 =>
  cases r2 with
  | cons _ _ => cases r1 <;> exact (q : False).elim
  | nil =>
  cases r1 <;> first | exact (q : False).elim | skip
  · simp only [vTuple] at q
    split at q
    · rename_i e
      obtain ⟨vs, e1, r1⟩ := sm.lst e
      exact ⟨_, _, rfl, .inl ⟨.of e1, fun p o hp hd => c.new sm hp (fz_newT sm hp hd r1) q⟩⟩
    · exact q.elim
  · rename_i hs rl
    exact ⟨_, _, rfl, .inr ⟨sqT_mono (fz_same F S H) hs, c.use sm (.tup hs rl) q⟩⟩
  · rename_i hs rl
    exact ⟨_, _, rfl, .inl ⟨.of (fz_same F S H _ _ hs), fun p o hp hd => c.new sm hp (fz_newT sm hp hd rl) q⟩⟩
  · rename_i hs rl
    exact ⟨_, _, rfl, .inl ⟨(fz_same F S H).seq hs, fun p o hp hd => c.new sm hp (fz_newT sm hp hd rl) q⟩⟩
/-- list(x), a list that nobody changes -/
def vList : List D → Sto → DK → Prop
  | [.tup ds], S, Q => Q (.lst ds) S
  | [.lst ds], S, Q => Q (.lst ds) S
  | [.ro ds], S, Q => Q (.lst ds) S
  | [.ref a], S, Q => match S a with
    | some (.lst ds) => Q (.lst ds) S
    | _ => False
  | _, _, _ => False
theorem dcall_list : DCall X (.type "list") vList := by
  refine ⟨_, call_list_of, fun xs ds F S H P Q sm rx q c => ?_⟩
  cases rx with
  | nil => exact (q : False).elim
  | cons r1 r2 =>
  cases r2 with
  | cons _ _ => cases r1 <;> exact (q : False).elim
  | nil =>
  cases r1 <;> first | exact (q : False).elim | skip
  · simp only [vList] at q
    split at q
    · rename_i e
      obtain ⟨vs, e1, r1⟩ := sm.lst e
      exact ⟨_, _, rfl, .inl (.of e1), fun p hp => c.new sm hp (fz_newL sm hp r1) q⟩
    · exact q.elim
  · rename_i hs rl
    exact ⟨_, _, rfl, .inr (sqT_mono (fz_same F S H) hs), fun p hp => c.new sm hp (fz_newL sm hp rl) q⟩
  · rename_i hs rl
    exact ⟨_, _, rfl, .inl (.of (fz_same F S H _ _ hs)), fun p hp => c.new sm hp (fz_newL sm hp rl) q⟩
  · rename_i hs rl
    exact ⟨_, _, rfl, .inl ((fz_same F S H).seq hs), fun p hp => c.new sm hp (fz_newL sm hp rl) q⟩
def asBls : List D → Option (List Bool)
  | [] => some []
  | .bl b :: r => (asBls r).map (b :: ·)
  | _ :: _ => none
def asInts : List D → Option (List Int)
  | [] => some []
  | .int b :: r => (asInts r).map (b :: ·)
  | _ :: _ => none
theorem asBls_map (bs : List Bool) : asBls (bs.map D.bl) = some bs := by
  induction bs with
  | nil => rfl
  | cons b bs ih => simp [asBls, ih]
theorem asInts_map (bs : List Int) : asInts (bs.map D.int) = some bs := by
  induction bs with
  | nil => rfl
  | cons b bs ih => simp [asInts, ih]
theorem asBls_eq : ∀ {ds : List D} {bs : List Bool}, asBls ds = some bs → ds = bs.map D.bl
  | [], bs, h => by cases h; rfl
  | .bl b :: r, bs, h => by
    simp only [asBls, Option.map_eq_some_iff] at h
    obtain ⟨t, h1, rfl⟩ := h
    rw [asBls_eq h1]; rfl
  | .non :: _, _, h | .int _ :: _, _, h | .str _ :: _, _, h | .tup _ :: _, _, h | .lst _ :: _, _, h | .ro _ :: _, _, h | .ref _ :: _, _, h | .ty _ :: _, _, h | .key _ :: _, _, h => by cases h
theorem asInts_eq : ∀ {ds : List D} {bs : List Int}, asInts ds = some bs → ds = bs.map D.int
  | [], bs, h => by cases h; rfl
  | .int b :: r, bs, h => by
    simp only [asInts, Option.map_eq_some_iff] at h
    obtain ⟨t, h1, rfl⟩ := h
    rw [asInts_eq h1]; rfl
  | .non :: _, _, h | .bl _ :: _, _, h | .str _ :: _, _, h | .tup _ :: _, _, h | .lst _ :: _, _, h | .ro _ :: _, _, h | .ref _ :: _, _, h | .ty _ :: _, _, h | .key _ :: _, _, h => by cases h
/-- the items of a list (or, where t is true, of a tuple) -/
def seqOf (S : Sto) : D → Option (List D)
  | .lst ds => some ds
  | .ro ds => some ds
  | .ref a => match S a with | some (.lst ds) => some ds | _ => none
  | _ => none
theorem seqOf_rel {K : PySem.W.Frag} {Γ : KG K} {F : Addr → Bool} {S : Sto} {H : Hp} {v : V} {d : D} {ds : List D} (sm : Sim Γ F S H) (r : Rel K (fz F S H) v d) (h : seqOf S d = some ds) : ∃ a vs, v = .ref a ∧ SqL K H a vs ∧ RelL K (fz F S H) vs ds := by
  cases r <;> first | (cases h; done) | skip
  · rename_i a
    simp only [seqOf] at h
    split at h
    · rename_i e
      cases h
      obtain ⟨vs, e1, r1⟩ := sm.lst e
      exact ⟨_, _, rfl, .of e1, r1⟩
    · cases h
  · rename_i hs rl
    cases h
    exact ⟨_, _, rfl, .of (fz_same F S H _ _ hs), rl⟩
  · rename_i hs rl
    cases h
    exact ⟨_, _, rfl, (fz_same F S H).seq hs, rl⟩
def vAll : List D → Sto → DK → Prop
  | [x], S, Q => match (seqOf S x).bind asBls with | some bs => Q (.bl (bs.all id)) S | none => False
  | _, _, _ => False
def vAny : List D → Sto → DK → Prop
  | [x], S, Q => match (seqOf S x).bind asBls with | some bs => Q (.bl (bs.any id)) S | none => False
  | _, _, _ => False
def vSum : List D → Sto → DK → Prop
  | [x], S, Q => match (seqOf S x).bind asInts with | some bs => Q (.int bs.sum) S | none => False
  | _, _, _ => False
theorem dcall_all (hc : X.calm = true) : DCall X (.builtin "all") vAll := by
  refine ⟨_, cr_all hc, fun xs ds F S H P Q sm rx q c => ?_⟩
  rcases ds with _ | ⟨d1, _ | ⟨d2, ds⟩⟩ <;> first | exact (q : False).elim | skip
  cases rx with
  | cons r1 r2 =>
  cases r2
  have q : match (seqOf S d1).bind asBls with | some bs => P (.bl (bs.all id)) S | none => False := q
  split at q
  · rename_i bs e
    obtain ⟨ds, e1, e2⟩ := Option.bind_eq_some_iff.mp e
    obtain ⟨a, vs, rfl, hs, rl⟩ := seqOf_rel sm r1 e1
    rw [asBls_eq e2] at rl
    exact ⟨a, bs, rfl, by rw [← rl.bls]; exact hs, c.use sm (.bl _) q⟩
  · exact q.elim
theorem dcall_any (hc : X.calm = true) : DCall X (.builtin "any") vAny := by
  refine ⟨_, cr_any hc, fun xs ds F S H P Q sm rx q c => ?_⟩
  rcases ds with _ | ⟨d1, _ | ⟨d2, ds⟩⟩ <;> first | exact (q : False).elim | skip
  cases rx with
  | cons r1 r2 =>
  cases r2
  have q : match (seqOf S d1).bind asBls with | some bs => P (.bl (bs.any id)) S | none => False := q
  split at q
  · rename_i bs e
    obtain ⟨ds, e1, e2⟩ := Option.bind_eq_some_iff.mp e
    obtain ⟨a, vs, rfl, hs, rl⟩ := seqOf_rel sm r1 e1
    rw [asBls_eq e2] at rl
    exact ⟨a, bs, rfl, by rw [← rl.bls]; exact hs, c.use sm (.bl _) q⟩
  · exact q.elim
theorem dcall_sum (hc : X.calm = true) : DCall X (.builtin "sum") vSum := by
  refine ⟨_, cr_sum hc, fun xs ds F S H P Q sm rx q c => ?_⟩
  rcases ds with _ | ⟨d1, _ | ⟨d2, ds⟩⟩ <;> first | exact (q : False).elim | skip
  cases rx with
  | cons r1 r2 =>
  cases r2
  have q : match (seqOf S d1).bind asInts with | some bs => P (.int bs.sum) S | none => False := q
  split at q
  · rename_i bs e
    obtain ⟨ds, e1, e2⟩ := Option.bind_eq_some_iff.mp e
    obtain ⟨a, vs, rfl, hs, rl⟩ := seqOf_rel sm r1 e1
    rw [asInts_eq e2] at rl
    exact ⟨a, bs, rfl, by rw [← rl.ints]; exact hs, c.use sm (.int _) q⟩
  · exact q.elim
/-- isinstance of plain data and a built-in class -/
def tyOf : D → Option String
  | .non => some "NoneType"
  | .bl _ => some "bool"
  | .int _ => some "int"
  | .str _ => some "str"
  | .tup _ => some "tuple"
  | .lst _ => some "list"
  | .ro _ => some "list"
  | .key _ => none
  | .dct _ _ => none
  | .ref _ => none
  | .ty _ => none
def isiT : D → String → Option Bool
  | .non, n => if n = "int" ∨ n = "bool" ∨ n = "str" ∨ n = "tuple" ∨ n = "list" ∨ n = "dict" then some false else none
  | .bl _, n => if n = "int" ∨ n = "bool" then some true else if n = "str" ∨ n = "tuple" ∨ n = "list" ∨ n = "dict" then some false else none
  | .int _, n => if n = "int" then some true else if n = "bool" ∨ n = "str" ∨ n = "tuple" ∨ n = "list" ∨ n = "dict" then some false else none
  | .str _, n => if n = "str" then some true else if n = "bool" ∨ n = "int" ∨ n = "tuple" ∨ n = "list" ∨ n = "dict" then some false else none
  | .tup _, n => if n = "tuple" then some true else if n = "bool" ∨ n = "int" ∨ n = "str" ∨ n = "list" ∨ n = "dict" then some false else none
  | .lst _, n => if n = "list" then some true else if n = "bool" ∨ n = "int" ∨ n = "str" ∨ n = "tuple" ∨ n = "dict" then some false else none
  | _, _ => none
def vIsi : List D → Sto → DK → Prop
  | [x, .ty n], S, Q => match isiT x n with | some b => Q (.bl b) S | none => False
  | _, _, _ => False
theorem isiT_kit {d : D} {n : String} {b : Bool} (h : isiT d n = some b) : ∃ t, tyOf d = some t ∧ kitB t n = some b := by
  cases d <;> first | (cases h; done) | skip
  all_goals refine ⟨_, rfl, ?_⟩
  all_goals simp only [isiT] at h
  all_goals repeat' split at h
  all_goals first | (cases h; done) | skip
  all_goals cases h
  all_goals rename_i z
  all_goals first
    | (subst z; decide +kernel)
    | (rcases z with z | z | z | z | z | z <;> subst z <;> decide +kernel)
    | (rcases z with z | z | z | z | z <;> subst z <;> decide +kernel)
    | (rcases z with z | z | z | z <;> subst z <;> decide +kernel)
    | (rcases z with z | z <;> subst z <;> decide +kernel)
theorem Rel.tyx {K : PySem.W.Frag} {F : Addr → Bool} {S : Sto} {H : Hp} {v : V} {d : D} {n : String} (r : Rel K (fz F S H) v d) (hd : ∀ ds, d ≠ .ro ds) (h : tyOf d = some n) : TyX K H v (.type n) := by
  cases r <;> first | (cases h; done) | skip
  · cases h; exact .base .non
  · cases h; exact .base (.bl _)
  · cases h; exact .base (.int _)
  · cases h; exact .base (.str _)
  · cases h
    rename_i hs rl
    rcases hs.t with (hs | ⟨o, hs⟩) | ⟨o, its, m, h1, h2, _⟩
    · exact .base (.tup (fz_same F S H _ _ hs))
    · exact .fTuple (fz_same F S H _ _ hs)
    · exact .kTuple h1 h2
  · cases h
    rename_i hs rl
    exact .base (.lst (fz_same F S H _ _ hs))
  · exact absurd rfl (hd _)
theorem dcall_isi : DCall X (.builtin "isinstance") vIsi := by
  refine ⟨_, call_isi, fun xs ds F S H P Q sm rx q c => ?_⟩
  rcases ds with _ | ⟨d1, _ | ⟨d2, _ | ⟨d3, ds⟩⟩⟩ <;> first | exact (q : False).elim | skip
  · cases d2 <;> first | exact (q : False).elim | skip
    rename_i n
    cases rx with
    | cons r1 r2 =>
    cases r2 with
    | cons r2 r3 =>
    cases r2; cases r3
    have q : match isiT d1 n with | some b => P (.bl b) S | none => False := q
    split at q
    · rename_i b e
      obtain ⟨t, e1, e2⟩ := isiT_kit e
      exact ⟨_, _, _, _, b, rfl, .ty n, r1.tyx (fun ds z => by subst z; cases e) e1, kit_ty e2, c.use sm (.bl _) q⟩
    · exact q.elim
  · cases d2 <;> exact (q : False).elim
end
end L3

set_option Elab.async false
set_option maxRecDepth 100000
set_option linter.all false
set_option maxHeartbeats 2000000
namespace L3
open PySem L2
/-! ### statements -/
abbrev dNext : DTS := fun D δ S => D.nx δ S
abbrev dSeq (t u : DTS) : DTS := fun D δ S => t { D with nx := u D } δ S
abbrev dBreak : DTS := fun D δ S => D.bk δ S
abbrev dCont : DTS := fun D δ S => D.ct δ S
abbrev dDrop (te : DTE) : DTS := fun D δ S => te δ S fun _ S1 => D.nx δ S1
abbrev dRet (te : DTE) : DTS := fun D δ S => te δ S D.rt
abbrev dRetN : DTS := fun D _ S => D.rt .non S
abbrev dIf (c : DTT) (t u : DTS) : DTS := fun D δ S => c δ S fun b S1 => if b = true then t D δ S1 else u D δ S1
abbrev dNever : DTS := fun _ _ _ => False
abbrev DTG := D → DSt → Sto → (DSt → Sto → Prop) → Prop
def lfG {K : PySem.W.Frag} (Γ : KG K) (t : DTG) : TG := fun v σ H Q => ∃ F d δ S P, Sim Γ F S H ∧ Rel K (fz F S H) v d ∧ RelS K (fz F S H) σ δ ∧ t d δ S P ∧ CtN Γ F S H P Q
def DPG (X : Cx) (Γ : KG X.K) (e : Expr) (t : DTG) : Prop := PG X e (lfG Γ t)
theorem PGw {X : Cx} {e : Expr} {t u : TG} (h : PG X e t) (w : ∀ v σ H Q, u v σ H Q → t v σ H Q) : PG X e u := ⟨fun pins s σ H v u' Q I r q => h.run pins s σ H v u' Q I r (w _ _ _ _ q)⟩
/-- plain targets: a name, a tuple of names -/
inductive Tg where
  | nm (i : Nat)
  | tp (l : List Nat)
def gAll : List Nat → TGs
  | [] => gNil
  | i :: r => gCons (gName i) (gAll r)
def gTg (K : PySem.W.Frag) : Tg → TG
  | .nm i => gName i
  | .tp l => gTup K l.length (gAll l)
abbrev setAll : List Nat → List D → DSt → DSt
  | i :: r, d :: ds, δ => setAll r ds (dset δ i (some d))
  | _, _, δ => δ
abbrev dTg : Tg → DTG
  | .nm i => fun d δ S Q => Q (dset δ i (some d)) S
  | .tp l => fun d δ S Q => match d with | .tup ds => ds.length = l.length ∧ Q (setAll l ds δ) S | .key ds => ds.length = l.length ∧ Q (setAll l ds δ) S | _ => False
def Tg.slots : Tg → List Nat
  | .nm i => [i]
  | .tp l => l
theorem gAll_ok {K : PySem.W.Frag} {G : Hp} {H : Hp} {Q : St → Hp → Prop} : ∀ (l : List Nat) {vs : List V} {ds : List D} {σ : St} {δ : DSt}, RelL K G vs ds → ds.length = l.length → RelS K G σ δ →
    (∀ σ', RelS K G σ' (setAll l ds δ) → (∀ is : List Nat, (∀ i ∈ l, i ∈ is) → wipe σ' is = wipe σ is) → Q σ' H) → gAll l vs σ H Q
  | [], _, _, σ, δ, .nil, _, rs, k => ⟨rfl, k σ rs fun _ _ => rfl⟩
  | [], _, _, _, _, .cons _ _, h, _, _ => by cases h
  | _ :: _, _, _, _, _, .nil, h, _, _ => by cases h
  | i :: l, _, _, σ, δ, .cons (v := v) (vs := vs) (d := d) (ds := ds) r t, h, rs, k => by
    refine ⟨_, _, rfl, ?_⟩
    show gAll l _ (σ.set i (some v)) H Q
    refine gAll_ok l t (by simpa using h) (rs.dset r i) fun σ' q w => k σ' q fun is hi => ?_
    rw [w is fun j hj => hi j (List.mem_cons_of_mem _ hj)]
    exact wipe_in _ _ (hi i List.mem_cons_self)
where
  wipe_in {σ : St} {i : Nat} (x : Option V) (is : List Nat) (hi : i ∈ is) : wipe (σ.set i x) is = wipe σ is := by
    induction is with
    | nil => cases hi
    | cons j is ih =>
      show (wipe (σ.set i x) is).set j none = (wipe σ is).set j none
      by_cases h : i ∈ is
      · rw [ih h]
      · have e : i = j := by
          rcases List.mem_cons.mp hi with e | e
          · exact e
          · exact absurd e h
        subst e
        have c : ∀ (js : List Nat), i ∉ js → wipe (σ.set i x) js = (wipe σ js).set i x := by
          intro js
          induction js with
          | nil => intro _; rfl
          | cons k js ih2 =>
            intro hk
            show (wipe (σ.set i x) js).set k none = ((wipe σ js).set k none).set i x
            rw [ih2 fun z => hk (List.mem_cons_of_mem _ z), List.set_comm]
            intro z
            subst z
            exact hk List.mem_cons_self
        rw [c is h, List.set_set]
theorem gTg_ok {K : PySem.W.Frag} {F : Addr → Bool} {S : Sto} {H : Hp} {v : V} {d : D} {σ : St} {δ : DSt} {P : DSt → Sto → Prop} {Q : St → Hp → Prop} (tg : Tg) (r : Rel K (fz F S H) v d) (rs : RelS K (fz F S H) σ δ) (h : dTg tg d δ S P)
    (k : ∀ σ' δ', RelS K (fz F S H) σ' δ' → P δ' S → (∀ is : List Nat, (∀ i ∈ tg.slots, i ∈ is) → wipe σ' is = wipe σ is) → Q σ' H) : gTg K tg v σ H Q := by
  cases tg with
  | nm i =>
    show Q (σ.set i (some v)) H
    exact k _ _ (rs.dset r i) h fun is hi => gAll_ok.wipe_in _ is (hi i List.mem_cons_self)
  | tp l =>
    cases r <;> first | exact (h : False).elim | skip
    · rename_i hs rl
      obtain ⟨h1, h2⟩ := h
      refine ⟨_, _, rfl, sqT_mono (fz_same F S H) hs, by rw [rl.length]; exact h1, ?_⟩
      exact gAll_ok l rl h1 rs fun σ' q w => k σ' _ q h2 w
    · rename_i hs rl
      obtain ⟨h1, h2⟩ := h
      refine ⟨_, _, rfl, .of (fz_same F S H _ _ hs), by rw [rl.length]; exact h1, ?_⟩
      exact gAll_ok l rl h1 rs fun σ' q w => k σ' _ q h2 w
theorem dpg_tg {X : Cx} {Γ : KG X.K} {e : Expr} {tg : Tg} (h : PG X e (gTg X.K tg)) : DPG X Γ e (dTg tg) := PGw h fun v σ H Q ⟨F, d, δ, S, P, sm, r, rs, h, c⟩ =>
  gTg_ok tg r rs h fun σ' δ' rs' p _ => c _ _ p _ _ (Go.refl sm) rs'
/-- o[i] = v -/
def vSet : D → D → D → Sto → (Sto → Prop) → Prop
  | .ref a, .int k, v, S, Q => match S a with
    | some (.lst ds) => match ixN ds.length k with | some j => Q (sup S a (.lst (ds.set j v))) | none => False
    | _ => False
  | _, _, _, _, _ => False
abbrev dgSub (to ti : DTE) : DTG := fun d δ S Q => to δ S fun o S1 => ti δ S1 fun i S2 => vSet o i d S2 fun S3 => Q δ S3
section
variable {X : Cx} {Γ : KG X.K} {st : Stmt} {rest : List Stmt} {t u : DTS} {e a : Expr} {te ta to ti : DTE} {pos : Pos}
theorem dpss_nil : DPSs X Γ [] dNext := PSsw pss_nil fun D σ H ⟨F, δ, S, P, sm, rs, h, c⟩ => c.nx _ _ h _ _ (Go.refl sm) rs
theorem dpss_cons (h1 : DPS X Γ st t) (h2 : DPSs X Γ rest u) : DPSs X Γ (st :: rest) (dSeq t u) := PSsw (pss_cons h1 h2) fun D σ H ⟨F, δ, S, P, sm, rs, h, c⟩ =>
  ⟨F, δ, S, { P with nx := u P }, sm, rs, h, ⟨fun δ' S' h' σ' H' g rs' => ⟨F, δ', S', P, g.sim, rs', h', c.mono g⟩, c.rt, c.bk, c.ct⟩⟩
theorem dpss_one (h1 : DPS X Γ st t) : DPSs X Γ [st] t := pss_one h1
theorem dps_pass : DPS X Γ (.Pass pos) dNext := PSw ps_pass fun D σ H ⟨F, δ, S, P, sm, rs, h, c⟩ => c.nx _ _ h _ _ (Go.refl sm) rs
theorem dps_doc {x j pos'} : DPS X Γ (.Expr (.Constant (.str x) j pos) pos') dNext := PSw ps_doc fun D σ H ⟨F, δ, S, P, sm, rs, h, c⟩ => c.nx _ _ h _ _ (Go.refl sm) rs
theorem dps_break : DPS X Γ (.Break pos) dBreak := PSw ps_break fun D σ H ⟨F, δ, S, P, sm, rs, h, c⟩ => c.bk _ _ h _ _ (Go.refl sm) rs
theorem dps_continue : DPS X Γ (.Continue pos) dCont := PSw ps_continue fun D σ H ⟨F, δ, S, P, sm, rs, h, c⟩ => c.ct _ _ h _ _ (Go.refl sm) rs
theorem dps_expr (he : DPE X Γ e te) (hs : swapsWith e none pos.line X.env = pure false := by rfl) : DPS X Γ (.Expr e pos) (dDrop te) := PSw (ps_expr he hs) fun D σ H ⟨F, δ, S, P, sm, rs, h, c⟩ =>
  ⟨F, δ, S, _, sm, rs, h, fun d S1 h1 v H1 g1 r1 => c.nx _ _ h1 _ _ g1 (rs.mono g1.same)⟩
theorem dps_ret (he : DPE X Γ e te) : DPS X Γ (.Return (some e) pos) (dRet te) := PSw (ps_ret he) fun D σ H ⟨F, δ, S, P, sm, rs, h, c⟩ => ⟨F, δ, S, _, sm, rs, h, c.rt⟩
theorem dps_retN : DPS X Γ (.Return none pos) dRetN := PSw ps_retN fun D σ H ⟨F, δ, S, P, sm, rs, h, c⟩ => c.rt.use sm .non h
theorem dps_if {c : Expr} {p q : List Stmt} {tc : DTT} (hc : DPT X Γ c tc) (ha : DPSs X Γ p t) (hb : DPSs X Γ q u) : DPS X Γ (.If c p q pos) (dIf tc t u) := PSw (ps_if hc ha hb) fun D σ H ⟨F, δ, S, P, sm, rs, h, c⟩ =>
  ⟨F, δ, S, _, sm, rs, h, fun b S1 h1 H1 g1 => by
    cases b with
    | true => exact ⟨F, δ, S1, P, g1.sim, rs.mono g1.same, h1, c.mono g1⟩
    | false => exact ⟨F, δ, S1, P, g1.sim, rs.mono g1.same, h1, c.mono g1⟩⟩
theorem dps_never : DPS X Γ st dNever := PSw ps_never fun D σ H ⟨F, δ, S, P, sm, rs, h, c⟩ => (h : False).elim
theorem dpss_never {sts : List Stmt} : DPSs X Γ sts dNever := PSsw pss_never fun D σ H ⟨F, δ, S, P, sm, rs, h, c⟩ => (h : False).elim
/-- target = e -/
abbrev dAsg (te : DTE) (g : DTG) : DTS := fun D δ S => te δ S fun x S1 => g x δ S1 D.nx
theorem lf_asg {K : PySem.W.Frag} {Γ : KG K} {g : DTG} {D : Ends} {σ : St} {H : Hp} (h : lfS Γ (dAsg te g) D σ H) : tAsg (lf Γ te) (lfG Γ g) D σ H := by
  obtain ⟨F, δ, S, P, sm, rs, h, c⟩ := h
  exact ⟨F, δ, S, _, sm, rs, h, fun d S1 h1 v H1 g1 r1 => ⟨F, d, δ, S1, P.nx, g1.sim, r1, rs.mono g1.same, h1, (c.mono g1).nx⟩⟩
theorem dps_asg {tg : Expr} {g : DTG} (he : DPE X Γ e te) (hg : DPG X Γ tg g) (hs : swapsWithSole [tg] e pos.line X.env = pure false := by rfl) (hw : swappedStores [tg] e X.env = pure none := by rfl)
    (h1 : (assignEach [tg] X.env).map (·.2) = [assign tg X.env] := by rfl) : DPS X Γ (.Assign [tg] e pos) (dAsg te g) := PSw (ps_asg he hg hs hw h1) fun D σ H h => lf_asg h
/-- name = e -/
theorem dps_set (i : Nat) {x : Str} {pos' : Pos} (hN : X.N.Nodup) (he : DPE X Γ e te) (hi : X.N[i]? = some x := by rfl) (hx : Loc X.env.scope x := by first | exact Or.inl rfl | exact Or.inr rfl) (hs : swapsWith e (some (.Name x pos')) pos.line X.env = pure false := by rfl)
    (hf : X.fn x = true ∨ X.env.scope.names.lookup x = some .local := by first | exact .inl rfl | exact .inr rfl) : DPS X Γ (.Assign [.Name x pos'] e pos) (dAsg te (dTg (.nm i))) := PSw (ps_set hN hi hx he hs hf) fun D σ H ⟨F, δ, S, P, sm, rs, h, c⟩ =>
  ⟨F, δ, S, _, sm, rs, h, fun d S1 h1 v H1 g1 r1 => c.nx _ _ h1 _ _ g1 ((rs.mono g1.same).dset r1 i)⟩
theorem dpg_name (i : Nat) {x : Str} (hN : X.N.Nodup) (hi : X.N[i]? = some x := by rfl) (hx : Loc X.env.scope x := by first | exact Or.inl rfl | exact Or.inr rfl)
    (hf : X.fn x = true ∨ X.env.scope.names.lookup x = some .local := by first | exact .inl rfl | exact .inr rfl) : PG X (.Name x pos) (gTg X.K (.nm i)) := pg_name hN hi hx hf
theorem dpg_sub {o i : Expr} (ho : DPE X Γ o to) (hi : DPE X Γ i ti) (ha : ∀ v, assign (.Subscript o i pos) X.env v = (do
      let ov ← holding [v] (eval o X.env)
      let iv ← holding [v, ov] (eval i X.env)
      standAt pos
      holding [v, ov, iv] (setItem ov iv v)
      release [v, ov, iv] []) := by intro _; rfl) : DPG X Γ (.Subscript o i pos) (dgSub to ti) := PGw (pg_sub ho hi set_list ha) fun v σ H Q ⟨F, d, δ, S, P, sm, r, rs, h, c⟩ =>
  ⟨F, δ, S, _, sm, rs, h, fun do_ S1 h1 vo H1 g1 ro => ⟨F, δ, S1, _, g1.sim, rs.mono g1.same, h1, fun di S2 h2 vi H2 g2 ri => by
    cases do_ <;> first | exact (h2 : False).elim | skip
    cases di <;> first | exact (h2 : False).elim | skip
    cases ro; cases ri
    simp only [vSet] at h2
    split at h2
    · rename_i ds e
      obtain ⟨vs, e1, r1⟩ := g2.sim.lst e
      split at h2
      · rename_i j e2
        have r' := r.mono (g1.trans g2).same
        have g3 := g2.sim.put (o := .lst (vs.set j v)) (u' := .lst (ds.set j d)) e ⟨_, rfl, r1.set r' j⟩
        exact ⟨_, _, _, j, rfl, rfl, e1, by rw [r1.length]; exact e2, c _ _ h2 _ _ ((g1.trans g2).trans g3) (rs.mono ((g1.trans g2).trans g3).same)⟩
      · exact h2.elim
    · exact h2.elim⟩⟩
/-- x += e, at a name -/
abbrev dAug (i : Nat) (te : DTE) (r : D → D → Sto → DK → Prop) : DTS := fun D δ S => match slot δ i with
  | some x => te δ S fun y S1 => r x y S1 fun z S2 => D.nx (dset δ i (some z)) S2
  | none => False
theorem dps_aug (i : Nat) {x : Str} {op : Operator} {r : D → D → Sto → DK → Prop} {pos' : Pos} (ho : DOp X (inplaceOp op) r) (hN : X.N.Nodup) (he : DPE X Γ e te) (hi : X.N[i]? = some x := by rfl) (hx : Loc X.env.scope x := by first | exact Or.inl rfl | exact Or.inr rfl)
    (hf : X.fn x = true ∨ X.env.scope.names.lookup x = some .local := by first | exact .inl rfl | exact .inr rfl) : DPS X Γ (.AugAssign (.Name x pos') op e pos) (dAug i te r) := by
  obtain ⟨q, h1, h2⟩ := ho.ex
  refine PSw (ps_aug (ti := q) hN hi hx he h1 hf) fun D σ H ⟨F, δ, S, P, sm, rs, h, c⟩ => ?_
  simp only [dAug] at h
  split at h
  · rename_i d e
    obtain ⟨v, e1, r1⟩ := rs.get (slot_get e)
    refine ⟨v, e1, F, δ, S, _, sm, rs, h, fun dy S1 k1 y H1 g1 ry => ?_⟩
    refine h2 v y d dy F S1 H1 _ _ g1.sim (r1.mono g1.same) ry k1 fun dz S2 k2 z H2 g2 rz => ?_
    exact c.nx _ _ k2 _ _ (g1.trans g2) ((rs.mono (g1.trans g2).same).dset rz i)
  · exact h.elim
def vIadd : D → D → Sto → DK → Prop
  | .int i, .int j, S, Q => Q (.int (i + j)) S
  | .str a, .str b, S, Q => a.length + b.length ≤ sizeLine ∧ Q (.str (a ++ b)) S
  | _, _, _, _ => False
theorem dop_iadd : DOp X (inplaceOp .Add) vIadd := by
  refine ⟨_, iop_add.or iop_add_str, fun x y dx dy F S H P Q sm rx ry q c => ?_⟩
  cases dx <;> first | exact (q : False).elim | skip
  all_goals cases dy <;> first | exact (q : False).elim | skip
  all_goals (cases rx; cases ry)
  · exact .inl ⟨_, _, rfl, rfl, c.use sm (.int _) q⟩
  · exact .inr ⟨_, _, rfl, rfl, q.1, c.use sm (.str _) q.2⟩
theorem dop_isub : DOp X (inplaceOp .Sub) vSub := dop_II0 iop_sub fun _ _ _ => .int _
theorem dop_idiv : DOp X (inplaceOp .FloorDiv) vDiv := dop_II iop_fdiv fun _ _ _ => .int _
theorem dop_imul : DOp X (inplaceOp .Mult) (vII CMul fun i j => .int (i * j)) := dop_II iop_mul fun _ _ _ => .int _
end
/-! ### while -/
def whileN (c : DTT) (tb : DTS) : Nat → DTS
  | 0 => fun _ _ _ => False
  | n + 1 => fun D δ S => c δ S fun b S1 => if b = true then tb { D with nx := whileN c tb n D, ct := whileN c tb n D, bk := D.nx } δ S1 else D.nx δ S1
abbrev dWhile (c : DTT) (tb : DTS) : DTS := fun D δ S => ∃ n, whileN c tb n D δ S
section
variable {X : Cx} {Γ : KG X.K} {pos : Pos}
theorem dps_while {c : Expr} {body : List Stmt} {tc : DTT} {tb : DTS} (hc : DPT X Γ c tc) (hb : DPSs X Γ body tb) (hp : PassesOwn (model X.prog X.w) X.A X.env X.xe := by exact PassesOwn.never) : DPS X Γ (.While c body [] pos) (dWhile tc tb) := by
  refine PSw (ps_while hp hc hb) fun D σ H ⟨F, δ, S, P, sm, rs, ⟨n, h⟩, c⟩ => ?_
  refine ⟨fun m σ' H' => ∃ δ' S', Go Γ F S H S' H' ∧ RelS X.K (fz F S' H') σ' δ' ∧ whileN tc tb m P δ' S', ⟨n, δ, S, Go.refl sm, rs, h⟩, ?_⟩
  rintro m σ1 H1 ⟨δ1, S1, g1, rs1, h1⟩
  cases m with
  | zero => exact h1.elim
  | succ m =>
    refine ⟨F, δ1, S1, _, g1.sim, rs1, h1, fun b S2 h2 H2 g2 => ?_⟩
    have g12 := g1.trans g2
    cases b with
    | false => exact c.nx _ _ h2 _ _ g12 (rs1.mono g2.same)
    | true =>
      refine ⟨fun σ' H' => ∃ δ' S', Go Γ F S H S' H' ∧ RelS X.K (fz F S' H') σ' δ' ∧ whileN tc tb m P δ' S', fun σ' H' q => ⟨m, Nat.lt_succ_self m, q⟩, ?_⟩
      refine ⟨F, δ1, S2, _, g2.sim, rs1.mono g2.same, h2, ⟨fun δ' S' h' σ' H' g' rs' => ⟨δ', S', g12.trans g', rs', h'⟩, (c.mono g12).rt, (c.mono g12).nx, fun δ' S' h' σ' H' g' rs' => ⟨δ', S', g12.trans g', rs', h'⟩⟩⟩
end
/-! ### what a for walks -/
/-- the items, and what must stay so of the store while they are walked -/
abbrev DTI := DSt → Sto → ((Sto → Prop) → List D → Sto → Prop) → Prop
/-- J walks the items as long as kp holds of the store (objects made since may be hidden) -/
def WalkD {K : PySem.W.Frag} (Γ : KG K) (F : Addr → Bool) (S : Sto) (H : Hp) (kp : Sto → Prop) (items : List D) (J : It) : Prop :=
  ∀ F' S' H', Same (fz F S H) (fz F' S' H') → Sim Γ F' S' H' → kp S' → (∀ i, i < items.length → J.go i H') ∧ J.stop items.length H' ∧
    ∀ i x H2, i < items.length → J.yld i H' x H2 → ∃ d, items[i]? = some d ∧ Go Γ F' S' H' S' H2 ∧ Rel K (fz F' S' H2) x d
def lfI {K : PySem.W.Frag} (Γ : KG K) (t : DTI) : TI := fun σ H R => ∃ F δ S P, Sim Γ F S H ∧ RelS K (fz F S H) σ δ ∧ t δ S P ∧ ∀ kp items S', P kp items S' → ∀ J H', Go Γ F S H S' H' → WalkD Γ F S' H' kp items J → R J H'
def DPI (X : Cx) (Γ : KG X.K) (tg iter : Expr) (t : DTI) : Prop := PI X tg iter (lfI Γ t)
theorem PIw {X : Cx} {tg e : Expr} {t u : TI} (h : PI X tg e t) (w : ∀ σ H R, u σ H R → t σ H R) : PI X tg e u := ⟨fun pins s σ H R I q => h.run pins s σ H R I (w _ _ _ q)⟩
def forL (kp : Sto → Prop) (g : DTG) (tb : DTS) : List D → DTS
  | [] => fun D δ S => kp S ∧ D.nx δ S
  | d :: r => fun D δ S => kp S ∧ g d δ S fun δ1 S1 => tb { D with nx := forL kp g tb r D, ct := forL kp g tb r D, bk := D.nx } δ1 S1
abbrev dFor (ti : DTI) (g : DTG) (tb : DTS) : DTS := fun D δ S => ti δ S fun kp items S1 => forL kp g tb items D δ S1
section
variable {X : Cx} {Γ : KG X.K} {pos : Pos}
theorem forL_kp {kp : Sto → Prop} {g : DTG} {tb : DTS} {items : List D} {D : DEnds} {δ : DSt} {S : Sto} (h : forL kp g tb items D δ S) : kp S := by
  cases items with
  | nil => exact h.1
  | cons d r => exact h.1
theorem dps_for {tg iter : Expr} {body : List Stmt} {ti : DTI} {g : DTG} {tb : DTS} (hi : DPI X Γ tg iter ti) (hg : DPG X Γ tg g) (hb : DPSs X Γ body tb) (hc : X.calm = true := by rfl) (hp : PassesOwn (model X.prog X.w) X.A X.env X.xe := by exact PassesOwn.never)
    (hs : ∀ x, foldedSetIterable iter X.env x = pure x := by intro _; rfl) : DPS X Γ (.For tg iter body [] pos) (dFor ti g tb) := by
  refine PSw (ps_for hp hc hi hg hb hs) fun D σ H ⟨F, δ, S, P, sm, rs, h, c⟩ => ?_
  refine ⟨F, δ, S, _, sm, rs, h, fun kp items S1 h1 J H1 g1 wk => ?_⟩
  have c1 := c.mono g1
  refine ⟨fun i m σ' H' => m = items.length - i ∧ i ≤ items.length ∧ ∃ δ' S', Go Γ F S1 H1 S' H' ∧ RelS X.K (fz F S' H') σ' δ' ∧ forL kp g tb (items.drop i) P δ' S', ⟨items.length, by simp, Nat.zero_le _, δ, S1, Go.refl g1.sim, rs.mono g1.same, h1⟩, ?_⟩
  rintro i m σ2 H2 ⟨rfl, hi, δ2, S2, g2, rs2, h2⟩
  obtain ⟨w1, w2, w3⟩ := wk F S2 H2 g2.same g2.sim (forL_kp h2)
  by_cases hlt : i < items.length
  · refine .inr ⟨w1 i hlt, fun σ' H' => ∃ δ' S', Go Γ F S1 H1 S' H' ∧ RelS X.K (fz F S' H') σ' δ' ∧ forL kp g tb (items.drop (i + 1)) P δ' S', fun σ' H' q => ⟨items.length - (i + 1), by omega, rfl, hlt, q⟩, fun x H3 y => ?_⟩
    obtain ⟨d, e, g3, rx⟩ := w3 i x H3 hlt y
    have ed : items.drop i = d :: items.drop (i + 1) := by
      rw [List.drop_eq_getElem_cons hlt]
      rw [List.getElem?_eq_getElem hlt] at e
      cases e
      rfl
    rw [ed] at h2
    refine ⟨F, d, δ2, S2, _, g3.sim, rx, rs2.mono g3.same, h2.2, fun δ4 S4 h4 σ4 H4 g4 rs4 => ?_⟩
    have g24 := (g2.trans g3).trans g4
    exact ⟨F, δ4, S4, _, g4.sim, rs4, h4, ⟨fun δ' S' h' σ' H' g' rs' => ⟨δ', S', g24.trans g', rs', h'⟩, (c1.mono g24).rt, (c1.mono g24).nx, fun δ' S' h' σ' H' g' rs' => ⟨δ', S', g24.trans g', rs', h'⟩⟩⟩
  · have e : i = items.length := by omega
    subst e
    rw [List.drop_length] at h2
    exact .inl ⟨w2, c1.nx _ _ h2.2 _ _ g2 rs2⟩
end
/-- a list (known, or mutable and left as it is): what must stay so, its items -/
def itOf (S : Sto) : D → Option ((Sto → Prop) × List D)
  | .lst ds => some (fun _ => True, ds)
  | .ro ds => some (fun _ => True, ds)
  | .ref a => match S a with | some (.lst ds) => some (fun S' => S' a = some (.lst ds), ds) | _ => none
  | _ => none
abbrev iSeq (te : DTE) : DTI := fun δ S Q => te δ S fun x S1 => match itOf S1 x with
  | some p => Q p.1 p.2 S1
  | none => False
abbrev iTupD (te : DTE) : DTI := fun δ S Q => te δ S fun x S1 => match x with
  | .tup ds => Q (fun _ => True) ds S1
  | _ => False
abbrev iStrD (te : DTE) : DTI := fun δ S Q => te δ S fun x S1 => match x with
  | .str z => Q (fun _ => True) (z.cps.toList.map fun c => .str ⟨#[c]⟩) S1
  | _ => False
def rngD (lo : Int) (n : Nat) : List D := (List.range n).map fun i => .int (lo + (i : Nat))
abbrev iRange1 (te : DTE) : DTI := fun δ S Q => te δ S fun x S1 => match x with
  | .int j => -(2 ^ 62) ≤ j ∧ j < 2 ^ 62 ∧ Q (fun _ => True) (rngD 0 j.toNat) S1
  | _ => False
abbrev iRange2 (ta tb : DTE) : DTI := fun δ S Q => ta δ S fun x S1 => tb δ S1 fun y S2 => match x, y with
  | .int i, .int j => (-(2 ^ 62) ≤ i ∧ i < 2 ^ 62 ∧ -(2 ^ 62) ≤ j ∧ j < 2 ^ 62) ∧ Q (fun _ => True) (rngD i (j - i).toNat) S2
  | _, _ => False
def enumD : Nat → List D → List D
  | _, [] => []
  | i, d :: r => .tup [.int (i : Nat), d] :: enumD (i + 1) r
/-- a list or a tuple (false) -/
def itAll (S : Sto) : D → Option ((Sto → Prop) × List D × Bool)
  | .tup ds => some (fun _ => True, ds, false)
  | x => (itOf S x).map fun p => (p.1, p.2, true)
abbrev iEnumD (te : DTE) : DTI := fun δ S Q => te δ S fun x S1 => match itAll S1 x with
  | some p => Q p.1 (enumD 0 p.2.1) S1
  | none => False
def zipD : List D → List D → List D
  | x :: xs, y :: ys => .tup [x, y] :: zipD xs ys
  | _, _ => []
abbrev iZipD (ta tb : DTE) : DTI := fun δ S Q => ta δ S fun x S1 => tb δ S1 fun y S2 => match itOf S2 x, itOf S2 y with
  | some p, some q => Q (fun S' => p.1 S' ∧ q.1 S') (zipD p.2 q.2) S2
  | _, _ => False
abbrev iRevD (te : DTE) : DTI := fun δ S Q => te δ S fun x S1 => match itOf S1 x with
  | some p => Q p.1 p.2.reverse S1
  | none => False
/-- a list that stands at a as long as kp holds -/
def Held {K : PySem.W.Frag} (Γ : KG K) (F : Addr → Bool) (S : Sto) (H : Hp) (kp : Sto → Prop) (a : Addr) (ds : List D) : Prop :=
  ∀ F' S' H', Same (fz F S H) (fz F' S' H') → Sim Γ F' S' H' → kp S' → ∃ xs, SqL K H' a xs ∧ RelL K (fz F' S' H') xs ds
theorem walk_seq {K : PySem.W.Frag} {Γ : KG K} {F : Addr → Bool} {S : Sto} {H : Hp} {a : Addr} {ds : List D} {kp : Sto → Prop} (hs : Held Γ F S H kp a ds) : WalkD Γ F S H kp ds (Itl K a) := fun F' S' H' g s k => by
  obtain ⟨xs, h1, h2⟩ := hs F' S' H' g s k
  have w := walk_list (K := K) (a := a) (xs := xs)
  rw [h2.length] at w
  refine ⟨fun i hi => w.goes i H' hi h1, w.stops H' h1, fun i x H2 hi y => ?_⟩
  obtain ⟨rfl, e⟩ := w.yields i H' x H2 hi h1 y
  obtain ⟨d, e1, r⟩ := h2.get' e
  exact ⟨d, e1, Go.refl s, r⟩
theorem enumD_get : ∀ {ds : List D} {i k : Nat} {d : D}, ds[i]? = some d → (enumD k ds)[i]? = some (.tup [.int ((k + i : Nat) : Int), d])
  | [], i, _, _, h => by simp at h
  | x :: r, 0, k, d, h => by simp at h; subst h; rfl
  | x :: r, i + 1, k, d, h => by
    have := enumD_get (ds := r) (i := i) (k := k + 1) (d := d) (by simpa using h)
    simp only [enumD, List.getElem?_cons_succ]
    rw [this]
    rw [show k + 1 + i = k + (i + 1) by omega]
theorem enumD_length : ∀ {ds : List D} {k : Nat}, (enumD k ds).length = ds.length
  | [], _ => rfl
  | x :: r, k => by simp [enumD, enumD_length (ds := r)]
theorem itOf_rel {K : PySem.W.Frag} {Γ : KG K} {F : Addr → Bool} {S : Sto} {H : Hp} {v : V} {d : D} {p : (Sto → Prop) × List D} (sm : Sim Γ F S H) (r : Rel K (fz F S H) v d) (h : itOf S d = some p) :
    ∃ a vs, v = .ref a ∧ SqL K H a vs ∧ RelL K (fz F S H) vs p.2 ∧ Held Γ F S H p.1 a p.2 := by
  cases r <;> first | (cases h; done) | skip
  · rename_i a
    simp only [itOf] at h
    split at h
    · rename_i ds e
      cases h
      obtain ⟨vs, e1, r1⟩ := sm.lst e
      refine ⟨a, vs, rfl, .of e1, r1, fun F' S' H' g' s' k => ?_⟩
      obtain ⟨vs', e2, r2⟩ := s'.lst k
      exact ⟨vs', .of e2, r2⟩
    · cases h
  · rename_i hs rl
    cases h
    exact ⟨_, _, rfl, .of (fz_same F S H _ _ hs), rl, fun F' S' H' g' _ _ => ⟨_, .of (fz_same F' S' H' _ _ (g' _ _ hs)), rl.mono g'⟩⟩
  · rename_i hs rl
    cases h
    exact ⟨_, _, rfl, (fz_same F S H).seq hs, rl, fun F' S' H' g' _ _ => ⟨_, ((fz_same F' S' H').seq (g'.seq hs)), rl.mono g'⟩⟩
/-- a list or a tuple that stands at a as long as kp holds -/
def HeldB {K : PySem.W.Frag} (Γ : KG K) (F : Addr → Bool) (S : Sto) (H : Hp) (kp : Sto → Prop) (a : Addr) (ds : List D) (b : Bool) : Prop :=
  ∀ F' S' H', Same (fz F S H) (fz F' S' H') → Sim Γ F' S' H' → kp S' → ∃ xs, SqB K H' a xs b ∧ RelL K (fz F' S' H') xs ds
theorem itAll_rel {K : PySem.W.Frag} {Γ : KG K} {F : Addr → Bool} {S : Sto} {H : Hp} {v : V} {d : D} {p : (Sto → Prop) × List D × Bool} (sm : Sim Γ F S H) (r : Rel K (fz F S H) v d) (h : itAll S d = some p) :
    ∃ a vs, v = .ref a ∧ SqB K H a vs p.2.2 ∧ RelL K (fz F S H) vs p.2.1 ∧ HeldB Γ F S H p.1 a p.2.1 p.2.2 := by
  have lists : ∀ q, itOf S d = some q → (q.1, q.2, true) = p → ∃ a vs, v = .ref a ∧ SqB K H a vs p.2.2 ∧ RelL K (fz F S H) vs p.2.1 ∧ HeldB Γ F S H p.1 a p.2.1 p.2.2 := fun q e1 e2 => by
    obtain ⟨a, vs, h1, h2, h3, h4⟩ := itOf_rel sm r e1
    subst e2
    exact ⟨a, vs, h1, h2, h3, h4⟩
  by_cases z : ∃ ds, d = .tup ds
  · obtain ⟨ds, rfl⟩ := z
    cases h
    cases r with
    | tup hs rl => exact ⟨_, _, rfl, sqT_mono (fz_same F S H) hs, rl, fun F' S' H' g' _ _ => ⟨_, sqT_mono (fz_same F' S' H') (hs.mono g'), rl.mono g'⟩⟩
  · have e : itAll S d = (itOf S d).map fun p => (p.1, p.2, true) := by
      cases d <;> first | rfl | exact absurd ⟨_, rfl⟩ z
    rw [e] at h
    obtain ⟨q, e1, e2⟩ := Option.map_eq_some_iff.mp h
    exact lists q e1 e2
theorem walk_en {K : PySem.W.Frag} {Γ : KG K} {F : Addr → Bool} {S : Sto} {H : Hp} {a : Addr} {ds : List D} {kp : Sto → Prop} {b : Bool} (hs : HeldB Γ F S H kp a ds b) : WalkD Γ F S H kp (enumD 0 ds) (ItE K a b) := fun F' S' H' g s k => by
  obtain ⟨xs, h1, h2⟩ := hs F' S' H' g s k
  rw [enumD_length]
  refine ⟨fun i hi => ?_, ⟨xs, h1, Nat.le_of_eq h2.length⟩, fun i x H2 hi y => ?_⟩
  · obtain ⟨v, e, _⟩ := h2.get (List.getElem?_eq_getElem hi)
    exact ⟨xs, v, h1, e⟩
  · obtain ⟨T, o, y1, rfl, hT, hd, rfl, e1⟩ := y
    obtain ⟨d, e3, r⟩ := h2.get' (e1 xs h1)
    refine ⟨_, enumD_get e3, s.new hT, ?_⟩
    rw [Nat.zero_add]
    exact fz_newT s hT hd (.cons (.int _) (.cons r .nil))
theorem zipD_length : ∀ {xs ys : List D}, (zipD xs ys).length = min xs.length ys.length
  | [], _ => by simp [zipD]
  | _ :: _, [] => by simp [zipD]
  | x :: xs, y :: ys => by simp [zipD, zipD_length (xs := xs) (ys := ys)]
theorem zipD_get : ∀ {xs ys : List D} {i : Nat} {x y : D}, xs[i]? = some x → ys[i]? = some y → (zipD xs ys)[i]? = some (.tup [x, y])
  | [], _, _, _, _, h, _ => by simp at h
  | _ :: _, [], _, _, _, _, h => by simp at h
  | a :: xs, b :: ys, 0, x, y, h, h' => by simp at h h'; subst h; subst h'; rfl
  | a :: xs, b :: ys, i + 1, x, y, h, h' => by simpa [zipD] using zipD_get (xs := xs) (ys := ys) (i := i) (by simpa using h) (by simpa using h')
section
variable {X : Cx} {Γ : KG X.K} {tg e a b : Expr} {te ta tb : DTE} {p pos tpos : Pos} {elts : List Expr} {kk : Nat}
theorem dpi_seq (h : DPE X Γ e te) : DPI X Γ tg e (iSeq te) := PIw (pi_list h) fun σ H R ⟨F, δ, S, P, sm, rs, h, c⟩ => ⟨F, δ, S, _, sm, rs, h, fun d S1 h1 v H1 g1 r1 => by
  split at h1
  · rename_i q e
    obtain ⟨a, vs, rfl, hs, _, w⟩ := itOf_rel g1.sim r1 e
    exact ⟨a, rfl, ⟨vs, hs⟩, c _ _ _ h1 _ _ g1 (walk_seq w)⟩
  · exact h1.elim⟩
theorem dpi_tup (h : DPE X Γ e te) : DPI X Γ tg e (iTupD te) := PIw (pi_tup h) fun σ H R ⟨F, δ, S, P, sm, rs, h, c⟩ => ⟨F, δ, S, _, sm, rs, h, fun d S1 h1 v H1 g1 r1 => by
  cases r1 <;> first | exact (h1 : False).elim | skip
  rename_i a vs ds hs rl
  refine ⟨_, rfl, ⟨_, sqT_mono (fz_same F S1 H1) hs⟩, c _ _ _ h1 _ _ g1 fun F' S' H' g' s' _ => ?_⟩
  have h2 := rl.mono g'
  have h3 := sqT_mono (fz_same F' S' H') (hs.mono g')
  have w := walk_tup (K := X.K) (a := a) (xs := vs)
  rw [h2.length] at w
  refine ⟨fun i hi => w.goes i H' hi h3, w.stops H' h3, fun i x H2 hi y => ?_⟩
  obtain ⟨rfl, e⟩ := w.yields i H' x H2 hi h3 y
  obtain ⟨d, e1, r⟩ := h2.get' e
  exact ⟨d, e1, Go.refl s', r⟩⟩
theorem dpi_str (h : DPE X Γ e te) : DPI X Γ tg e (iStrD te) := PIw (pi_str h) fun σ H R ⟨F, δ, S, P, sm, rs, h, c⟩ => ⟨F, δ, S, _, sm, rs, h, fun d S1 h1 v H1 g1 r1 => by
  cases r1 <;> first | exact (h1 : False).elim | skip
  rename_i z
  refine ⟨_, rfl, c _ _ _ h1 _ _ g1 fun F' S' H' g' s' _ => ?_⟩
  have w := walk_str (z := z)
  have hl : (z.cps.toList.map fun c => D.str ⟨#[c]⟩).length = z.cps.size := by simp
  rw [hl]
  refine ⟨fun i hi => w.goes i H' hi True.intro, w.stops H' True.intro, fun i x H2 hi y => ?_⟩
  obtain ⟨rfl, c0, e0, rfl⟩ := w.yields i H' x H2 hi True.intro y
  refine ⟨.str ⟨#[c0]⟩, ?_, Go.refl s', .str _⟩
  rw [List.getElem?_map, Array.getElem?_toList, e0]
  rfl⟩
theorem walk_rng {K : PySem.W.Frag} {Γ : KG K} {F : Addr → Bool} {S : Sto} {H : Hp} {lo : Int} {n : Nat} : WalkD Γ F S H (fun _ => True) (rngD lo n) (Itr lo n) := fun F' S' H' g s _ => by
  have w := walk_range (lo := lo) (n := n)
  have hl : (rngD lo n).length = n := by simp [rngD]
  rw [hl]
  refine ⟨fun i hi => w.goes i H' hi True.intro, w.stops H' True.intro, fun i x H2 hi y => ?_⟩
  obtain ⟨rfl, rfl⟩ := w.yields i H' x H2 hi True.intro y
  refine ⟨.int (lo + i), ?_, Go.refl s, .int _⟩
  unfold rngD
  rw [List.getElem?_map, List.getElem?_range hi]
  rfl
theorem dpi_range1 (hg : Gl X "range") (hm : X.mg "range" = none) (h : DPE X Γ a ta) (hs : starEach [a] X.env = [(false, eval a X.env)] := by rfl) (hs' : starEach [a] X.env = (false, eval a X.env) :: starEach [] X.env := by rfl) : DPI X Γ tg (.Call (.Name "range" p) [a] [] pos) (iRange1 ta) :=
  PIw (pi_range1 hg hm (dpa_cons h dpa_nil hs') hs) fun σ H R ⟨F, δ, S, P, sm, rs, h, c⟩ => ⟨F, δ, S, fun ds S1 => match ds with
  | [x] => (match x with
    | .int j => -(2 ^ 62) ≤ j ∧ j < 2 ^ 62 ∧ P (fun _ => True) (rngD 0 j.toNat) S1
    | _ => False)
  | _ => False, sm, rs, h, fun ds S1 h1 vs H1 g1 r1 => by
    rcases ds with _ | ⟨x, _ | ⟨_, _⟩⟩ <;> first | exact (h1 : False).elim | skip
    cases r1 with
    | cons r1 r2 =>
    cases r2
    cases r1 <;> first | exact (h1 : False).elim | skip
    obtain ⟨h1, h2, h3⟩ := h1
    exact ⟨_, rfl, h1, h2, c _ _ _ h3 _ _ g1 walk_rng⟩⟩
theorem dpi_range2 (hg : Gl X "range") (hm : X.mg "range" = none) (h : DPE X Γ a ta) (h' : DPE X Γ b tb) (hs : starEach [a, b] X.env = (false, eval a X.env) :: starEach [b] X.env := by rfl) (hs1 : starEach [b] X.env = (false, eval b X.env) :: starEach [] X.env := by rfl)
    (hs2 : starEach [a, b] X.env = [(false, eval a X.env), (false, eval b X.env)] := by rfl) (hs3 : starEach [b] X.env = [(false, eval b X.env)] := by rfl) : DPI X Γ tg (.Call (.Name "range" p) [a, b] [] pos) (iRange2 ta tb) :=
  PIw (pi_range2 hg hm (dpa_cons h (dpa_cons h' dpa_nil hs1) hs) hs2 hs3) fun σ H R ⟨F, δ, S, P, sm, rs, h, c⟩ => ⟨F, δ, S, fun ds S1 => match ds with
  | [x, y] => (match x, y with
    | .int i, .int j => (-(2 ^ 62) ≤ i ∧ i < 2 ^ 62 ∧ -(2 ^ 62) ≤ j ∧ j < 2 ^ 62) ∧ P (fun _ => True) (rngD i (j - i).toNat) S1
    | _, _ => False)
  | _ => False, sm, rs, h, fun ds S1 h1 vs H1 g1 r1 => by
    rcases ds with _ | ⟨x, _ | ⟨y, _ | ⟨_, _⟩⟩⟩ <;> first | exact (h1 : False).elim | skip
    cases x <;> first | exact (h1 : False).elim | skip
    cases y <;> first | exact (h1 : False).elim | skip
    cases r1 with
    | cons r1 r2 =>
    cases r2 with
    | cons r2 r3 =>
    cases r3
    cases r1; cases r2
    obtain ⟨h1, h3⟩ := h1
    exact ⟨_, _, rfl, h1, c _ _ _ h3 _ _ g1 walk_rng⟩⟩
theorem dpi_enum (hg : Gl X "enumerate") (hm : X.mg "enumerate" = none) (h : DPE X Γ a ta) (hs : starEach [a] X.env = [(false, eval a X.env)] := by rfl) (hs' : starEach [a] X.env = (false, eval a X.env) :: starEach [] X.env := by rfl) : DPI X Γ (.Tuple elts kk tpos) (.Call (.Name "enumerate" p) [a] [] pos) (iEnumD ta) :=
  PIw (pi_en hg hm (dpa_cons h dpa_nil hs') hs) fun σ H R ⟨F, δ, S, P, sm, rs, h, c⟩ => ⟨F, δ, S, fun ds S1 => match ds with
  | [x] => (match itAll S1 x with
    | some p => P p.1 (enumD 0 p.2.1) S1
    | none => False)
  | _ => False, sm, rs, h, fun ds S1 h1 vs H1 g1 r1 => by
    rcases ds with _ | ⟨x, _ | ⟨_, _⟩⟩ <;> first | exact (h1 : False).elim | skip
    cases r1 with
    | cons r1 r2 =>
    cases r2
    have h1 : match itAll S1 x with
      | some p => P p.1 (enumD 0 p.2.1) S1
      | none => False := h1
    split at h1
    · rename_i q e
      obtain ⟨a, vs, rfl, hs, _, w⟩ := itAll_rel g1.sim r1 e
      exact ⟨a, vs, _, rfl, hs, c _ _ _ h1 _ _ g1 (walk_en w)⟩
    · exact h1.elim⟩
end
/-! ### list comprehensions -/
abbrev dwipe (δ : DSt) : List Nat → DSt
  | [] => δ
  | v :: vs => dset (dwipe δ vs) v none
theorem RelS.wipe {K : PySem.W.Frag} {G : Hp} {σ : St} {δ : DSt} (r : RelS K G σ δ) : ∀ vs : List Nat, RelS K G (L2.wipe σ vs) (dwipe δ vs)
  | [] => r
  | v :: vs => by
    show RelS K G _ (L3.dset (dwipe δ vs) v none)
    rw [dset_eq]
    exact (RelS.wipe r vs).unset v
def lcL (kp : Sto → Prop) (g : DTG) (tt : DTT) (te : DTE) (vs : List Nat) (δ : DSt) : List D → List D → Sto → DK → Prop
  | [], acc, S, Q => kp S ∧ Q (.lst acc) S
  | d :: r, acc, S, Q => kp S ∧ acc.length < sizeLine ∧ g d (dwipe δ vs) S fun δ2 S2 => tt δ2 S2 fun b S3 =>
    if b = true then te δ2 S3 fun y S4 => lcL kp g tt te vs δ r (acc ++ [y]) S4 Q else lcL kp g tt te vs δ r acc S3 Q
abbrev dLc (ti : DTI) (g : DTG) (tt : DTT) (te : DTE) (vs : List Nat) : DTE := fun δ S Q => ti δ S fun kp items S1 => lcL kp g tt te vs δ items [] S1 Q
abbrev dYes : DTT := fun _ S Q => Q true S
theorem lcL_kp {kp : Sto → Prop} {g : DTG} {tt : DTT} {te : DTE} {vs : List Nat} {δ : DSt} {items acc : List D} {S : Sto} {Q : DK} (h : lcL kp g tt te vs δ items acc S Q) : kp S := by
  cases items with
  | nil => exact h.1
  | cons d r => exact h.1
section
variable {X : Cx} {Γ : KG X.K}
theorem lf_lc {K : PySem.W.Frag} {Γ : KG K} {wi : DTI} {tg : Tg} {tt : DTT} {te : DTE} {vs : List Nat} (hv : ∀ i ∈ tg.slots, i ∈ vs) (σ : St) (H : Hp) (Q : VK) (h : lf Γ (dLc wi (dTg tg) tt te vs) σ H Q) : tLc (lfI Γ wi) (gTg K tg) (lfT Γ tt) (lf Γ te) vs σ H Q := by
  obtain ⟨F, δ, S, P, sm, rs, h, c⟩ := h
  refine ⟨F, δ, S, _, sm, rs, h, fun kp items S1 h1 J H1 g1 wk => ?_⟩
  intro Dp hD
  have c1 := c.mono g1
  have s1 := g1.sim.hideNew (o := .lst []) hD
  have fD := (g1.sim.none hD).1
  -- the states of the loop
  refine ⟨fun i m H' => m = items.length - i ∧ i ≤ items.length ∧ ∃ S' vs' acc, Go Γ (hide F Dp) S1 (upd H1 Dp (.lst [])) S' (upd H' Dp (.lst [])) ∧ H' Dp = some (.lst vs') ∧ RelL K (fz (hide F Dp) S' H') vs' acc ∧ lcL kp (dTg tg) tt te vs δ (items.drop i) acc S' P,
    ⟨items.length, by simp, Nat.zero_le _, S1, [], [], by rw [upd_upd]; exact Go.refl s1, upd_same, .nil, h1⟩, ?_⟩
  rintro i m H2 ⟨rfl, hi, S2, vs2, acc, g2, e2, r2, h2⟩
  have s2 : Sim Γ (hide F Dp) S2 H2 := by
    have q := Sim.hidePut g1.sim fD g2.sim (o := .lst vs2)
    rw [upd_upd] at q
    have e : upd H2 Dp (.lst vs2) = H2 := by
      funext b
      by_cases z : b = Dp
      · subst z; rw [upd_same, e2]
      · rw [upd_ne z]
    rw [e] at q
    exact q
  -- from the loop's entry to here, all shown
  have go2 : Go Γ F S1 H1 S2 H2 := by
    refine .of g1.sim ⟨fun b x e => ?_, fun a f => ?_, s2.toSimB.show_ fD⟩
    · have q := g2.same b x (fz_hide_new hD b x e)
      rw [fz_hide_upd] at q
      exact fz_hide_same b x q
    · have np : a ≠ Dp := fun z => by subst z; rw [fD] at f; cases f
      have q := g2.hid a (by simp [hide, np, f])
      rw [upd_ne np, upd_ne np] at q
      exact q
  have rs2 : RelS K (fz (hide F Dp) S2 H2) σ δ := by
    have q : RelS K (fz (hide F Dp) S2 (upd H2 Dp (.lst []))) σ δ := ((rs.mono g1.same).mono (fz_hide_new hD)).mono g2.same
    rw [fz_hide_upd] at q
    exact q
  have sm2 : Same (fz F S1 H1) (fz (hide F Dp) S2 H2) := fun b x e => by
    have q := g2.same b x (fz_hide_new hD b x e)
    rw [fz_hide_upd] at q
    exact q
  obtain ⟨w1, w2, w3⟩ := wk (hide F Dp) S2 H2 sm2 s2 (lcL_kp h2)
  by_cases hlt : i < items.length
  · refine .inr ⟨w1 i hlt, fun H' => ∃ S' vs' acc, Go Γ (hide F Dp) S1 (upd H1 Dp (.lst [])) S' (upd H' Dp (.lst [])) ∧ H' Dp = some (.lst vs') ∧ RelL K (fz (hide F Dp) S' H') vs' acc ∧ lcL kp (dTg tg) tt te vs δ (items.drop (i + 1)) acc S' P,
      fun H' q => ⟨items.length - (i + 1), by omega, rfl, hlt, q⟩, fun x H3 y => ?_⟩
    obtain ⟨d, e, g3, rx⟩ := w3 i x H3 hlt y
    have ed : items.drop i = d :: items.drop (i + 1) := by
      rw [List.drop_eq_getElem_cons hlt]
      rw [List.getElem?_eq_getElem hlt] at e
      cases e
      rfl
    rw [ed] at h2
    obtain ⟨_, hacc, h2⟩ := h2
    -- later states, D behind them
    have later : ∀ {S4 : Sto} {H4 : Hp}, Go Γ (hide F Dp) S2 H2 S4 H4 → Go Γ (hide F Dp) S1 (upd H1 Dp (.lst [])) S4 (upd H4 Dp (.lst [])) := fun {S4 H4} g => by
      refine g2.trans ⟨?_, fun a f => ?_, Sim.hidePut g1.sim fD g.sim⟩
      · rw [fz_hide_upd, fz_hide_upd]
        exact g.same
      · by_cases z : a = Dp
        · subst z; rw [upd_same, upd_same]
        · rw [upd_ne z, upd_ne z]; exact g.hid a f
    refine gTg_ok tg rx ((rs2.wipe vs).mono g3.same) h2 fun σ4 δ4 rs4 h4 hw => ⟨?_, ?_⟩
    · rw [hw vs hv]
      exact wipe_wipe σ vs
    refine ⟨hide F Dp, δ4, S2, _, g3.sim, rs4, h4, fun b S5 h5 H5 g5 => ?_⟩
    have g25 := g3.trans g5
    cases b with
    | false => exact ⟨S5, vs2, acc, later g25, (g25.hid Dp (by simp [hide])).trans e2, r2.mono g25.same, h5⟩
    | true =>
      refine ⟨hide F Dp, δ4, S5, _, g5.sim, rs4.mono g5.same, h5, fun dy S6 h6 vy H6 g6 r6 => ?_⟩
      have g26 := g25.trans g6
      have e6 : H6 Dp = some (.lst vs2) := (g26.hid Dp (by simp [hide])).trans e2
      refine ⟨vs2, e6, by rw [r2.length]; exact hacc, S6, vs2 ++ [vy], acc ++ [dy], ?_, upd_same, ?_, h6⟩
      · rw [upd_upd]
        exact later g26
      · rw [fz_hide_upd]
        exact (r2.mono g26.same).append (.cons r6 .nil)
  · have e : i = items.length := by omega
    subst e
    rw [List.drop_length] at h2
    refine .inl ⟨w2, ?_⟩
    refine c1 _ _ h2.2 _ _ go2 (.lst ?_ (r2.mono fz_hide_same))
    cases z : S2 Dp with
    | none => rw [fz_none fD z]; exact e2
    | some u =>
      have := (s2.at_ Dp u z).1
      simp [hide] at this
where
  wipe_wipe (σ : St) (vs : List Nat) : L2.wipe (L2.wipe σ vs) vs = L2.wipe σ vs := by
    have c : ∀ (js : List Nat) (τ : St), (∀ j ∈ js, j < τ.length → τ[j]? = some none) → L2.wipe τ js = τ := by
      intro js
      induction js with
      | nil => intro τ _; rfl
      | cons j js ih =>
        intro τ h
        show (L2.wipe τ js).set j none = τ
        rw [ih τ fun k hk => h k (List.mem_cons_of_mem _ hk)]
        by_cases hj : j < τ.length
        · have q := h j List.mem_cons_self hj
          rw [List.getElem?_eq_getElem hj] at q
          have q' := Option.some.inj q
          rw [← q']
          exact List.set_getElem_self hj
        · exact List.set_eq_of_length_le (by omega)
    refine c vs _ fun j hj hl => ?_
    have d : ∀ (js : List Nat) (τ : St), j ∈ js → j < τ.length → (L2.wipe τ js)[j]? = some none := by
      intro js
      induction js with
      | nil => intro τ h; cases h
      | cons k js ih =>
        intro τ h hl
        show ((L2.wipe τ js).set k none)[j]? = some none
        rw [List.getElem?_set]
        by_cases z : k = j
        · rw [if_pos z, if_pos (by rw [wipe_length]; omega)]
        · rw [if_neg z]
          refine ih τ ?_ hl
          rcases List.mem_cons.mp h with e | e
          · exact absurd e.symm z
          · exact e
    exact d vs σ hj (by rw [wipe_length] at hl; exact hl)
theorem dpt_yes : ∀ {X : Cx} {Γ : KG X.K}, PTs X [] (lfT Γ dYes) := ⟨fun pins s σ H Q I ⟨F, δ, S, P, sm, rs, h, c⟩ => pts_nil.run pins s σ H Q I (c _ _ h _ (Go.refl sm))⟩
theorem dpts_one {c : Expr} {t : DTT} (h : DPT X Γ c t) : PTs X [c] (lfT Γ t) := pts_one h
theorem dpe_lc {elt tge iter : Expr} {ifs : List Expr} {scope : Scope} {own : List (Str × Nat)} {pos : Pos} {wi : DTI} {tg : Tg} {tt : DTT} {te : DTE} (hN : X.N.Nodup) (hi : DPI X Γ tge iter wi) (ok : BlkOk X.N X.env.scope scope own)
    (hg : ∀ (s : Shared) (H : Hp) (C : Addr) (cl : List (Str × Addr)) (fp : List Addr), PG (X.blk s H scope (compEnvC scope cl C X.env) fp) tge (gTg X.K tg)) (ht : ∀ (s : Shared) (H : Hp) (C : Addr) (cl : List (Str × Addr)) (fp : List Addr), PTs (X.blk s H scope (compEnvC scope cl C X.env) fp) ifs (lfT Γ tt))
    (he : ∀ (s : Shared) (H : Hp) (C : Addr) (cl : List (Str × Addr)) (fp : List Addr), DPE (X.blk s H scope (compEnvC scope cl C X.env) fp) Γ elt te) (hv : ∀ i ∈ tg.slots, i ∈ own.map (·.2) := by decide) (hc : X.calm = true := by rfl) (hs : ∀ x, foldedSetIterable iter X.env x = pure x := by intro _; rfl) :
    DPE X Γ (.ListComp elt [⟨tge, iter, ifs, 0⟩] scope pos) (dLc wi (dTg tg) tt te (own.map (·.2))) :=
  PEw (pe_lc (te := lf Γ te) hc hN hi ok hg ht (fun s H C cl fp => he s H C cl fp) hs) (lf_lc hv)
theorem dps_setLc {i : Nat} {y : Str} {py : Pos} {elt tge iter : Expr} {ifs : List Expr} {scope : Scope} {own : List (Str × Nat)} {pos spos : Pos} {wi : DTI} {tg : Tg} {tt : DTT} {te : DTE} (hN : X.N.Nodup) (hy : X.N[i]? = some y) (hyl : X.env.scope.names.lookup y = some .local)
    (hsw : swapsWith (.ListComp elt [⟨tge, iter, ifs, 0⟩] scope pos) (some (.Name y py)) spos.line X.env = pure true) (hi : DPI X Γ tge iter wi) (ok : BlkOk X.N X.env.scope scope own)
    (hg : ∀ (s : Shared) (H : Hp) (C : Addr) (cl : List (Str × Addr)) (fp : List Addr), PG (X.blk s H scope (compEnvC scope cl C X.env) fp) tge (gTg X.K tg)) (ht : ∀ (s : Shared) (H : Hp) (C : Addr) (cl : List (Str × Addr)) (fp : List Addr), PTs (X.blk s H scope (compEnvC scope cl C X.env) fp) ifs (lfT Γ tt))
    (he : ∀ (s : Shared) (H : Hp) (C : Addr) (cl : List (Str × Addr)) (fp : List Addr), DPE (X.blk s H scope (compEnvC scope cl C X.env) fp) Γ elt te) (hv : ∀ i ∈ tg.slots, i ∈ own.map (·.2) := by decide) (hc : X.calm = true := by rfl) (hs : ∀ x, foldedSetIterable iter X.env x = pure x := by intro _; rfl) :
    DPS X Γ (.Assign [.Name y py] (.ListComp elt [⟨tge, iter, ifs, 0⟩] scope pos) spos) (dAsg (dLc wi (dTg tg) tt te (own.map (·.2))) (dTg (.nm i))) := by
  refine PSw (ps_setLc (te := lf Γ te) hc hN hy hyl hsw hi ok hg ht (fun s H C cl fp => he s H C cl fp) hs) fun D σ H ⟨F, δ, S, P, sm, rs, h, c⟩ => ?_
  refine lf_lc hv σ H _ ⟨F, δ, S, _, sm, rs, h, fun d S1 h1 v H1 g1 r1 => ?_⟩
  exact c.nx _ _ h1 _ _ g1 ((rs.mono g1.same).dset r1 i)
end
/-! ### methods of lists -/
section
variable {X : Cx} {Γ : KG X.K} {o e a : Expr} {to te : DTE} {t : DTA} {es : List Expr} {apos cpos : Pos} {name : Str} {T id : String}
/-- a method of a built-in's object, by data: the receiver's type and the reading -/
structure DMt (X : Cx) (T id : String) (r' : D → List D → Sto → DK → Prop) : Prop where
  ex : ∃ r, MtR X id r ∧ LRM X.K r r' ∧ ∀ {Γ : KG X.K} x dx ds F S H P, Sim Γ F S H → Rel X.K (fz F S H) x dx → r' dx ds S P → tyV X.K T x H
abbrev dBM (r : D → List D → Sto → DK → Prop) (to : DTE) (t : DTA) : DTE := fun δ S Q => to δ S fun x S1 => t δ S1 fun xs S2 => r x xs S2 Q
/-- the receiver is looked at ahead of the arguments: what a list stays -/
def isSeq (S : Sto) : D → Prop
  | .ref a => ∃ ds, S a = some (.lst ds)
  | _ => False
abbrev dLM (r : D → List D → Sto → DK → Prop) (to : DTE) (t : DTA) : DTE := fun δ S Q => to δ S fun x S1 => isSeq S1 x ∧ t δ S1 fun xs S2 => r x xs S2 Q
theorem isSeq_ty {K : PySem.W.Frag} {Γ : KG K} {F : Addr → Bool} {S : Sto} {H : Hp} {v : V} {d : D} (sm : Sim Γ F S H) (r : Rel K (fz F S H) v d) (h : isSeq S d) : tyV K "list" v H := by
  cases r <;> first | exact (h : False).elim | skip
  obtain ⟨ds, e⟩ := h
  obtain ⟨vs, e1, r1⟩ := sm.lst e
  exact .inl ⟨rfl, vs, .of e1⟩
/-- a method of a mutable list -/
theorem dpe_lm {r : V → List V → Hp → VK → Prop} {r' : D → List D → Sto → DK → Prop} (slot : Slot "list" name id) (hty : typeOf (.builtin id) = pure (.type "method_descriptor")) (hm : MtM X id r) (hl : LRM X.K r r') (ho : DPE X Γ o to) (ha : DPA X Γ (e :: es) t)
    (hbase : attributeBase o name X.env (eval o X.env) = eval o X.env := by rfl)
    (hfew : ((backTo cpos (starEach (e :: es) X.env)).all (fun x => !x.1) && (backToKw cpos (keywordEach [] X.env)).all (fun x => x.1.isSome)
      && decide ((e :: es).length + ([] : List Keyword).length + (if ([] : List Keyword).isEmpty then 0 else 1) < 30)) = true := by rfl)
    (hline : (apos.endLine == cpos.line) = true := by rfl) (hs : starEach (e :: es) X.env = (false, eval e X.env) :: starEach es X.env := by rfl) (hplain : (backTo cpos (starEach es X.env)).any (·.1) = false := by rfl) :
    DPE X Γ (.Call (.Attribute o name apos) (e :: es) [] cpos) (dLM r' to t) :=
  PEw (pe_bm PySem.F.plainAttrs_list slot hty hm ho ha hbase hfew hline hs hplain) fun σ H Q ⟨F, δ, S, P, sm, rs, h, c⟩ =>
    ⟨F, δ, S, _, sm, rs, h, fun d S1 ⟨h0, h1⟩ v H1 g1 r1 => ⟨isSeq_ty g1.sim r1 h0, F, δ, S1, _, g1.sim, rs.mono g1.same, h1, fun ds S2 h2 vs H2 g2 r2 => hl v vs d ds F S2 H2 P Q g2.sim (r1.mono g2.same) r2 h2 (c.mono (g1.trans g2))⟩⟩
theorem dpe_lm0 {r : V → List V → Hp → VK → Prop} {r' : D → List D → Sto → DK → Prop} (slot : Slot "list" name id) (hty : typeOf (.builtin id) = pure (.type "method_descriptor")) (hm : MtM X id r) (hl : LRM X.K r r') (ho : DPE X Γ o to)
    (hbase : attributeBase o name X.env (eval o X.env) = eval o X.env := by rfl) (hline : (apos.endLine == cpos.line) = true := by rfl) :
    DPE X Γ (.Call (.Attribute o name apos) [] [] cpos) (dLM r' to dNil) :=
  PEw (pe_bm0 PySem.F.plainAttrs_list slot hty hm ho hbase hline) fun σ H Q ⟨F, δ, S, P, sm, rs, h, c⟩ =>
    ⟨F, δ, S, _, sm, rs, h, fun d S1 ⟨h0, h1⟩ v H1 g1 r1 => ⟨isSeq_ty g1.sim r1 h0, hl v [] d [] F S1 H1 P Q g1.sim r1 .nil h1 (c.mono g1)⟩⟩
/-- xs.append(y) -/
def vAppend : D → List D → Sto → DK → Prop
  | .ref a, [d], S, Q => match S a with
    | some (.lst ds) => ds.length < sizeLine ∧ Q .non (sup S a (.lst (ds ++ [d])))
    | _ => False
  | _, _, _, _ => False
theorem lr_append : LRM X.K rAppend vAppend := fun x xs dx ds F S H P Q sm rx rxs q c => by
  cases rx <;> first | exact (q : False).elim | skip
  rename_i a
  cases rxs with
  | nil => exact (q : False).elim
  | cons r1 r2 =>
  cases r2 with
  | cons _ _ => exact (q : False).elim
  | nil =>
  simp only [vAppend] at q
  split at q
  · rename_i ds e
    obtain ⟨vs, e1, rv⟩ := sm.lst e
    exact ⟨a, vs, _, rfl, rfl, e1, by rw [rv.length]; exact q.1, c.put (o := .lst (vs ++ [_])) (u' := .lst (ds ++ [_])) sm e ⟨_, rfl, rv.append (.cons r1 .nil)⟩ .non q.2⟩
  · exact q.elim
/-- xs.pop() -/
def vPop : D → List D → Sto → DK → Prop
  | .ref a, [], S, Q => match S a with
    | some (.lst ds) => match ds[ds.length - 1]? with | some d => Q d (sup S a (.lst ds.dropLast)) | none => False
    | _ => False
  | _, _, _, _ => False
theorem RelL.dropLast {K : PySem.W.Frag} {G : Hp} {xs : List V} {ds : List D} (r : RelL K G xs ds) : RelL K G xs.dropLast ds.dropLast := by
  rw [List.dropLast_eq_take, List.dropLast_eq_take, r.length]
  exact r.take _
theorem lr_pop : LRM X.K rPop vPop := fun x xs dx ds F S H P Q sm rx rxs q c => by
  cases rx <;> first | exact (q : False).elim | skip
  rename_i a
  cases rxs with
  | cons _ _ => exact (q : False).elim
  | nil =>
  simp only [vPop] at q
  split at q
  · rename_i ds e
    obtain ⟨vs, e1, rv⟩ := sm.lst e
    split at q
    · rename_i d e2
      obtain ⟨v, e3, r3⟩ := rv.get e2
      exact ⟨a, vs, v, rfl, rfl, e1, by rw [rv.length]; exact e3, c.put (o := .lst vs.dropLast) (u' := .lst ds.dropLast) sm e ⟨_, rfl, rv.dropLast⟩ r3 q⟩
    · exact q.elim
  · exact q.elim
end
end L3

set_option Elab.async false
set_option maxRecDepth 100000
set_option linter.all false
set_option maxHeartbeats 2000000
namespace L3
open PySem PySem.Spec PyProof.Rows L2
/-! ### defs and their promises -/
abbrev DSp := List D → Sto → DK → Prop
/-- nothing is known -/
def KG.top (K : PySem.W.Frag) : KG K := ⟨fun _ _ _ => True, fun _ _ _ => True.intro, fun _ _ _ => True.intro, fun _ _ _ _ => True.intro⟩
theorem Ct.top {K : PySem.W.Frag} {Γ : KG K} {F : Addr → Bool} {S : Sto} {H : Hp} {P : DK} {Q : VK} (sm : Sim Γ F S H) (c : Ct Γ F S H P Q) : Ct (KG.top K) F S H P Q := fun d S' h v H' g r => c d S' h v H' (.of sm g.b) r
theorem Sim.top {K : PySem.W.Frag} {Γ : KG K} {F : Addr → Bool} {S : Sto} {H : Hp} (sm : Sim Γ F S H) : Sim (KG.top K) F S H := ⟨sm.toSimB, True.intro⟩
def lfSp (K : PySem.W.Frag) (sp : DSp) : Sp := fun vs H Q _ => ∃ F ds S P, Sim (KG.top K) F S H ∧ RelL K (fz F S H) vs ds ∧ sp ds S P ∧ Ct (KG.top K) F S H P Q
abbrev FnD (P : Program) (w : World) (K : PySem.W.Frag) (mg : Str → Option Value) (base : Heap) (k : Nat) (f : Addr) (fd : FuncData) (ps : List Str) (sp : DSp) : Prop := FnOk P w K mg base CX0 k f fd ps (lfSp K sp)
abbrev dCall (sp : DSp) (t : DTA) : DTE := fun δ S Q => t δ S fun ds S1 => sp ds S1 Q
section
variable {X : Cx} {Γ : KG X.K} {k : Nat} {f : Addr} {fd : FuncData} {ps : List Str} {sp : DSp} {x : Str} {p pos : Pos} {e : Expr} {es : List Expr} {t : DTA}
theorem dpe_call (F : FnD X.prog X.w X.K X.mg X.base k f fd ps sp) (hr : Room k X.A) (hg : Gl X x) (hm : X.mg x = some (.ref f)) (hk : PySem.W.keepIn X.K (.ref f) = true) (hb : Binds X.K fd ps [])
    (ha : DPA X Γ (e :: es) t) (hdb : (x == ("__debug__" : Str)) = false := by decide) (he : starEach (e :: es) X.env = (false, eval e X.env) :: starEach es X.env := by rfl) (hpl : (backTo pos (starEach es X.env)).any (·.1) = false := by rfl) :
    DPE X Γ (.Call (.Name x p) (e :: es) [] pos) (dCall sp t) :=
  PEw (pe_call F hr hg hm hk hb .nil pass0 ha hdb he hpl) fun σ H Q ⟨F, δ, S, P, sm, rs, h, c⟩ => ⟨F, δ, S, _, sm, rs, h, fun ds S1 h1 vs H1 g1 r1 => by
    show lfSp X.K sp (vs ++ []) H1 Q E0
    rw [List.append_nil]
    exact ⟨F, ds, S1, P, g1.sim.top, r1, h1, (c.mono g1).top g1.sim⟩⟩
theorem dpe_call0 (F : FnD X.prog X.w X.K X.mg X.base k f fd ps sp) (hr : Room k X.A) (hg : Gl X x) (hm : X.mg x = some (.ref f)) (hk : PySem.W.keepIn X.K (.ref f) = true) (hb : Binds X.K fd ps [])
    (hdb : (x == ("__debug__" : Str)) = false := by decide) : DPE X Γ (.Call (.Name x p) [] [] pos) (dCall sp dNil) :=
  PEw (pe_call0 F hr hg hm hk hb .nil pass0 hdb) fun σ H Q ⟨F, δ, S, P, sm, rs, h, c⟩ => ⟨F, [], S, P, sm.top, .nil, h, c.top sm⟩
end
/-! what is handed back: parts of the store let go, lists that nobody changes any more -/
mutual
inductive Lw (S' S'' : Sto) : D → D → Prop
  | refl (d : D) : Lw S' S'' d d
  | frz {a : Addr} {ds es : List D} : S' a = some (.lst ds) → S'' a = none → LwL S' S'' ds es → Lw S' S'' (.ref a) (.lst es)
  | tup {ds es : List D} : LwL S' S'' ds es → Lw S' S'' (.tup ds) (.tup es)
inductive LwL (S' S'' : Sto) : List D → List D → Prop
  | nil : LwL S' S'' [] []
  | cons {d e : D} {ds es : List D} : Lw S' S'' d e → LwL S' S'' ds es → LwL S' S'' (d :: ds) (e :: es)
end
theorem LwL.refl {S' S'' : Sto} : ∀ ds : List D, LwL S' S'' ds ds
  | [] => .nil
  | d :: ds => .cons (.refl d) (LwL.refl ds)
section
variable {K : PySem.W.Frag} {Γ : KG K} {F : Addr → Bool} {S' S'' : Sto} {H : Hp}
theorem fz_less (h : ∀ a o, S'' a = some o → S' a = some o) : Same (fz F S' H) (fz F S'' H) := fun b x e => by
  obtain ⟨h0, h1, h2⟩ := fz_of e
  rw [fz_none h0 ?_]
  · exact h2
  · cases q : S'' b with
    | none => rfl
    | some u => rw [h b u q] at h1; cases h1
mutual
theorem Lw.rel (sm : Sim Γ F S' H) (h : ∀ a o, S'' a = some o → S' a = some o) : ∀ {d e : D} {v : V}, Lw S' S'' d e → Rel K (fz F S' H) v d → Rel K (fz F S'' H) v e
  | _, _, _, .refl d, r => r.mono (fz_less h)
  | _, _, _, .frz (a := a) h1 h2 l, r => by
    cases r
    obtain ⟨vs, e1, r1⟩ := sm.lst h1
    refine .lst ?_ (LwL.rel sm h l r1)
    rw [fz_none (sm.at_ _ _ h1).1 h2]
    exact e1
  | _, _, _, .tup l, r => by
    cases r with
    | tup hs rl => exact .tup (SqX.mono (fz_less h) hs) (LwL.rel sm h l rl)
theorem LwL.rel (sm : Sim Γ F S' H) (h : ∀ a o, S'' a = some o → S' a = some o) : ∀ {d e : List D} {v : List V}, LwL S' S'' d e → RelL K (fz F S' H) v d → RelL K (fz F S'' H) v e
  | _, _, _, .nil, .nil => .nil
  | _, _, _, .cons a b, .cons r t => .cons (Lw.rel sm h a r) (LwL.rel sm h b t)
end
end
/-- P holds of what is left -/
def Fin_ (P : DK) : DK := fun d S' => ∃ e S'', (∀ a o, S'' a = some o → S' a = some o) ∧ Lw S' S'' d e ∧ P e S''
theorem Fin_.of {P : DK} {d : D} {S : Sto} (h : P d S) : Fin_ P d S := ⟨d, S, fun _ _ q => q, .refl d, h⟩
theorem Ct.fin {K : PySem.W.Frag} {Γ : KG K} {F : Addr → Bool} {S : Sto} {H : Hp} {P : DK} {Q : VK} (sm : Sim Γ F S H) (c : Ct Γ F S H P Q) : Ct Γ F S H (Fin_ P) Q := fun d S' ⟨e, S'', h1, h2, h3⟩ v H' g r =>
  c e S'' h3 v H' (Go.drop sm g h1) (h2.rel g.sim h1 r)
abbrev dstart : List Str → List D → DSt
  | [], _ => []
  | _ :: N, [] => none :: dstart N []
  | _ :: N, d :: ds => some d :: dstart N ds
theorem rels_start {K : PySem.W.Frag} {G : Hp} : ∀ {N : List Str} {vs : List V} {ds : List D}, RelL K G vs ds → ds.length ≤ N.length → RelS K G (L2.start N vs) (dstart N ds)
  | [], _, _, .nil, _ => .nil
  | [], _, _, .cons _ _, h => by simp at h
  | x :: N, _, _, .nil, h => by
    have q := rels_start (N := N) (K := K) (G := G) .nil (Nat.zero_le _)
    exact .skip q
  | x :: N, _, _, .cons r t, h => by
    have q := rels_start (N := N) t (by simpa using h)
    have e : ∀ (v : V) (vs : List V), L2.start (x :: N) (v :: vs) = some v :: L2.start N vs := fun v vs => by
      unfold L2.start
      simp
    rw [e]
    exact .cons r q
/-! promises by their arguments -/
abbrev a0 (sp : Sto → DK → Prop) : DSp := fun ds S Q => match ds with | [] => sp S Q | _ => False
abbrev a1 (sp : D → Sto → DK → Prop) : DSp := fun ds S Q => match ds with | [a] => sp a S Q | _ => False
abbrev a2 (sp : D → D → Sto → DK → Prop) : DSp := fun ds S Q => match ds with | [a, b] => sp a b S Q | _ => False
abbrev a3 (sp : D → D → D → Sto → DK → Prop) : DSp := fun ds S Q => match ds with | [a, b, c] => sp a b c S Q | _ => False
abbrev a4 (sp : D → D → D → D → Sto → DK → Prop) : DSp := fun ds S Q => match ds with | [a, b, c, d] => sp a b c d S Q | _ => False
abbrev a5 (sp : D → D → D → D → D → Sto → DK → Prop) : DSp := fun ds S Q => match ds with | [a, b, c, d, e] => sp a b c d e S Q | _ => False
abbrev a6 (sp : D → D → D → D → D → D → Sto → DK → Prop) : DSp := fun ds S Q => match ds with | [a, b, c, d, e, f] => sp a b c d e f S Q | _ => False
theorem a0_len {sp} : ∀ ds S P, a0 sp ds S P → ds.length = 0
  | [], _, _, _ => rfl
  | _ :: _, _, _, h => (h : False).elim
theorem a1_len {sp} : ∀ ds S P, a1 sp ds S P → ds.length = 1
  | [_], _, _, _ => rfl
  | [], _, _, h | _ :: _ :: _, _, _, h => (h : False).elim
theorem a2_len {sp} : ∀ ds S P, a2 sp ds S P → ds.length = 2
  | [_, _], _, _, _ => rfl
  | [], _, _, h | [_], _, _, h | _ :: _ :: _ :: _, _, _, h => (h : False).elim
theorem a3_len {sp} : ∀ ds S P, a3 sp ds S P → ds.length = 3
  | [_, _, _], _, _, _ => rfl
  | [], _, _, h | [_], _, _, h | [_, _], _, _, h | _ :: _ :: _ :: _ :: _, _, _, h => (h : False).elim
theorem a4_len {sp} : ∀ ds S P, a4 sp ds S P → ds.length = 4
  | [_, _, _, _], _, _, _ => rfl
  | [], _, _, h | [_], _, _, h | [_, _], _, _, h | [_, _, _], _, _, h | _ :: _ :: _ :: _ :: _ :: _, _, _, h => (h : False).elim
theorem a5_len {sp} : ∀ ds S P, a5 sp ds S P → ds.length = 5
  | [_, _, _, _, _], _, _, _ => rfl
  | [], _, _, h | [_], _, _, h | [_, _], _, _, h | [_, _, _], _, _, h | [_, _, _, _], _, _, h | _ :: _ :: _ :: _ :: _ :: _ :: _, _, _, h => (h : False).elim
theorem a6_len {sp} : ∀ ds S P, a6 sp ds S P → ds.length = 6
  | [_, _, _, _, _, _], _, _, _ => rfl
  | [], _, _, h | [_], _, _, h | [_, _], _, _, h | [_, _, _], _, _, h | [_, _, _, _], _, _, h | [_, _, _, _, _], _, _, h | _ :: _ :: _ :: _ :: _ :: _ :: _ :: _, _, _, h => (h : False).elim
/-- what follows a def's body -/
abbrev DEnds.of (P : DK) : DEnds := { nx := fun _ S' => Fin_ P .non S', rt := Fin_ P }
section
variable {P : Program} {w : World} {K : PySem.W.Frag} {Γ : KG K} {mg : Str → Option Value} {base : Heap}
/-- a def: its derivation, its reading -/
theorem FnD.mk {x qual : Str} {st : Stmt} {f : Addr} {fd : FuncData} {N ps : List Str} {k : Nat} {sp : DSp} {t : DTS} (Fn : Fun K x qual st f fd) (Sc : FnScope N ps (defScope st)) (len : ∀ ds S P, sp ds S P → ds.length = ps.length)
    (hb : ∀ (cdv : Value) (A : Around) (outer : List Env) (s : Shared) (H : Hp) (E : XK), Room k (A.deeper (envOfC qual (defScope st) s.heap.objs.size f cdv)) → DPSs (cxOf CX0 P w K mg base N qual (defScope st) f cdv A outer s H E).nox (KG.top K) (defBody st) t)
    (hread : ∀ ds S P, sp ds S P → t (DEnds.of P) (dstart N ds) S) : FnD P w K mg base (k + 1) f fd ps sp := by
  refine Fn.ok Sc (fun vs H Q E ⟨F, ds, S, P, sm, rl, h, c⟩ => by rw [rl.length]; exact len _ _ _ h) fun cdv A outer s H vs Q E hr ⟨F, ds, S, P, sm, rl, h, c⟩ => ?_
  have hle : ps.length ≤ N.length := by
    have := congrArg List.length Sc.pre
    rw [List.length_take] at this
    omega
  refine ⟨_, hb cdv A outer s H E hr, F, dstart N ds, S, _, sm, rels_start rl (by rw [len _ _ _ h]; exact hle), hread ds S P h, ⟨fun δ' S' h' σ' H' g rs' => ?_, (c.fin sm), fun _ _ q => q.elim, fun _ _ q => q.elim⟩⟩
  exact (c.fin sm) _ _ h' _ _ g .non
/-- the law itself -/
def spTrue : DSp := fun ds S P => ∃ ns : List Int, ds = [.ro (ns.map .int)] ∧ ns.length ≤ 63 ∧ ∀ S', P (.bl true) S'
def spLaw (K : PySem.W.Frag) : Sp := fun vs H Q _ => ∃ (a : Addr) (ns : List Int), vs = [.ref a] ∧ SqL K H a (ns.map V.int) ∧ ns.length ≤ 63 ∧ ∀ H', Q (.bl true) H'
theorem FnD.law {k : Nat} {f : Addr} {fd : FuncData} (F : FnD P w K mg base k f fd ["script"] spTrue) : FnOk P w K mg base CX0 k f fd ["script"] (spLaw K) :=
  F.imp fun vs H Q E ⟨a, ns, e, hs, hl, q⟩ => by
    subst e
    have e0 : fz (fun _ => false) (fun _ => none) H = H := rfl
    refine ⟨fun _ => false, [.ro (ns.map .int)], fun _ => none, fun d _ => d = .bl true, ⟨⟨fun a o (z : none = some o) => (nomatch z), fun a (z : false = true) => (nomatch z)⟩, True.intro⟩, ?_, ⟨ns, rfl, hl, fun _ => rfl⟩, fun d S' e v H' g r => ?_⟩
    · rw [e0]
      exact .cons (.ro hs (.ofInts ns)) .nil
    · subst e
      cases r
      exact q H'
end
end L3

set_option Elab.async false
set_option maxRecDepth 100000
set_option linter.all false
set_option maxHeartbeats 2000000
namespace L3
open PySem L2
/-! ### lemmas for running readings -/
section
variable {α : Type} {a b c d e f g : α} {r : List α}
theorem atI_nat {xs : List α} {i : Nat} : atI xs (i : Int) = xs[i]? := by
  unfold atI ixN
  rw [if_pos (by omega)]
  by_cases h : i < xs.length
  · rw [if_pos (by omega)]
    simp
  · rw [if_neg (by omega)]
    simp at h
    simp [h]
theorem atI_int {xs : List α} {i : Int} (h0 : 0 ≤ i) : atI xs i = xs[i.toNat]? := by
  obtain ⟨n, rfl⟩ := Int.eq_ofNat_of_zero_le h0
  exact atI_nat
@[simp] theorem atI_0 : atI (a :: r) 0 = some a := atI_nat (i := 0)
@[simp] theorem atI_1 : atI (a :: b :: r) 1 = some b := atI_nat (i := 1)
@[simp] theorem atI_2 : atI (a :: b :: c :: r) 2 = some c := atI_nat (i := 2)
@[simp] theorem atI_3 : atI (a :: b :: c :: d :: r) 3 = some d := atI_nat (i := 3)
@[simp] theorem atI_4 : atI (a :: b :: c :: d :: e :: r) 4 = some e := atI_nat (i := 4)
@[simp] theorem atI_5 : atI (a :: b :: c :: d :: e :: f :: r) 5 = some f := atI_nat (i := 5)
end
@[simp] theorem toPs_map_int (p : List Int) : toPs (p.map .int) = p.map .int := by
  induction p with
  | nil => rfl
  | cons x p ih => simp only [List.map_cons, toPs, toP, ih]
@[simp] theorem okEs_map_int (p : List Int) : okEs (p.map .int) = true := by
  induction p with
  | nil => rfl
  | cons x p ih => simp only [List.map_cons, okEs, okE, ih, Bool.and_self]
@[simp] theorem deps_map_int (p : List Int) : deps (p.map .int) = 0 := by
  induction p with
  | nil => rfl
  | cons x p ih => simp only [List.map_cons, deps, dep, ih, Nat.max_self]
theorem eqvAll_ints : ∀ (p q : List Int), PyData.eqvAll (p.map .int) (q.map .int) = decide (p = q)
  | [], [] => by simp [PyData.eqvAll]
  | [], _ :: _ => by simp [PyData.eqvAll]
  | _ :: _, [] => by simp [PyData.eqvAll]
  | a :: p, b :: q => by simp only [List.map_cons, PyData.eqvAll, PyData.eqv, eqvAll_ints p q, List.cons.injEq, Bool.decide_and]; rfl
theorem cut_from {α : Type} (xs : List α) (n : Nat) : cut xs (some (n : Int)) none = xs.drop n := by
  unfold cut
  rw [HT.sIx_nat, HT.sIx_none]
  by_cases h : n ≤ xs.length
  · rw [Nat.min_eq_left h, List.take_of_length_le (by simp)]
  · rw [Nat.min_eq_right (by omega), List.drop_eq_nil_of_le (Nat.le_refl _), List.drop_eq_nil_of_le (by omega)]
    simp
theorem cut_to {α : Type} (xs : List α) (n : Nat) : cut xs none (some (n : Int)) = xs.take n := by
  unfold cut
  rw [HT.sIx_nat, HT.sIx_none]
  simp only [List.drop_zero, Nat.sub_zero]
  by_cases h : n ≤ xs.length
  · rw [Nat.min_eq_left h]
  · rw [Nat.min_eq_right (by omega), List.take_of_length_le (Nat.le_refl _), List.take_of_length_le (by omega)]
theorem cut_map {α β : Type} (f : α → β) (xs : List α) (lo hi : Option Int) : cut (xs.map f) lo hi = (cut xs lo hi).map f := by
  unfold cut
  rw [List.length_map, List.map_take, List.map_drop]
/-- a comprehension whose elements are told by a function, nothing changes -/
theorem lcL_pure {kp : Sto → Prop} {te : DTE} {vs : List Nat} {δ : DSt} {i : Nat} {S : Sto} {Q : DK} (f : D → D) (hk : kp S) : ∀ (ds acc : List D), acc.length + ds.length ≤ sizeLine →
    (∀ d ∈ ds, ∀ P : DK, P (f d) S → te (dset (dwipe δ vs) i (some d)) S P) → Q (.lst (acc ++ ds.map f)) S → lcL kp (dTg (.nm i)) dYes te vs δ ds acc S Q
  | [], acc, _, _, q => ⟨hk, by simpa using q⟩
  | d :: ds, acc, hz, he, q => by
    refine ⟨hk, by simp only [List.length_cons] at hz; omega, ?_⟩
    show (if true = true then te _ S _ else _)
    rw [if_pos rfl]
    refine he d List.mem_cons_self _ ?_
    refine lcL_pure f hk ds (acc ++ [f d]) (by simp only [List.length_append, List.length_cons, List.length_nil] at hz ⊢; omega) (fun e h => he e (List.mem_cons_of_mem _ h)) ?_
    simpa using q
/-- a for, by an invariant over the turn's number -/
theorem forL_inv {kp : Sto → Prop} {g : DTG} {tb : DTS} {D' : DEnds} (I : Nat → DSt → Sto → Prop) (hk : ∀ i δ S, I i δ S → kp S) : ∀ (ds : List D) (i : Nat) (δ : DSt) (S : Sto), I i δ S →
    (∀ (j : Nat) (d : D) δ S, ds[j]? = some d → I (i + j) δ S → ∀ D2 : DEnds, D2.rt = D'.rt → D2.bk = D'.nx → (∀ δ S, I (i + j + 1) δ S → D2.nx δ S) → (∀ δ S, I (i + j + 1) δ S → D2.ct δ S) → g d δ S fun δ1 S1 => tb D2 δ1 S1) →
    (∀ δ S, I (i + ds.length) δ S → D'.nx δ S) → forL kp g tb ds D' δ S
  | [], i, δ, S, h, _, he => ⟨hk _ _ _ h, he _ _ h⟩
  | d :: ds, i, δ, S, h, hs, he => by
    have rec_ : ∀ δ S, I (i + 1) δ S → forL kp g tb ds D' δ S := fun δ S h' => forL_inv I hk ds (i + 1) δ S h' (fun j e δ S h1 h2 D2 a b c c' => hs (j + 1) e δ S (by simpa using h1) (by rw [show i + (j + 1) = i + 1 + j by omega]; exact h2) D2 a b
        (fun δ S z => c δ S (by rw [show i + 1 + j + 1 = i + (j + 1) + 1 by omega]; exact z)) (fun δ S z => c' δ S (by rw [show i + 1 + j + 1 = i + (j + 1) + 1 by omega]; exact z)))
      (fun δ S z => he δ S (by rw [List.length_cons, show i + (ds.length + 1) = i + 1 + ds.length by omega]; exact z))
    exact ⟨hk _ _ _ h, hs 0 d δ S rfl h { D' with nx := forL kp g tb ds D', ct := forL kp g tb ds D', bk := D'.nx } rfl rfl rec_ rec_⟩
/-- a while, by an invariant over the most turns that are left -/
theorem whileN_inv {c : DTT} {tb : DTS} {D' : DEnds} (I : Nat → DSt → Sto → Prop)
    (hs : ∀ n δ S, I n δ S → ∀ D2 : DEnds, D2.rt = D'.rt → D2.bk = D'.nx → (∀ k δ S, n = k + 1 → I k δ S → D2.nx δ S) → (∀ k δ S, n = k + 1 → I k δ S → D2.ct δ S) → c δ S fun b S1 => if b = true then tb D2 δ S1 else D'.nx δ S1) :
    ∀ n δ S, I n δ S → whileN c tb (n + 1) D' δ S
  | 0, δ, S, h => hs 0 δ S h { D' with nx := whileN c tb 0 D', ct := whileN c tb 0 D', bk := D'.nx } rfl rfl (fun k δ S e => by omega) (fun k δ S e => by omega)
  | n + 1, δ, S, h => hs (n + 1) δ S h { D' with nx := whileN c tb (n + 1) D', ct := whileN c tb (n + 1) D', bk := D'.nx } rfl rfl
      (fun k δ S e z => by rw [show n = k by omega]; exact whileN_inv I hs k δ S z) (fun k δ S e z => by rw [show n = k by omega]; exact whileN_inv I hs k δ S z)
theorem Fin_.same {P : DK} {d : D} {S : Sto} (h : P d S) : Fin_ P d S := .of h
/-! ### equations for running readings: nothing is opened that is not known -/
def vAt : Option D → Sto → DK → Prop
  | some d, S, Q => Q d S
  | none, _, _ => False
theorem vAt_some {d S Q} : vAt (some d) S Q = Q d S := rfl
def vAtL : Option SO → Int → Sto → DK → Prop
  | some (.lst ds), i, S, Q => vAt (atI ds i) S Q
  | _, _, _, _ => False
theorem vAtL_lst {ds i S Q} : vAtL (some (.lst ds)) i S Q = vAt (atI ds i) S Q := rfl
section
variable {a b : Addr} {i j : Int} {x y d : D} {xs ys ds : List D} {s t : Str} {p q : Bool} {S : Sto} {Q : DK} {n : String} {lo hi : Option Int}
theorem vIx_tup : vIx (.tup ds) (.int i) S Q = vAt (atI ds i) S Q := by simp only [vIx]; cases atI ds i <;> rfl
theorem vIx_lst : vIx (.lst ds) (.int i) S Q = vAt (atI ds i) S Q := by simp only [vIx]; cases atI ds i <;> rfl
theorem vIx_ro : vIx (.ro ds) (.int i) S Q = vAt (atI ds i) S Q := by simp only [vIx]; cases atI ds i <;> rfl
theorem vIx_ref : vIx (.ref a) (.int i) S Q = vAtL (S a) i S Q := by
  simp only [vIx]
  rcases S a with _ | (ds | _ | _) <;> first | rfl | (simp only [vAtL]; cases atI ds i <;> rfl)
theorem vIx_str : vIx (.str s) (.int i) S Q = (s.length ≤ sizeLine ∧ match atI s.cps.toList i with | some c => Q (.str ⟨#[c]⟩) S | none => False) := rfl
theorem vSl_tup : vSl (.tup ds) lo hi S Q = Q (.tup (cut ds lo hi)) S := rfl
theorem vSl_lst : vSl (.lst ds) lo hi S Q = Q (.lst (cut ds lo hi)) S := rfl
theorem vSl_ro : vSl (.ro ds) lo hi S Q = Q (.lst (cut ds lo hi)) S := rfl
theorem vSl_str : vSl (.str s) lo hi S Q = (s.length ≤ sizeLine ∧ Q (.str (cutS s lo hi)) S) := rfl
def vSlL : Option SO → Option Int → Option Int → Sto → DK → Prop
  | some (.lst ds), lo, hi, S, Q => Q (.lst (cut ds lo hi)) S
  | _, _, _, _, _ => False
theorem vSlL_lst : vSlL (some (.lst ds)) lo hi S Q = Q (.lst (cut ds lo hi)) S := rfl
theorem vSl_ref : vSl (.ref a) lo hi S Q = vSlL (S a) lo hi S Q := by
  simp only [vSl]
  rcases S a with _ | (_ | _ | _) <;> rfl
theorem vLen_str : vLen [.str s] S Q = (s.length ≤ sizeLine ∧ Q (.int s.length) S) := rfl
theorem vLen_tup : vLen [.tup ds] S Q = Q (.int ds.length) S := rfl
theorem vLen_lst : vLen [.lst ds] S Q = Q (.int ds.length) S := rfl
theorem vLen_ro : vLen [.ro ds] S Q = Q (.int ds.length) S := rfl
def vLenL : Option SO → Sto → DK → Prop
  | some (.lst ds), S, Q => Q (.int ds.length) S
  | some (.dK kvs), S, Q => Q (.int kvs.length) S
  | _, _, _ => False
theorem vLenL_lst : vLenL (some (.lst ds)) S Q = Q (.int ds.length) S := rfl
theorem vLenL_dK {kvs : List (Key × D)} : vLenL (some (.dK kvs)) S Q = Q (.int kvs.length) S := rfl
theorem vLen_ref : vLen [.ref a] S Q = vLenL (S a) S Q := by
  simp only [vLen]
  rcases S a with _ | (_ | _ | _) <;> rfl
theorem vAdd_int : vAdd (.int i) (.int j) S Q = Q (.int (i + j)) S := rfl
theorem vAdd_str : vAdd (.str s) (.str t) S Q = (s.length + t.length ≤ sizeLine ∧ Q (.str (s ++ t)) S) := rfl
theorem vAdd_tup : vAdd (.tup xs) (.tup ys) S Q = (xs.length + ys.length ≤ sizeLine ∧ Q (.tup (xs ++ ys)) S) := rfl
theorem vAdd_lst : vAdd (.lst xs) (.lst ys) S Q = (xs.length + ys.length ≤ sizeLine ∧ Q (.lst (xs ++ ys)) S) := rfl
def vAddL : Option SO → List D → Sto → DK → Prop
  | some (.lst ds), ys, S, Q => ds.length + ys.length ≤ sizeLine ∧ Q (.lst (ds ++ ys)) S
  | _, _, _, _ => False
theorem vAddL_lst : vAddL (some (.lst ds)) ys S Q = (ds.length + ys.length ≤ sizeLine ∧ Q (.lst (ds ++ ys)) S) := rfl
theorem vAdd_ref : vAdd (.ref a) (.lst ys) S Q = vAddL (S a) ys S Q := by
  simp only [vAdd]
  rcases S a with _ | (_ | _ | _) <;> rfl
theorem vSub_int : vSub (.int i) (.int j) S Q = Q (.int (i - j)) S := rfl
theorem vLt_int : vLt (.int i) (.int j) S Q = Q (.bl (decide (i < j))) S := rfl
theorem vLe_int : vLe (.int i) (.int j) S Q = Q (.bl (decide (i ≤ j))) S := rfl
theorem vGt_int : vGt (.int i) (.int j) S Q = Q (.bl (decide (j < i))) S := rfl
theorem vGe_int : vGe (.int i) (.int j) S Q = Q (.bl (decide (j ≤ i))) S := rfl
theorem vMod_int : vMod (.int i) (.int j) S Q = (0 < j ∧ Q (.int (i % j)) S) := rfl
theorem vDiv_int : vDiv (.int i) (.int j) S Q = (CDiv i j ∧ Q (.int (i / j)) S) := rfl
theorem vPow_int : vPow (.int i) (.int j) S Q = (CPow i j ∧ Q (.int (i ^ j.toNat)) S) := rfl
theorem vShl_int : vShl (.int i) (.int j) S Q = (CPow i j ∧ Q (.int (i * 2 ^ j.toNat)) S) := rfl
theorem vMul_int : vMul (.int i) (.int j) S Q = ((CMul i j ∨ CMulW i j) ∧ Q (.int (i * j)) S) := rfl
theorem vMul_tup : vMul (.tup ds) (.int j) S Q = (-1000 ≤ j ∧ j ≤ 1000 ∧ ds.length ≤ 1000 ∧ Q (.tup (List.replicate j.toNat ds).flatten) S) := rfl
theorem vMul_lst : vMul (.lst ds) (.int j) S Q = (-(2 ^ 63) ≤ j ∧ j < 2 ^ 63 ∧ ds.length * j.toNat ≤ sizeLine ∧ Q (.lst (List.replicate j.toNat ds).flatten) S) := rfl
theorem vEq_int : vEq (.int i) (.int j) S Q = Q (.bl (decide (i = j))) S := rfl
theorem vEq_str : vEq (.str s) (.str t) S Q = Q (.bl (decide (s = t))) S := rfl
theorem vEq_bl : vEq (.bl p) (.bl q) S Q = Q (.bl (decide (p = q))) S := rfl
theorem vEq_tup : vEq (.tup xs) (.tup ys) S Q = (okE (.tup xs) = true ∧ okE (.tup ys) = true ∧ dep (.tup xs) ≤ 64 ∧ dep (.tup ys) ≤ 64 ∧ Q (.bl (eqv (.tup xs) (.tup ys))) S) := rfl
theorem vEq_lst : vEq (.lst xs) (.lst ys) S Q = (okE (.lst xs) = true ∧ okE (.lst ys) = true ∧ dep (.lst xs) ≤ 64 ∧ dep (.lst ys) ≤ 64 ∧ Q (.bl (eqv (.lst xs) (.lst ys))) S) := rfl
theorem vNe_int : vNe (.int i) (.int j) S Q = Q (.bl (!decide (i = j))) S := rfl
theorem vNe_str : vNe (.str s) (.str t) S Q = Q (.bl (!decide (s = t))) S := rfl
theorem vNe_bl : vNe (.bl p) (.bl q) S Q = Q (.bl (!decide (p = q))) S := rfl
theorem vNe_tup : vNe (.tup xs) (.tup ys) S Q = (okE (.tup xs) = true ∧ okE (.tup ys) = true ∧ dep (.tup xs) ≤ 64 ∧ dep (.tup ys) ≤ 64 ∧ Q (.bl (!eqv (.tup xs) (.tup ys))) S) := rfl
theorem isN_non : isN .non = true := rfl
theorem isN_bl : isN (.bl p) = false := rfl
theorem isN_int : isN (.int i) = false := rfl
theorem isN_str : isN (.str s) = false := rfl
theorem isN_tup : isN (.tup ds) = false := rfl
theorem isN_lst : isN (.lst ds) = false := rfl
theorem isN_ref : isN (.ref a) = false := rfl
theorem vIs_non : vIs x .non S Q = Q (.bl (isN x)) S := rfl
theorem vIsNot_non : vIsNot x .non S Q = Q (.bl (!isN x)) S := rfl
theorem vNeg_int : vNeg (.int i) S Q = Q (.int (-i)) S := rfl
theorem vInt_int : vInt [.int i] S Q = Q (.int i) S := rfl
theorem vInt_bl : vInt [.bl p] S Q = Q (.int (if p then 1 else 0)) S := rfl
theorem vBool_int : vBool [.int i] S Q = Q (.bl (i != 0)) S := rfl
theorem vBool_bl : vBool [.bl p] S Q = Q (.bl p) S := rfl
theorem vAbs_int : vAbs [.int i] S Q = Q (.int (if i < 0 then -i else i)) S := rfl
theorem vMin2_int : vMin2 [.int i, .int j] S Q = Q (.int (if j < i then j else i)) S := rfl
theorem vMax2_int : vMax2 [.int i, .int j] S Q = Q (.int (if j > i then j else i)) S := rfl
theorem vTuple_tup : vTuple [.tup ds] S Q = Q (.tup ds) S := rfl
theorem vTuple_lst : vTuple [.lst ds] S Q = Q (.tup ds) S := rfl
def vTupleL : Option SO → Sto → DK → Prop
  | some (.lst ds), S, Q => Q (.tup ds) S
  | _, _, _ => False
theorem vTupleL_lst : vTupleL (some (.lst ds)) S Q = Q (.tup ds) S := rfl
theorem vTuple_ref : vTuple [.ref a] S Q = vTupleL (S a) S Q := by
  simp only [vTuple]
  rcases S a with _ | (_ | _ | _) <;> rfl
theorem vList_tup : vList [.tup ds] S Q = Q (.lst ds) S := rfl
theorem vList_lst : vList [.lst ds] S Q = Q (.lst ds) S := rfl
def vAllO (f : List Bool → Bool) : Option (List Bool) → Sto → DK → Prop
  | some bs, S, Q => Q (.bl (f bs)) S
  | none, _, _ => False
theorem vAllO_some {f : List Bool → Bool} {bs : List Bool} : vAllO f (some bs) S Q = Q (.bl (f bs)) S := rfl
theorem vAll_x : vAll [x] S Q = vAllO (fun bs => bs.all id) ((seqOf S x).bind asBls) S Q := by
  simp only [vAll]
  cases (seqOf S x).bind asBls <;> rfl
theorem vAny_x : vAny [x] S Q = vAllO (fun bs => bs.any id) ((seqOf S x).bind asBls) S Q := by
  simp only [vAny]
  cases (seqOf S x).bind asBls <;> rfl
theorem seqOf_lst : seqOf S (.lst ds) = some ds := rfl
theorem vIsi_x : vIsi [x, .ty n] S Q = vAllO (fun bs => bs.all id) ((isiT x n).map fun b => [b]) S Q := by
  simp only [vIsi]
  cases isiT x n with
  | none => rfl
  | some b => simp [vAllO]
theorem vIadd_int : vIadd (.int i) (.int j) S Q = Q (.int (i + j)) S := rfl
theorem vIadd_str : vIadd (.str s) (.str t) S Q = (s.length + t.length ≤ sizeLine ∧ Q (.str (s ++ t)) S) := rfl
def vAppL : Option SO → Addr → D → Sto → DK → Prop
  | some (.lst ds), a, d, S, Q => ds.length < sizeLine ∧ Q .non (sup S a (.lst (ds ++ [d])))
  | _, _, _, _, _ => False
theorem vAppL_lst : vAppL (some (.lst ds)) a d S Q = (ds.length < sizeLine ∧ Q .non (sup S a (.lst (ds ++ [d])))) := rfl
theorem vAppend_ref : vAppend (.ref a) [d] S Q = vAppL (S a) a d S Q := by
  simp only [vAppend]
  rcases S a with _ | (_ | _ | _) <;> rfl
def vSetO : Option SO → Addr → Int → D → Sto → (Sto → Prop) → Prop
  | some (.lst ds), a, k, v, S, Q => match ixN ds.length k with | some j => Q (sup S a (.lst (ds.set j v))) | none => False
  | _, _, _, _, _, _ => False
def vSetN : Option Nat → Addr → List D → D → Sto → (Sto → Prop) → Prop
  | some j, a, ds, v, S, Q => Q (sup S a (.lst (ds.set j v)))
  | none, _, _, _, _, _ => False
theorem vSetN_some {j : Nat} {Q : Sto → Prop} : vSetN (some j) a ds d S Q = Q (sup S a (.lst (ds.set j d))) := rfl
theorem vSetO_lst {Q : Sto → Prop} : vSetO (some (.lst ds)) a i d S Q = vSetN (ixN ds.length i) a ds d S Q := by
  simp only [vSetO]
  cases ixN ds.length i <;> rfl
theorem vSet_ref {Q : Sto → Prop} : vSet (.ref a) (.int i) d S Q = vSetO (S a) a i d S Q := by
  simp only [vSet]
  rcases S a with _ | (_ | _ | _) <;> rfl
theorem isSeq_ref : isSeq S (.ref a) = ∃ ds, S a = some (.lst ds) := rfl
theorem ex_lst : (∃ ds, (some (SO.lst xs)) = some (.lst ds)) = True := by simp
theorem isiT_int_int : isiT (.int i) "int" = some true := rfl
theorem isiT_int_bool : isiT (.int i) "bool" = some false := rfl
theorem isiT_int_tuple : isiT (.int i) "tuple" = some false := rfl
theorem isiT_int_str : isiT (.int i) "str" = some false := rfl
theorem isiT_int_list : isiT (.int i) "list" = some false := rfl
theorem isiT_bl_int : isiT (.bl p) "int" = some true := rfl
theorem isiT_bl_bool : isiT (.bl p) "bool" = some true := rfl
theorem isiT_bl_tuple : isiT (.bl p) "tuple" = some false := rfl
theorem isiT_bl_str : isiT (.bl p) "str" = some false := rfl
theorem isiT_bl_list : isiT (.bl p) "list" = some false := rfl
theorem isiT_non_int : isiT .non "int" = some false := rfl
theorem isiT_non_bool : isiT .non "bool" = some false := rfl
theorem isiT_non_tuple : isiT .non "tuple" = some false := rfl
theorem isiT_non_str : isiT .non "str" = some false := rfl
theorem isiT_non_list : isiT .non "list" = some false := rfl
theorem isiT_str_int : isiT (.str s) "int" = some false := rfl
theorem isiT_str_bool : isiT (.str s) "bool" = some false := rfl
theorem isiT_str_tuple : isiT (.str s) "tuple" = some false := rfl
theorem isiT_str_str : isiT (.str s) "str" = some true := rfl
theorem isiT_str_list : isiT (.str s) "list" = some false := rfl
theorem isiT_tup_int : isiT (.tup ds) "int" = some false := rfl
theorem isiT_tup_bool : isiT (.tup ds) "bool" = some false := rfl
theorem isiT_tup_tuple : isiT (.tup ds) "tuple" = some true := rfl
theorem isiT_tup_str : isiT (.tup ds) "str" = some false := rfl
theorem isiT_tup_list : isiT (.tup ds) "list" = some false := rfl
theorem isiT_lst_int : isiT (.lst ds) "int" = some false := rfl
theorem isiT_lst_bool : isiT (.lst ds) "bool" = some false := rfl
theorem isiT_lst_tuple : isiT (.lst ds) "tuple" = some false := rfl
theorem isiT_lst_str : isiT (.lst ds) "str" = some false := rfl
theorem isiT_lst_list : isiT (.lst ds) "list" = some true := rfl
end
theorem all1 {b : Bool} : [b].all id = b := by simp
/-! ### steps -/
abbrev ml (p : List Int) : List D := p.map .int
section
variable {a b c d e f g x y z : D} {i j : Int} {xs ys ds : List D} {p q : List Int} {s t : Str} {u v : Bool} {S : Sto} {Q : DK} {n : String} {A : Addr} {lo hi : Option Int} {so : SO} {X Y : Prop} {k : Nat}
theorem st_ix0 (h : Q a S) : vIx (.tup (a :: xs)) (.int 0) S Q := by rw [vIx_tup, atI_0]; exact h
theorem st_ix1 (h : Q b S) : vIx (.tup (a :: b :: xs)) (.int 1) S Q := by rw [vIx_tup, atI_1]; exact h
theorem st_ix2 (h : Q c S) : vIx (.tup (a :: b :: c :: xs)) (.int 2) S Q := by rw [vIx_tup, atI_2]; exact h
theorem st_ix3 (h : Q d S) : vIx (.tup (a :: b :: c :: d :: xs)) (.int 3) S Q := by rw [vIx_tup, atI_3]; exact h
theorem st_ix4 (h : Q e S) : vIx (.tup (a :: b :: c :: d :: e :: xs)) (.int 4) S Q := by rw [vIx_tup, atI_4]; exact h
theorem st_lx0 (h : Q a S) : vIx (.lst (a :: xs)) (.int 0) S Q := by rw [vIx_lst, atI_0]; exact h
theorem st_lx1 (h : Q b S) : vIx (.lst (a :: b :: xs)) (.int 1) S Q := by rw [vIx_lst, atI_1]; exact h
theorem st_lx2 (h : Q c S) : vIx (.lst (a :: b :: c :: xs)) (.int 2) S Q := by rw [vIx_lst, atI_2]; exact h
theorem st_lx3 (h : Q d S) : vIx (.lst (a :: b :: c :: d :: xs)) (.int 3) S Q := by rw [vIx_lst, atI_3]; exact h
theorem st_len_p (h : Q (.int (p.length : Nat)) S) : vLen [.tup (p.map .int)] S Q := by rw [vLen_tup, List.length_map]; exact h
theorem st_len_lp (h : Q (.int (p.length : Nat)) S) : vLen [.lst (p.map .int)] S Q := by rw [vLen_lst, List.length_map]; exact h
theorem st_len_rp (h : Q (.int (p.length : Nat)) S) : vLen [.ro (p.map .int)] S Q := by rw [vLen_ro, List.length_map]; exact h
theorem st_len_t (h : Q (.int (ds.length : Nat)) S) : vLen [.tup ds] S Q := h
theorem st_len_l (h : Q (.int (ds.length : Nat)) S) : vLen [.lst ds] S Q := h
theorem st_len_s (h1 : s.length ≤ sizeLine) (h : Q (.int (s.length : Nat)) S) : vLen [.str s] S Q := ⟨h1, h⟩
theorem st_add (h : Q (.int (i + j)) S) : vAdd (.int i) (.int j) S Q := h
theorem st_sub (h : Q (.int (i - j)) S) : vSub (.int i) (.int j) S Q := h
theorem st_iadd (h : Q (.int (i + j)) S) : vIadd (.int i) (.int j) S Q := h
theorem st_neg (h : Q (.int (-i)) S) : vNeg (.int i) S Q := h
theorem st_mod (h1 : 0 < j) (h : Q (.int (i % j)) S) : vMod (.int i) (.int j) S Q := ⟨h1, h⟩
theorem st_div (h1 : 0 < j ∧ j < 1073741824) (h : Q (.int (i / j)) S) : vDiv (.int i) (.int j) S Q := ⟨h1, h⟩
theorem st_mul (h1 : -(2 ^ 64) < i ∧ i < 2 ^ 64) (h : Q (.int (i * j)) S) : vMul (.int i) (.int j) S Q := ⟨.inl (.inl h1), h⟩
theorem st_mul' (h1 : -(2 ^ 64) < j ∧ j < 2 ^ 64) (h : Q (.int (i * j)) S) : vMul (.int i) (.int j) S Q := ⟨.inl (.inr h1), h⟩
theorem st_add_pp (h1 : p.length + q.length ≤ sizeLine) (h : Q (.tup ((p ++ q).map .int)) S) : vAdd (.tup (p.map .int)) (.tup (q.map .int)) S Q := by
  rw [vAdd_tup, List.length_map, List.length_map, ← List.map_append]; exact ⟨h1, h⟩
theorem st_add_p1 (h1 : p.length + 1 ≤ sizeLine) (h : Q (.tup ((p ++ [i]).map .int)) S) : vAdd (.tup (p.map .int)) (.tup [.int i]) S Q := by
  rw [vAdd_tup, List.length_map, show [D.int i] = [i].map .int from rfl, ← List.map_append]; exact ⟨h1, h⟩
theorem st_add_1p (h1 : 1 + p.length ≤ sizeLine) (h : Q (.tup ((i :: p).map .int)) S) : vAdd (.tup [.int i]) (.tup (p.map .int)) S Q := by
  rw [vAdd_tup, List.length_map]; exact ⟨h1, h⟩
theorem st_add_t (h1 : xs.length + ys.length ≤ sizeLine) (h : Q (.tup (xs ++ ys)) S) : vAdd (.tup xs) (.tup ys) S Q := ⟨h1, h⟩
theorem st_add_l (h1 : xs.length + ys.length ≤ sizeLine) (h : Q (.lst (xs ++ ys)) S) : vAdd (.lst xs) (.lst ys) S Q := ⟨h1, h⟩
theorem st_add_s (h1 : s.length + t.length ≤ sizeLine) (h : Q (.str (s ++ t)) S) : vAdd (.str s) (.str t) S Q := ⟨h1, h⟩
theorem st_lt (h : Q (.bl (decide (i < j))) S) : vLt (.int i) (.int j) S Q := h
theorem st_le (h : Q (.bl (decide (i ≤ j))) S) : vLe (.int i) (.int j) S Q := h
theorem st_gt (h : Q (.bl (decide (j < i))) S) : vGt (.int i) (.int j) S Q := h
theorem st_ge (h : Q (.bl (decide (j ≤ i))) S) : vGe (.int i) (.int j) S Q := h
theorem st_eqi (h : Q (.bl (decide (i = j))) S) : vEq (.int i) (.int j) S Q := h
theorem st_nei (h : Q (.bl (!decide (i = j))) S) : vNe (.int i) (.int j) S Q := h
theorem st_eqs (h : Q (.bl (decide (s = t))) S) : vEq (.str s) (.str t) S Q := h
theorem st_nes (h : Q (.bl (!decide (s = t))) S) : vNe (.str s) (.str t) S Q := h
theorem st_eqb (h : Q (.bl (decide (u = v))) S) : vEq (.bl u) (.bl v) S Q := h
theorem st_isn_non (h : Q (.bl true) S) : vIs .non .non S Q := h
theorem st_isn_int (h : Q (.bl false) S) : vIs (.int i) .non S Q := h
theorem st_isn_tup (h : Q (.bl false) S) : vIs (.tup ds) .non S Q := h
theorem st_isn_str (h : Q (.bl false) S) : vIs (.str s) .non S Q := h
theorem st_isn_bl (h : Q (.bl false) S) : vIs (.bl u) .non S Q := h
theorem st_isnt_non (h : Q (.bl false) S) : vIsNot .non .non S Q := h
theorem st_isnt_int (h : Q (.bl true) S) : vIsNot (.int i) .non S Q := h
theorem st_isnt_tup (h : Q (.bl true) S) : vIsNot (.tup ds) .non S Q := h
theorem st_isnt_str (h : Q (.bl true) S) : vIsNot (.str s) .non S Q := h
theorem st_int (h : Q (.int i) S) : vInt [.int i] S Q := h
theorem st_intb (h : Q (.int (if u then 1 else 0)) S) : vInt [.bl u] S Q := h
theorem st_abs (h : Q (.int (if i < 0 then -i else i)) S) : vAbs [.int i] S Q := h
theorem st_min2 (h : Q (.int (if j < i then j else i)) S) : vMin2 [.int i, .int j] S Q := h
theorem st_max2 (h : Q (.int (if j > i then j else i)) S) : vMax2 [.int i, .int j] S Q := h
theorem st_tup_l (h : Q (.tup ds) S) : vTuple [.lst ds] S Q := h
theorem st_tup_t (h : Q (.tup ds) S) : vTuple [.tup ds] S Q := h
theorem st_lst_t (h : Q (.lst ds) S) : vList [.tup ds] S Q := h
theorem st_lst_l (h : Q (.lst ds) S) : vList [.lst ds] S Q := h
theorem st_sl_from (h : Q (.tup ((p.drop k).map .int)) S) : vSl (.tup (p.map .int)) (some (k : Int)) none S Q := by
  rw [vSl_tup, cut_from, ← List.map_drop]; exact h
theorem st_sl_to (h : Q (.tup ((p.take k).map .int)) S) : vSl (.tup (p.map .int)) none (some (k : Int)) S Q := by
  rw [vSl_tup, cut_to, ← List.map_take]; exact h
theorem st_iteT (h : X) : if true = true then X else Y := by rw [if_pos rfl]; exact h
theorem st_iteF (h : Y) : if false = true then X else Y := by rw [if_neg Bool.false_ne_true]; exact h
theorem st_dT {C : Prop} [Decidable C] (hc : C) (h : X) : if decide C = true then X else Y := by rw [if_pos (decide_eq_true hc)]; exact h
theorem st_dF {C : Prop} [Decidable C] (hc : ¬ C) (h : Y) : if decide C = true then X else Y := by rw [if_neg (by simpa using hc)]; exact h
theorem st_not {b : Bool} (h : if b = true then Y else X) : if (!b) = true then X else Y := by
  cases b <;> simpa using h
theorem st_isi {b : Bool} (h1 : isiT x n = some b) (h : Q (.bl b) S) : vIsi [x, .ty n] S Q := by
  rw [vIsi_x, h1]
  show Q (.bl ([b].all id)) S
  rw [all1]; exact h
theorem st_all {bs : List Bool} (h : Q (.bl (bs.all id)) S) : vAll [.lst (bs.map .bl)] S Q := by
  rw [vAll_x, seqOf_lst]; simp only [Option.bind_some, asBls_map]; exact h
end
end L3

set_option Elab.async false
set_option maxRecDepth 100000
set_option linter.all false
set_option maxHeartbeats 2000000
namespace L3
open PySem PySem.Spec PyProof.Rows L2
/-! ### exceptions: what a def may let out -/
abbrev DXK := Str → List (Str × D) → Sto → Prop
abbrev DWX := Str → List (Str × D) → DSt → Sto → Prop
abbrev CTab := Str → Addr
abbrev DSpX := List D → Sto → DK → DXK → Prop
/-- fields that may be read of an exception -/
structure ExF (K : PySem.W.Frag) (ct : CTab) (x : Str) (fs : List (Str × D)) : Prop where
  X : XfC K (ct x)
  no : ∀ n d, (n, d) ∈ fs → PySem.W.findIn K (.ref (ct x)) n = some none
/-- the wish of an exception: its class by its name, its fields -/
def WD {K : PySem.W.Frag} (Γ : KG K) (ct : CTab) (PX : DWX) : WX := fun cls d σ H => ∃ F δ S x fs vs dd, Sim Γ F S H ∧ RelS K (fz F S H) σ δ ∧ cls = .ref (ct x) ∧ d = some dd ∧ fz F S H dd = some (.xd vs) ∧ RelF K (fz F S H) vs fs ∧ ExF K ct x fs ∧ PX x fs δ S
def CtX (K : PySem.W.Frag) (ct : CTab) (F : Addr → Bool) (S : Sto) (H : Hp) (PX : DXK) (E : XK) : Prop := ∀ x fs S', PX x fs S' → ∀ vs dd H', GoB K F S H S' H' → fz F S' H' dd = some (.xd vs) → RelF K (fz F S' H') vs fs → ExF K ct x fs → E (.ref (ct x)) (some dd) H'
def lfSpX (K : PySem.W.Frag) (ct : CTab) (sp : DSpX) : Sp := fun vs H Q E => ∃ F ds S P PX, Sim (KG.top K) F S H ∧ RelL K (fz F S H) vs ds ∧ sp ds S P PX ∧ Ct (KG.top K) F S H P Q ∧ CtX K ct F S H PX E
abbrev FnX (P : Program) (w : World) (K : PySem.W.Frag) (mg : Str → Option Value) (base : Heap) (ct : CTab) (k : Nat) (f : Addr) (fd : FuncData) (ps : List Str) (sp : DSpX) : Prop := FnOk P w K mg base (L2.CX P w) k f fd ps (lfSpX K ct sp)
/-- every step since the def's begin -/
def KG.start (K : PySem.W.Frag) (F0 : Addr → Bool) (S0 : Sto) (H0 : Hp) : KG K where
  ok := fun F S H => (∀ a, F0 a = true → F a = true) ∧ ∀ H' : Hp, (∀ a, F a = false ∨ F0 a = true → H' a = H a) → (∀ a, F a = true → ∃ o, H' a = some o) → GoB K F0 S0 H0 S H'
  step := fun {F S H S' H'} s ⟨sub, h⟩ g => by
    refine ⟨sub, fun H2 a1 a2 => ?_⟩
    have e1 : ∀ a, F a = false ∨ F0 a = true → (if F a && !F0 a then H2 a else H a) = H a := fun a q => by
      rcases q with q | q <;> simp [q]
    have g1 := h (fun a => if F a && !F0 a then H2 a else H a) e1 (fun a q => by
      cases z : F0 a with
      | true => simpa [z] using s.hid a q
      | false => simpa [z, q] using a2 a q)
    have sm : SimB K F0 S' H2 := by
      refine ⟨fun a o q => ?_, fun a q => a2 a (sub a q)⟩
      obtain ⟨f0, k⟩ := g.sim.at_ a o q
      refine ⟨?_, ?_⟩
      · cases z : F0 a with
        | false => rfl
        | true => rw [sub a z] at f0; cases f0
      · rw [a1 a (.inl f0)]
        refine k.mono fun b x e => ?_
        obtain ⟨h0, h1, h2⟩ := fz_of e
        have z : F0 b = false := by
          cases z : F0 b with
          | false => rfl
          | true => rw [sub b z] at h0; cases h0
        rw [fz_none z h1, a1 b (.inl h0)]
        exact h2
    refine g1.trans ⟨fun b x e => ?_, fun a q => ?_, sm⟩
    · obtain ⟨h0, h1, h2⟩ := fz_of e
      cases z : F b with
      | true =>
        simp only [z, h0, Bool.not_false, Bool.and_self, if_true] at h2
        rw [fz_none h0 ?_]
        · exact h2
        · cases q : S' b with
          | none => rfl
          | some o =>
            have := (g.sim.at_ b o q).1
            rw [z] at this; cases this
      | false =>
        simp only [z, Bool.false_and, Bool.false_eq_true, if_false] at h2
        obtain ⟨_, q1, q2⟩ := fz_of (g.same b x (by rw [fz_none z h1]; exact h2))
        rw [fz_none h0 q1, a1 b (.inl z)]
        exact q2
    · show H2 a = _
      rw [e1 a (.inr q), a1 a (.inr q)]
      exact g.hid a (sub a q)
  new := fun {F S H p o} s ⟨sub, h⟩ hp => by
    have fp : F p = false := (s.none hp).1
    have f0 : F0 p = false := by
      cases z : F0 p with
      | false => rfl
      | true => rw [sub p z] at fp; cases fp
    have up : ∀ a, a ≠ p → hide F p a = F a := fun a z => by simp [hide, z]
    have pp : hide F p p = true := by simp [hide]
    refine ⟨fun a q => ?_, fun H2 a1 a2 => ?_⟩
    · by_cases z : a = p
      · subst z; exact pp
      · rw [up a z]; exact sub a q
    · have g1 := h (fun a => if a = p then none else H2 a) (fun a q => by
        by_cases z : a = p
        · subst z; simp [hp]
        · simp only [z, if_false]
          rw [a1 a (by rw [up a z]; exact q), upd_ne z]) (fun a q => by
        have z : a ≠ p := fun z => by subst z; rw [fp] at q; cases q
        simp only [z, if_false]
        exact a2 a (by rw [up a z]; exact q))
      obtain ⟨x, hx⟩ := a2 p pp
      have e : H2 = upd (fun a => if a = p then none else H2 a) p x := by
        funext a
        by_cases z : a = p
        · subst z; rw [upd_same, hx]
        · rw [upd_ne z]; simp [z]
      rw [e]
      exact g1.trans (g1.sim.new (by simp))
  put := fun {F S H p o S1 H1} ⟨sub, _⟩ fp s ⟨sub2, h⟩ => by
    refine ⟨sub2, fun H2 a1 a2 => h H2 (fun a q => ?_) a2⟩
    have z : a ≠ p := fun z => by
      subst z
      rcases q with q | q
      · simp [hide] at q
      · rw [sub a q] at fp; cases fp
    rw [a1 a q, upd_ne z]
theorem KG.start_here {K : PySem.W.Frag} {F : Addr → Bool} {S : Sto} {H : Hp} (s : SimB K F S H) : Sim (KG.start K F S H) F S H := ⟨s, fun _ q => q, fun H' a1 a2 => by
  have e : H' = H := by
    funext a
    cases z : F a with
    | false => exact a1 a (.inl z)
    | true => exact a1 a (.inr z)
  rw [e]
  exact ⟨Same.refl _, fun _ _ => rfl, s⟩⟩
theorem KG.start_go {K : PySem.W.Frag} {F F' : Addr → Bool} {S S' : Sto} {H H' : Hp} (s : Sim (KG.start K F S H) F' S' H') : GoB K F S H S' H' ∧ Same (fz F' S' H') (fz F S' H') := by
  obtain ⟨sub, h⟩ := s.knows
  refine ⟨h H' (fun _ _ => rfl) s.hid, fun b x e => ?_⟩
  obtain ⟨h0, h1, h2⟩ := fz_of e
  rw [fz_none ?_ h1]
  · exact h2
  · cases z : F b with
    | false => rfl
    | true => rw [sub b z] at h0; cases h0
/-- of a caught exception the fields -/
def KG.exc {K : PySem.W.Frag} (Γ : KG K) (dd : Addr) (fs : List (Str × D)) : KG K where
  ok := fun F S H => Γ.ok F S H ∧ ∃ vs, fz F S H dd = some (.xd vs) ∧ RelF K (fz F S H) vs fs
  step := fun s ⟨a, vs, e, r⟩ g => ⟨Γ.step s a g, vs, g.same _ _ e, r.mono g.same⟩
  new := fun s ⟨a, vs, e, r⟩ hp => ⟨Γ.new s a hp, vs, fz_hide_new hp _ _ e, r.mono (fz_hide_new hp)⟩
  put := fun ⟨a0, _⟩ f s ⟨a, vs, e, r⟩ => ⟨Γ.put a0 f s a, vs, by rw [fz_hide_upd]; exact e, by rw [fz_hide_upd]; exact r⟩
theorem KG.exc_sim {K : PySem.W.Frag} {Γ : KG K} {dd : Addr} {fs : List (Str × D)} {F : Addr → Bool} {S : Sto} {H : Hp} (s : Sim (Γ.exc dd fs) F S H) : Sim Γ F S H := ⟨s.toSimB, s.knows.1⟩
theorem KG.exc_go {K : PySem.W.Frag} {Γ : KG K} {dd : Addr} {fs : List (Str × D)} {F : Addr → Bool} {S S' : Sto} {H H' : Hp} (g : Go (Γ.exc dd fs) F S H S' H') : Go Γ F S H S' H' := ⟨g.same, g.hid, KG.exc_sim g.sim⟩
section
variable {P : Program} {w : World} {K : PySem.W.Frag} {mg : Str → Option Value} {base : Heap} {ct : CTab}
theorem takes_cx {N : List Str} {qual : Str} {sc : Scope} {f : Addr} {cdv : Value} {A : Around} {outer : List Env} {s : Shared} {H : Hp} {E : XK} : Takes (cxOf (L2.CX P w) P w K mg base N qual sc f cdv A outer s H E) (fun cls d _ H' => E cls d H') := takes_of rfl rfl rfl rfl
/-- a def that may raise: its derivation, its reading -/
theorem FnX.mk {x qual : Str} {st : Stmt} {f : Addr} {fd : FuncData} {N ps : List Str} {k : Nat} {sp : DSpX} {t : DWX → DTS} (Fn : Fun K x qual st f fd) (Sc : FnScope N ps (defScope st)) (len : ∀ ds S P PX, sp ds S P PX → ds.length = ps.length)
    (hb : ∀ (cdv : Value) (A : Around) (outer : List Env) (s : Shared) (H : Hp) (E : XK) (Γ : KG K) (PX : DWX), Room k (A.deeper (envOfC qual (defScope st) s.heap.objs.size f cdv)) → Takes (cxOf (L2.CX P w) P w K mg base N qual (defScope st) f cdv A outer s H E) (WD Γ ct PX) →
      DPSs (cxOf (L2.CX P w) P w K mg base N qual (defScope st) f cdv A outer s H E) Γ (defBody st) (t PX))
    (hread : ∀ ds S P PX, sp ds S P PX → t (fun x fs _ S' => PX x fs S') (DEnds.of P) (dstart N ds) S) : FnX P w K mg base ct (k + 1) f fd ps sp := by
  refine Fn.okX Sc (fun vs H Q E ⟨F, ds, S, P, PX, sm, rl, h, c, cx⟩ => by rw [rl.length]; exact len _ _ _ _ h) fun cdv A outer s H vs Q E hr ⟨F, ds, S, P, PX, sm, rl, h, c, cx⟩ => ?_
  have hle : ps.length ≤ N.length := by
    have := congrArg List.length Sc.pre
    rw [List.length_take] at this
    omega
  have s0 := KG.start_here sm.toSimB
  have c0 : Ct (KG.start K F S H) F S H P Q := fun d S' q v H' g r => c d S' q v H' (.of sm g.b) r
  refine ⟨_, hb cdv A outer s H E (KG.start K F S H) (fun x fs _ S' => PX x fs S') hr (takes_cx.imp fun cls d σ H' ⟨F', δ, S', x, fs, vs, dd, sm', rs, e1, e2, e3, rf, xf, q⟩ => ?_),
    F, dstart N ds, S, _, s0, rels_start rl (by rw [len _ _ _ _ h]; exact hle), hread ds S P PX h, ⟨fun δ' S' h' σ' H' g rs' => ?_, c0.fin s0, fun _ _ q => q.elim, fun _ _ q => q.elim⟩⟩
  · subst e1 e2
    obtain ⟨g, k⟩ := KG.start_go sm'
    exact cx x fs S' q vs dd H' g (k _ _ e3) (rf.mono k) xf
  · exact c0.fin s0 _ _ h' _ _ g .non
end
/-! ### a call that may let something out -/
abbrev dCallX (sp : DSpX) (PX : DWX) (t : DTA) : DTE := fun δ S Q => t δ S fun ds S1 => sp ds S1 Q fun x fs S2 => PX x fs δ S2
section
variable {X : Cx} {Γ : KG X.K} {ct : CTab} {PX : DWX} {k : Nat} {f : Addr} {fd : FuncData} {ps : List Str} {sp : DSpX} {x : Str} {p pos : Pos} {e : Expr} {es : List Expr} {t : DTA}
theorem dpe_callX (F : FnX X.prog X.w X.K X.mg X.base ct k f fd ps sp) (tk : Takes X (WD Γ ct PX)) (hr : Room k X.A) (hg : Gl X x) (hm : X.mg x = some (.ref f)) (hk : PySem.W.keepIn X.K (.ref f) = true) (hb : Binds X.K fd ps [])
    (ha : DPA X Γ (e :: es) t) (hdb : (x == ("__debug__" : Str)) = false := by decide) (he : starEach (e :: es) X.env = (false, eval e X.env) :: starEach es X.env := by rfl) (hpl : (backTo pos (starEach es X.env)).any (·.1) = false := by rfl) :
    DPE X Γ (.Call (.Name x p) (e :: es) [] pos) (dCallX sp PX t) :=
  PEw (pe_callS (E := WE (WD Γ ct PX)) F hr hg hm hk hb (fun σ => passAt tk σ) ha hdb he hpl) fun σ H Q ⟨F, δ, S, P, sm, rs, h, c⟩ => ⟨F, δ, S, _, sm, rs, h, fun ds S1 h1 vs H1 g1 r1 =>
    ⟨F, ds, S1, P, _, g1.sim.top, r1, h1, (c.mono g1).top g1.sim, fun y fs S2 q ws dd H2 g2 e2 r2 xf =>
      have g2' : Go Γ F S1 H1 S2 H2 := .of g1.sim g2
      ⟨F, δ, S2, y, fs, ws, dd, g2'.sim, (rs.mono g1.same).mono g2'.same, rfl, rfl, e2, r2, xf, q⟩⟩⟩
end
/-! ### raise C(..) -/
theorem RelF.append {K : PySem.W.Frag} {G : Hp} {κ : Type} : ∀ {a b : List (κ × V)} {c d : List (κ × D)}, RelF K G a c → RelF K G b d → RelF K G (a ++ b) (c ++ d)
  | _, _, _, _, .nil, s => s
  | _, _, _, _, .cons r t, s => .cons r (RelF.append t s)
theorem RelF.zip {K : PySem.W.Frag} {G : Hp} : ∀ {ns : List Str} {vs : List V} {ds : List D}, RelL K G vs ds → RelF K G (ns.zip vs) (ns.zip ds)
  | [], _, _, _ => .nil
  | _ :: _, _, _, .nil => .nil
  | _ :: _, _, _, .cons r t => .cons r (RelF.zip t)
theorem RelF.rev {K : PySem.W.Frag} {G : Hp} {κ : Type} : ∀ {a : List (κ × V)} {c : List (κ × D)}, RelF K G a c → RelF K G a.reverse c.reverse
  | _, _, .nil => .nil
  | _, _, .cons r t => by
    rw [List.reverse_cons, List.reverse_cons]
    exact RelF.append (RelF.rev t) (.cons r .nil)
theorem RelF.lookup {K : PySem.W.Frag} {G : Hp} {f : Str} {d : D} : ∀ {a : List (Str × V)} {c : List (Str × D)}, RelF K G a c → c.lookup f = some d → ∃ v, a.lookup f = some v ∧ Rel K G v d
  | _, _, .nil, e => by cases e
  | (g, v) :: a, (_, d') :: c, .cons r t, e => by
    rw [List.lookup_cons] at e ⊢
    split at e
    · rename_i z
      cases e
      exact ⟨v, by simp [z], r⟩
    · rename_i z
      obtain ⟨w, h1, h2⟩ := RelF.lookup t e
      exact ⟨w, by simp [z, h1], h2⟩
/-- an __init__ that notes its arguments -/
def spInit (C : Addr) (ns : List Str) : Sp := fun vs H Q _ => ∃ (a : Addr) (ws : List V), vs = .ref a :: ws ∧ ws.length = ns.length ∧ H a = some (exo a C none) ∧ ∀ d, H d = none → d ≠ a → Q .non (upd (upd H d (exd d (ns.zip ws).reverse)) a (exo a C (some d)))
abbrev dRaise (x : Str) (ns : List Str) (PX : DWX) (t : DTA) : DTS := fun _ δ S => t δ S fun ds S1 => ds.length = ns.length ∧ ds.length ≤ 1000 ∧ PX x (ns.zip ds).reverse δ S1
/-- what a class of exceptions is to be -/
structure ExcC (P : Program) (w : World) (K : PySem.W.Frag) (mg : Str → Option Value) (base : Heap) (ct : CTab) (x : Str) (ns : List Str) : Prop where
  T : OexC K (ct x)
  X : XfC K (ct x)
  gC : mg x = some (.ref (ct x))
  no : ∀ n ∈ ns, PySem.W.findIn K (.ref (ct x)) n = some none
  ini : ∃ fI fd, PySem.W.findIn K (.ref (ct x)) "__init__" = some (some (.ref fI)) ∧ PySem.W.typeIn K (.ref fI) = some (.type "function") ∧ Binds K fd ("self" :: ns) [] ∧ FnOk P w K mg base CX0 1 fI fd ("self" :: ns) (spInit (ct x) ns)
section
variable {X : Cx} {Γ : KG X.K} {ct : CTab} {PX : DWX} {x : Str} {ns : List Str} {p pos pos2 : Pos} {e : Expr} {es : List Expr} {t : DTA}
theorem dps_raise (C : ExcC X.prog X.w X.K X.mg X.base ct x ns) (hc : X.calm = true) (tk : Takes X (WD Γ ct PX)) (hr : Room 2 X.A) (hg : Gl X x) (ha : DPA X Γ (e :: es) t)
    (hdb : (x == ("__debug__" : Str)) = false := by decide) (he : starEach (e :: es) X.env = (false, eval e X.env) :: starEach es X.env := by rfl) (hpl : (backTo pos (starEach es X.env)).any (·.1) = false := by rfl) :
    DPS X Γ (.Raise (some (.Call (.Name x p) (e :: es) [] pos)) none pos2) (dRaise x ns PX t) := by
  obtain ⟨fI, fd, h1, h2, h3, h4⟩ := C.ini
  refine PSw (ps_raise hc tk (pmk_oex (dvs := []) C.T h1 h2 h4 hr h3 .nil (by exact pass0) hg C.gC ha hdb he hpl)) fun D σ H ⟨F, δ, S, P, sm, rs, h, c⟩ => ?_
  refine ⟨F, δ, S, _, sm, rs, h, fun ds S1 ⟨q1, q2, q3⟩ vs H1 g1 r1 => ⟨by rw [r1.length]; exact q2, fun a ha => ?_⟩⟩
  refine ⟨a, vs, by rw [List.append_nil], by rw [r1.length]; exact q1, upd_same, fun d hd hda => ⟨rfl, d, (ns.zip vs).reverse, upd_same, by rw [upd_ne hda]; exact upd_same, ?_, ?_⟩⟩
  · rw [upd_ne hda] at hd
    exact hd
  · have hd1 : H1 d = none := by
      rw [upd_ne hda] at hd
      exact hd
    have e : upd (del (upd (upd (upd H1 a (exo a (ct x) none)) d (exd d (ns.zip vs).reverse)) a (exo a (ct x) (some d))) a) d (.xd (ns.zip vs).reverse) = upd H1 d (.xd (ns.zip vs).reverse) := by
      funext b
      by_cases z : b = d
      · subst z; rw [upd_same, upd_same]
      · rw [upd_ne z, upd_ne z]
        by_cases y : b = a
        · subst y; rw [del_same, ha]
        · rw [del_ne y, upd_ne y, upd_ne z, upd_ne y]
    rw [e]
    have g2 : Go Γ F S1 H1 S1 (upd H1 d (.xd (ns.zip vs).reverse)) := g1.sim.new hd1
    exact ⟨F, δ, S1, x, (ns.zip ds).reverse, _, d, g2.sim, (rs.mono g1.same).mono g2.same, rfl, rfl, fz_new g1.sim hd1, RelF.rev (RelF.zip (r1.mono g2.same)), ⟨C.X, fun n d m => C.no n (List.of_mem_zip (List.mem_reverse.mp m)).1⟩, q3⟩
end
end L3

set_option Elab.async false
set_option maxRecDepth 100000
set_option linter.all false
set_option maxHeartbeats 2000000
namespace L3
open PySem PySem.Spec PyProof.Rows L2
/-! ### try with any clauses, each with or without a name -/
abbrev Suite := Addr → Value → Option Addr → TS
/-- the ends of a named clause: the name is gone behind it -/
abbrev goneE : Option Nat → Ends → Ends
  | none, D => D
  | some i, D => { nx := fun σ' H' => D.nx (σ'.set i none) H', rt := D.rt, bk := fun σ' H' => D.bk (σ'.set i none) H', ct := fun σ' H' => D.ct (σ'.set i none) H' }
abbrev heldS : Option Nat → Addr → L2.St → L2.St
  | none, _, σ => σ
  | some i, a, σ => σ.set i (some (.ref a))
def wMix (K : PySem.W.Frag) (W0 : WX) (D : Ends) : List (Value × Option Nat × Suite) → WX
  | [] => W0
  | (c, o, ts) :: r => fun cl dd τ G => ∃ k, PySem.W.exmOne K cl c = some k ∧ (k = true → ∀ p, G p = none → ts p cl dd (goneE o D) (heldS o p τ) G) ∧ (k = false → wMix K W0 D r cl dd τ G)
/-- a clause's name and slot -/
def SlotOk (X : Cx) : Option Str → Option Nat → Prop
  | none, none => True
  | some n, some i => X.N.Nodup ∧ X.N[i]? = some n ∧ X.env.kindOf n = some .local
  | _, _ => False
inductive HMix (X : Cx) : List ExceptHandler → List (Value × Option Nat × Suite) → Prop
  | nil : HMix X [] []
  | cons {y : Str} {c : Value} {on : Option Str} {o : Option Nat} {ts : Suite} {b : Stmt} {bs : List Stmt} {p1 p2 : Pos} {hr : List ExceptHandler} {lr : List (Value × Option Nat × Suite)} (nm : Names X y c) (sl : SlotOk X on o)
      (su : ∀ (p : Addr) (ob : Obj) (cl : Value) (dd : Option Addr) (pn : List (Addr × Obj)), Zc cl dd ob → (∃ ws, ob.data = .fields ws) → PSs (X.suite p ((p, ob) :: pn)) (b :: bs) (ts p cl dd)) (r : HMix X hr lr) :
      HMix X (.ExceptHandler (some (.Name y p1)) on (b :: bs) p2 :: hr) ((c, o, ts) :: lr)
section
variable {X : Cx} {pins : List (Addr × Obj)} {D : Ends} {W0 : WX}
/-- a suite's end is the clause's end -/
theorem suite_end {p : Addr} {q : Addr × Obj} {pn : List (Addr × Obj)} {fl : Flow} {s : Shared} (ok : X.Ok) (e : SP (X.suite p (q :: (X.pn ++ pins))) [] D fl s) : SP X pins D fl s := by
  cases fl with
  | next => obtain ⟨τ, G, I, z⟩ := e; exact ⟨τ, G, I.unsuite ok, z⟩
  | brk => obtain ⟨τ, G, I, z⟩ := e; exact ⟨τ, G, I.unsuite ok, z⟩
  | cont => obtain ⟨τ, G, I, z⟩ := e; exact ⟨τ, G, I.unsuite ok, z⟩
  | ret u => obtain ⟨v, τ, G, I, r, z⟩ := e; exact ⟨v, τ, G, I.unsuite ok, r, z⟩
theorem suite_end_as {p : Addr} {q : Addr × Obj} {i : Nat} {n : Str} {pos : Pos} {fl : Flow} {s : Shared} (ok : X.Ok) (hN : X.N.Nodup) (hi : X.N[i]? = some n) (hl : X.env.kindOf n = some .local)
    (e : SP (X.suite p (q :: (X.pn ++ pins))) [] (goneE (some i) D) fl s) : wpAny (model X.prog X.w) X.A (do bindName X.env n .none; unbindBehindTheSuite X.env n pos) (fun _ s7 => SP X pins D fl s7) X.xe s := by
  cases fl with
  | next => obtain ⟨τ, G, I, z⟩ := e; exact gone_ok (I.unsuite ok) hN hi hl fun s7 J => ⟨_, _, J, z⟩
  | brk => obtain ⟨τ, G, I, z⟩ := e; exact gone_ok (I.unsuite ok) hN hi hl fun s7 J => ⟨_, _, J, z⟩
  | cont => obtain ⟨τ, G, I, z⟩ := e; exact gone_ok (I.unsuite ok) hN hi hl fun s7 J => ⟨_, _, J, z⟩
  | ret u => obtain ⟨v, τ, G, I, r, z⟩ := e; exact gone_ok (I.unsuite ok) hN hi hl fun s7 J => ⟨_, _, _, J, r, z⟩
/-- an exception that has come to the clauses -/
structure AtHand (X : Cx) (pins : List (Addr × Obj)) (B : Heap) (p : Addr) (cl : Value) (dd : Option Addr) (τ : L2.St) (G : Hp) (W0 : WX) (s : Shared) (h : Heap) : Prop where
  fly : HandSPX.FlyingZ B (X.env :: X.outer) p (Zc cl dd) h
  inv : ∀ h', B.StaysIn h' → h.UpToSlots h' → Inv X pins τ G { s with heap := h' }
  here : Inv X pins τ G { s with heap := h }
  free : G p = none
  notL : p ≠ X.env.locals
  notF : p ∉ X.fs
  out : W0 cl dd τ G → ∀ h', HandSPX.HeldZ B (X.env :: X.outer) p (Zc cl dd) X.env.locals h' → h.UpToSlots h' → X.xe (.ref p) { s with heap := h' }
theorem mix_run (hf : X.env.frame = some X.env.locals) (ok : X.Ok) {B : Heap} {p : Addr} {cl : Value} {dd : Option Addr} {τ : L2.St} {G : Hp} {s : Shared} {h : Heap} (A : AtHand X pins B p cl dd τ G W0 s h) :
    ∀ {hs : List ExceptHandler} {l : List (Value × Option Nat × Suite)}, HMix X hs l → wMix X.K W0 D l cl dd τ G → wpAny (model X.prog X.w) X.A (handleBy (.ref p) X.env hs) (SP X pins D) X.xe { s with heap := h }
  | _, _, .nil, w => by
    refine wpAny_handleBy_nil ?_
    obtain ⟨_, _, _, oe, vs, T, _, _, he, _, hd, h1, _⟩ := id A.fly
    unfold PySem.passOn
    refine wpAny_bind (wpAny_field he hd h1 ?_)
    rw [if_neg (show ¬ ((Value.ref T == Value.none) = true) by simp)]
    have last : wpAny (model X.prog X.w) X.A (setFlight (.ref p) X.env.frame) (fun _ t => wpAny (model X.prog X.w) X.A (throw (.ref p) : Sem Flow) (SP X pins D) X.xe t) X.xe { s with heap := h } := by
      rw [hf]
      exact HandSPX.setFlight_upZ A.fly fun h' held up => wpAny_throw (A.out w h' held up)
    first
      | exact wpAny_bind (wpAny_pure (wpAny_bind last))
      | exact wpAny_bind last
  | _, _, .cons (y := y) (c := c) (on := on) (o := o) (ts := ts) (b := b) (bs := bs) (p1 := p1) (p2 := p2) nm sl su r, w => by
    obtain ⟨k, hk, yes, no⟩ := w
    obtain ⟨ob, ws, hob, hz, hdat⟩ := A.fly.there
    have look := PySem.W.exm_one (M := model X.prog X.w) A.here.kIn (fun A' Q E t kk q => wpAny_typeOf_ref (kk _ _ hob) (by rw [hz.1]; exact q)) hk
    have I0 := A.here.suite hob hdat A.free A.notL A.notF
    refine wpAny_handleBy_cons (codeAny_handlers_test ?_) (fun q => by cases q)
    have named : ∀ {Q : Value → Shared → Prop} {E : Value → Shared → Prop}, Q c { s with heap := h } → wpAny (model X.prog X.w) (X.A.mark (some (.ref p))) (eval (.Name y p1) X.env) Q E { s with heap := h } := fun {Q E} q => by
      rcases nm with ⟨g1, g2, g3 | ⟨g3, g4, g5⟩⟩
      · exact ld_glob (X := X.suite p ((p, ob) :: (X.pn ++ pins))) I0 g1 g3 q g2
      · exact ld_blt (X := X.suite p ((p, ob) :: (X.pn ++ pins))) I0 g1 g3 g4 q g5 g2
    refine named (look.here ?_)
    cases k with
    | false =>
      show wpAny _ X.A (handleBy (.ref p) X.env _) _ _ _
      exact mix_run hf ok A r (no rfl)
    | true =>
      cases on with
      | none =>
        cases o with
        | some i => exact (sl : False).elim
        | none =>
          refine codeAny_handlers_suite (HandSPX.lands_againZ A.fly fun h4 fl4 up4 => ?_)
          obtain ⟨ob4, ws4, hob4, hz4, hd4⟩ := fl4.there
          have I4 := (A.inv h4 fl4.1 up4).suite hob4 hd4 A.free A.notL A.notF
          exact wpAny_mono ((su p ob4 cl dd (X.pn ++ pins) hz4 ⟨_, hd4⟩).run [] _ _ G _ I4 (yes rfl p A.free)) (fun fl t e => suite_end (pn := []) ok e) fun _ _ z => z.elim
      | some n =>
        cases o with
        | none => exact (sl : False).elim
        | some i =>
          obtain ⟨hN, hi, hl⟩ := sl
          refine codeAny_handlers_suite_as (HandSPX.lands_againZ A.fly fun h4 fl4 up4 => ?_)
          obtain ⟨ob4, ws4, hob4, hz4, hd4⟩ := fl4.there
          have I4 := (A.inv h4 fl4.1 up4).suite hob4 hd4 A.free A.notL A.notF
          refine store_ok (X := X.suite p ((p, ob4) :: (X.pn ++ pins))) (v := .ref p) I4 hN hi (.inl hl) rfl (fun s5 I5 => ?_) (.inr hl)
          exact wpAny_mono ((su p ob4 cl dd (X.pn ++ pins) hz4 ⟨_, hd4⟩).run [] s5 _ G _ I5 (yes rfl p A.free)) (fun fl t e => suite_end_as ok hN hi hl e) fun _ _ z => z.elim
theorem ps_try_mix {body : List Stmt} {h0 : ExceptHandler} {hs : List ExceptHandler} {l : List (Value × Option Nat × Suite)} {pos : Pos} {tb : WX → TS} (hst : X.stack = X.env :: X.outer) (hf : X.env.frame = some X.env.locals) (tk : Takes X W0)
    (hb : ∀ (W : WX) (pn : List (Addr × Obj)) (xe : Value → Shared → Prop), Takes (X.tr pn xe) W → PassesOwn (model X.prog X.w) X.A X.env xe → PSs (X.tr pn xe) body (tb W)) (hm : HMix X (h0 :: hs) l) :
    PS X (.Try body (h0 :: hs) [] [] pos) (fun D σ H => tb (wMix X.K W0 D l) D σ H) := by
  refine ⟨fun pins s σ H D I q => wpAny_Try_except ?_⟩
  have ok := I.ok
  have hfr : X.A.frames = some (X.env :: X.outer) := by rw [ok.frames, hst]
  refine wpAny_mono ((hb (wMix X.K W0 D l) (X.pn ++ pins) _ (fun u s' xx => ?_) PassesOwn.looking).run [] s σ H D (I.toTry _) q) (fun fl s1 e => ?_) fun _ _ z => z
  · obtain ⟨p, B, sI, pins', τ, G, cl, dd, rfl, J0, nb, up, sky, na, os, ag, w⟩ := xx
    have J := J0.ofTry ok
    rw [show (X.tr (X.pn ++ pins) _).stack = X.env :: X.outer from hst] at sky
    refine Sky.land Zc.steady hfr hf sky fun h3 fl3 up3 => ?_
    obtain ⟨ob, ws, hob, hz, hdat⟩ := fl3.there
    have nfr : p ∉ frs (X.env :: X.outer) := fun m => by
      obtain ⟨_, o', e', nf⟩ := fl3.2.2.1.mem m
      rw [hob] at e'
      cases e'
      exact nf _ hdat
    refine mix_run (W0 := W0) (B := B) (p := p) (cl := cl) (dd := dd) (τ := τ) (G := G) (s := s') (h := h3) hf ok ⟨fl3, fun h' st u => J.landed nb st ((up.trans up3).trans u) os ag, J.landed nb fl3.1 (up.trans up3) os ag, na, fun z => ?_, fun m => ?_, fun w0 h' held u => ?_⟩ hm w
    · exact nfr (List.mem_filterMap.mpr ⟨X.env, List.mem_cons_self, by rw [hf, z]⟩)
    · obtain ⟨e, he, z⟩ := List.mem_filterMap.mp m
      exact nfr (List.mem_filterMap.mpr ⟨e, List.mem_cons_of_mem _ he, z⟩)
    · exact tk _ _ ⟨p, B, sI, pins, τ, G, cl, dd, rfl, J, nb, (up.trans up3).trans u, .inr (.inr (by rw [hst]; exact held)), na, os, ag, w0⟩
  · cases fl with
    | next => obtain ⟨τ, G, J, z⟩ := e; exact wpAny_execs_nil ⟨τ, G, J.ofTry ok, z⟩
    | brk => obtain ⟨τ, G, J, z⟩ := e; exact ⟨τ, G, J.ofTry ok, z⟩
    | cont => obtain ⟨τ, G, J, z⟩ := e; exact ⟨τ, G, J.ofTry ok, z⟩
    | ret u => obtain ⟨v, τ, G, J, r, z⟩ := e; exact ⟨v, τ, G, J.ofTry ok, r, z⟩
end
end L3

set_option Elab.async false
set_option maxRecDepth 100000
set_option linter.all false
set_option maxHeartbeats 2000000
namespace L3
open PySem PySem.Spec PyProof.Rows L2
/-! ### try, by data -/
abbrev goneD : Option Nat → DEnds → DEnds
  | none, D => D
  | some i, D => { nx := fun δ S => D.nx (dset δ i none) S, rt := D.rt, bk := fun δ S => D.bk (dset δ i none) S, ct := fun δ S => D.ct (dset δ i none) S }
abbrev heldD : Option Nat → Addr → DSt → DSt
  | none, _, δ => δ
  | some i, a, δ => dset δ i (some (.ref a))
abbrev DClause := Str × Option Nat × (Addr → List (Str × D) → DTS)
def dHs (sub : Str → Str → Option Bool) (PX : DWX) (D : DEnds) : List DClause → DWX
  | [] => PX
  | (y, o, h) :: r => fun x fs δ S => ∃ k, sub x y = some k ∧ (k = true → ∀ a, S a = none → h a fs (goneD o D) (heldD o a δ) S) ∧ (k = false → dHs sub PX D r x fs δ S)
abbrev dTry (sub : Str → Str → Option Bool) (tb : DWX → DTS) (hs : List DClause) (PX : DWX) : DTS := fun D δ S => tb (dHs sub PX D hs) D δ S
theorem st_caught {sub : Str → Str → Option Bool} {PX : DWX} {D : DEnds} {y x : Str} {o : Option Nat} {h : Addr → List (Str × L3.D) → DTS} {r : List DClause} {fs : List (Str × L3.D)} {δ : DSt} {S : Sto} (e : sub x y = some true)
    (q : ∀ a, S a = none → h a fs (goneD o D) (heldD o a δ) S) : dHs sub PX D ((y, o, h) :: r) x fs δ S := ⟨true, e, fun _ => q, fun z => by cases z⟩
theorem st_missed {sub : Str → Str → Option Bool} {PX : DWX} {D : DEnds} {y x : Str} {o : Option Nat} {h : Addr → List (Str × L3.D) → DTS} {r : List DClause} {fs : List (Str × L3.D)} {δ : DSt} {S : Sto} (e : sub x y = some false)
    (q : dHs sub PX D r x fs δ S) : dHs sub PX D ((y, o, h) :: r) x fs δ S := ⟨false, e, (fun z => by cases z), fun _ => q⟩
/-- which class is caught by which name -/
def SubOk (K : PySem.W.Frag) (ct : CTab) (sub : Str → Str → Option Bool) : Prop := ∀ x y b, sub x y = some b → PySem.W.exmOne K (.ref (ct x)) (.ref (ct y)) = some b
def suiteOf (K : PySem.W.Frag) (Γ : KG K) (ct : CTab) (h : Addr → List (Str × D) → DTS) : Suite := fun a cls d Dn σ H => ∃ dd fs x, d = some dd ∧ cls = .ref (ct x) ∧ ExF K ct x fs ∧ lfS (Γ.exc dd fs) (h a fs) Dn σ H
abbrev clauseOf (K : PySem.W.Frag) (Γ : KG K) (ct : CTab) (c : DClause) : Value × Option Nat × Suite := (.ref (ct c.1), c.2.1, suiteOf K Γ ct c.2.2)
def KG.also {K : PySem.W.Frag} (Γ : KG K) (Δ : KG K) : KG K where
  ok := fun F S H => Γ.ok F S H ∧ Δ.ok F S H
  step := fun s a g => ⟨Γ.step s a.1 g, Δ.step s a.2 g⟩
  new := fun s a h => ⟨Γ.new s a.1 h, Δ.new s a.2 h⟩
  put := fun a0 f s a => ⟨Γ.put a0.1 f s a.1, Δ.put a0.2 f s a.2⟩
theorem CtE.gone {K : PySem.W.Frag} {Γ : KG K} {F : Addr → Bool} {S : Sto} {H : Hp} {P : DEnds} {D : Ends} (o : Option Nat) (c : CtE Γ F S H P D) : CtE Γ F S H (goneD o P) (goneE o D) := by
  cases o with
  | none => exact c
  | some i =>
    refine ⟨fun δ S' h σ H' g r => c.nx _ _ h _ _ g ?_, c.rt, fun δ S' h σ H' g r => c.bk _ _ h _ _ g ?_, fun δ S' h σ H' g r => c.ct _ _ h _ _ g ?_⟩
    all_goals rw [dset_eq]
    all_goals exact r.unset i
theorem CtE.exc {K : PySem.W.Frag} {Γ : KG K} {F : Addr → Bool} {S : Sto} {H : Hp} {P : DEnds} {D : Ends} {dd : Addr} {fs : List (Str × L3.D)} (c : CtE Γ F S H P D) : CtE (Γ.exc dd fs) F S H P D :=
  ⟨fun δ S' h σ H' g r => c.nx _ _ h _ _ (KG.exc_go g) r, fun d S' h v H' g r => c.rt _ _ h _ _ (KG.exc_go g) r, fun δ S' h σ H' g r => c.bk _ _ h _ _ (KG.exc_go g) r, fun δ S' h σ H' g r => c.ct _ _ h _ _ (KG.exc_go g) r⟩
theorem RelS.held {K : PySem.W.Frag} {G : Hp} {σ : L2.St} {δ : DSt} (o : Option Nat) (a : Addr) (r : RelS K G σ δ) : RelS K G (heldS o a σ) (heldD o a δ) := by
  cases o with
  | none => exact r
  | some i => exact r.dset (.ref a) i
theorem mix_data {K : PySem.W.Frag} {Γ : KG K} {ct : CTab} {sub : Str → Str → Option Bool} {PX : DWX} {P : DEnds} {D : Ends} (so : SubOk K ct sub) {F : Addr → Bool} {S : Sto} {H : Hp} {σ : L2.St} {δ : DSt} {x : Str} {fs : List (Str × L3.D)} {vs : List (Str × V)} {dd : Addr}
    (sm : Sim Γ F S H) (rs : RelS K (fz F S H) σ δ) (e : fz F S H dd = some (.xd vs)) (rf : RelF K (fz F S H) vs fs) (xf : ExF K ct x fs) (c : CtE Γ F S H P D) :
    ∀ hs : List DClause, dHs sub PX P hs x fs δ S → wMix K (WD Γ ct PX) D (hs.map (clauseOf K Γ ct)) (.ref (ct x)) (some dd) σ H
  | [], q => ⟨F, δ, S, x, fs, vs, dd, sm, rs, rfl, rfl, e, rf, xf, q⟩
  | (y, o, h) :: r, ⟨k, h1, h2, h3⟩ => ⟨k, so x y k h1, fun z p hp => ⟨dd, fs, x, rfl, rfl, xf, F, heldD o p δ, S, goneD o P, ⟨sm.toSimB, sm.knows, vs, e, rf⟩, rs.held o p, h2 z p (sm.none hp).2, (c.gone o).exc⟩,
      fun z => mix_data so sm rs e rf xf c r (h3 z)⟩
inductive DMix (X : Cx) (Γ : KG X.K) (ct : CTab) : List ExceptHandler → List DClause → Prop
  | nil : DMix X Γ ct [] []
  | cons {y : Str} {on : Option Str} {o : Option Nat} {h : Addr → List (Str × D) → DTS} {b : Stmt} {bs : List Stmt} {p1 p2 : Pos} {hr : List ExceptHandler} {lr : List DClause} (nm : Names X y (.ref (ct y))) (sl : SlotOk X on o)
      (su : ∀ (a : Addr) (ob : Obj) (dd : Addr) (fs : List (Str × D)) (x : Str) (pn : List (Addr × Obj)), Zc (.ref (ct x)) (some dd) ob → (∃ ws, ob.data = .fields ws) → ExF X.K ct x fs → DPSs (X.suite a ((a, ob) :: pn)) (Γ.exc dd fs) (b :: bs) (h a fs)) (r : DMix X Γ ct hr lr) :
      DMix X Γ ct (.ExceptHandler (some (.Name y p1)) on (b :: bs) p2 :: hr) ((y, o, h) :: lr)
theorem DMix.mix {X : Cx} {Γ : KG X.K} {ct : CTab} : ∀ {hs : List ExceptHandler} {l : List DClause}, DMix X Γ ct hs l → HMix X hs (l.map (clauseOf X.K Γ ct))
  | _, _, .nil => .nil
  | _, _, .cons nm sl su r => .cons nm sl (fun p ob cl dd pn hz hd => ⟨fun pins s σ H Dn I ⟨d1, fs, x, e1, e2, xf, q⟩ => by
      subst e1 e2
      exact (su p ob d1 fs x pn hz hd xf).run pins s σ H Dn I q⟩) (DMix.mix r)
section
variable {X : Cx} {Γ : KG X.K} {ct : CTab} {PX : DWX}
theorem dps_try {body : List Stmt} {h0 : ExceptHandler} {hs : List ExceptHandler} {l : List DClause} {pos : Pos} {tb : DWX → DTS} {sub : Str → Str → Option Bool} (so : SubOk X.K ct sub) (hst : X.stack = X.env :: X.outer) (hf : X.env.frame = some X.env.locals) (tk : Takes X (WD Γ ct PX))
    (hb : ∀ (Δ : KG X.K) (QX : DWX) (pn : List (Addr × Obj)) (xe : Value → Shared → Prop), Takes (X.tr pn xe) (WD Δ ct QX) → PassesOwn (model X.prog X.w) X.A X.env xe → DPSs (X.tr pn xe) Δ body (tb QX)) (hm : DMix X Γ ct (h0 :: hs) l) :
    DPS X Γ (.Try body (h0 :: hs) [] [] pos) (dTry sub tb l PX) := by
  refine PSw (ps_try_mix (W0 := WD Γ ct PX) (tb := fun W Dn σ H => ∃ (Δ : KG X.K) (QX : DWX), (∀ cl d τ G, WD Δ ct QX cl d τ G → W cl d τ G) ∧ lfS Δ (tb QX) Dn σ H) hst hf tk (fun W pn xe tw po => ⟨fun pins s σ H Dn I ⟨Δ, QX, w, q⟩ => (hb Δ QX pn xe (tw.imp w) po).run pins s σ H Dn I q⟩) hm.mix)
    fun Dn σ H ⟨F, δ, S, P, sm, rs, h, c⟩ => ?_
  have s0 := KG.start_here sm.toSimB
  refine ⟨Γ.also (KG.start X.K F S H), dHs sub PX P l, fun cl d τ G ⟨F', δ', S', x, fs, vs, dd, sm', rs', e1, e2, e3, rf, xf, q⟩ => ?_, F, δ, S, P, ⟨sm.toSimB, sm.knows, s0.knows⟩, rs, h, ?_⟩
  · subst e1 e2
    obtain ⟨g, k⟩ := KG.start_go ⟨sm'.toSimB, sm'.knows.2⟩
    have g' : Go Γ F S H S' G := .of sm g
    exact mix_data so g'.sim (rs'.mono k) (k _ _ e3) (rf.mono k) xf (c.mono g') l q
  · exact ⟨fun δ S' h σ H' g r => c.nx _ _ h _ _ (.of sm g.b) r, fun d S' h v H' g r => c.rt _ _ h _ _ (.of sm g.b) r, fun δ S' h σ H' g r => c.bk _ _ h _ _ (.of sm g.b) r, fun δ S' h σ H' g r => c.ct _ _ h _ _ (.of sm g.b) r⟩
end
/-! ### a field of the caught exception -/
abbrev dXf (a : Addr) (fs : List (Str × D)) (n : Str) (te : DTE) : DTE := fun δ S Q => te δ S fun x S1 => x = .ref a ∧ ∃ d, fs.lookup n = some d ∧ Q d S1
theorem st_xf {a : Addr} {fs : List (Str × D)} {n : Str} {d : D} {S : Sto} {Q : DK} (e : fs.lookup n = some d) (q : Q d S) : (D.ref a) = .ref a ∧ ∃ d, fs.lookup n = some d ∧ Q d S := ⟨rfl, d, e, q⟩
theorem mem_lookup {n : Str} {d : D} : ∀ {fs : List (Str × D)}, fs.lookup n = some d → (n, d) ∈ fs
  | [], e => by cases e
  | (m, d') :: r, e => by
    rw [List.lookup_cons] at e
    split at e
    · rename_i z
      cases e
      have := eq_of_beq z
      subst this
      exact List.mem_cons_self
    · exact List.mem_cons_of_mem _ (mem_lookup e)
theorem dpe_xf {X : Cx} {Γ : KG X.K} {ct : CTab} {a dd : Addr} {ob : Obj} {x : Str} {fs : List (Str × D)} {pn : List (Addr × Obj)} {e : Expr} {te : DTE} {pos : Pos} {n : Str} (hz : Zc (.ref (ct x)) (some dd) ob) (hd : ∃ ws, ob.data = .fields ws) (xf : ExF X.K ct x fs)
    (he : DPE (X.suite a ((a, ob) :: pn)) (Γ.exc dd fs) e te) (hb : attributeBase e n X.env (eval e X.env) = eval e X.env := by rfl) : DPE (X.suite a ((a, ob) :: pn)) (Γ.exc dd fs) (.Attribute e n pos) (dXf a fs n te) := by
  by_cases hl : ∃ d, fs.lookup n = some d
  · obtain ⟨d0, hl⟩ := hl
    refine PEw (pe_xf xf.X (xf.no n d0 (mem_lookup hl)) hz hd he hb) fun σ H Q ⟨F, δ, S, P, sm, rs, h, c⟩ => ⟨F, δ, S, _, sm, rs, h, fun d S1 ⟨e1, d1, e2, q⟩ v H1 g1 r1 => ?_⟩
    subst e1
    cases r1
    obtain ⟨_, vs, e3, rf⟩ := g1.sim.knows
    obtain ⟨v, l1, r1⟩ := rf.lookup e2
    exact ⟨rfl, rfl, dd, vs, v, rfl, fz_same _ _ _ _ _ e3, l1, c.mono g1 |>.use g1.sim r1 q⟩
  · have hp := he
    refine ⟨fun pins s σ H Q I ⟨F, δ, S, P, sm, rs, h, c⟩ => ?_⟩
    refine attr_of hb (thn (he.run pins s σ H (fun _ _ => False) I ⟨F, δ, S, _, sm, rs, h, fun d S1 ⟨e1, d1, e2, q⟩ v H1 g1 r1 => hl ⟨d1, e2⟩⟩) fun u s1 hh => ?_)
    obtain ⟨x, H1, I1, rx, z⟩ := hh
    exact z.elim
end L3

set_option Elab.async false
set_option maxRecDepth 100000
set_option linter.all false
set_option maxHeartbeats 2000000
namespace L3
open PySem PySem.Spec PyProof.Rows L2
/-! ### classes of exceptions: __init__ notes its arguments -/
section
variable {P : Program} {w : World} {K : PySem.W.Frag} {mg : Str → Option Value} {base : Heap}
def tIni (K : PySem.W.Frag) : Nat → List Str → TS
  | _, [] => tNext
  | i, f :: fs => tSeq (tOst K f (tVar 0) (tVar i)) (tIni K (i + 1) fs)
theorem upd_swap {H : Hp} {a d : Addr} {x y z : HO} (h : d ≠ a) : upd (upd (upd H d x) a y) d z = upd (upd H d z) a y := by
  funext b
  by_cases e : b = d
  · subst e; rw [upd_same, upd_ne h, upd_same]
  · rw [upd_ne e]
    by_cases g : b = a
    · subst g; rw [upd_same, upd_same]
    · rw [upd_ne g, upd_ne e, upd_ne g, upd_ne e]
theorem ini_old {C a d : Addr} (T : OexC K C) (hda : d ≠ a) {D : Ends} {σ : L2.St} {H : Hp} (h0 : σ[0]? = some (some (.ref a))) : ∀ (ns : List Str) (ws : List V) (i : Nat) (fs : List (Str × V)), ns.length = ws.length → fs.length + ns.length ≤ 900 → (∀ n ∈ ns, PySem.W.findIn K (.ref C) n = some none) →
    (∀ j v, ws[j]? = some v → σ[i + j]? = some (some v)) → D.nx σ (upd (upd H d (exd d ((ns.zip ws).reverse ++ fs))) a (exo a C (some d))) → tIni K i ns D σ (upd (upd H d (exd d fs)) a (exo a C (some d)))
  | [], [], i, fs, _, _, _, _, q => q
  | n :: ns, v :: ws, i, fs, hl, hz, hn, hs, q => by
    refine ⟨v, by simpa using hs 0 v rfl, .ref a, h0, a, C, rfl, T, hn n List.mem_cons_self, .inr ⟨d, fs, upd_same, by rw [upd_ne hda, upd_same], by omega, ?_⟩⟩
    rw [upd_swap hda]
    refine ini_old T hda h0 ns ws (i + 1) ((n, v) :: fs) (by simpa using hl) (by simp only [List.length_cons] at hz ⊢; omega) (fun m hm => hn m (List.mem_cons_of_mem _ hm)) (fun j u e => ?_) ?_
    · rw [show i + 1 + j = i + (j + 1) by omega]
      exact hs (j + 1) u (by simpa using e)
    · simpa [List.append_assoc] using q
theorem ini_new {C a : Addr} (T : OexC K C) {D : Ends} {σ : L2.St} {H : Hp} (h0 : σ[0]? = some (some (.ref a))) (ha : H a = some (exo a C none)) (n : Str) (ns : List Str) (v : V) (ws : List V) (hl : ns.length = ws.length) (hz : ns.length ≤ 800) (hn : ∀ m ∈ n :: ns, PySem.W.findIn K (.ref C) m = some none)
    (hs : ∀ j u, (v :: ws)[j]? = some u → σ[1 + j]? = some (some u)) (q : ∀ d, H d = none → d ≠ a → D.nx σ (upd (upd H d (exd d (((n :: ns).zip (v :: ws)).reverse))) a (exo a C (some d)))) : tIni K 1 (n :: ns) D σ H := by
  refine ⟨v, by simpa using hs 0 v rfl, .ref a, h0, a, C, rfl, T, hn n List.mem_cons_self, .inl ⟨ha, fun d hd hda => ?_⟩⟩
  refine ini_old T hda h0 ns ws 2 [(n, v)] hl (by simp only [List.length_cons, List.length_nil]; omega) (fun m hm => hn m (List.mem_cons_of_mem _ hm)) (fun j u e => ?_) ?_
  · have := hs (j + 1) u (by simpa using e)
    rwa [show 1 + (j + 1) = 2 + j by omega] at this
  · simpa using q d hd hda
theorem ini_ok {qual : Str} {st : Stmt} {f : Addr} {fd : FuncData} {C : Addr} {n : Str} {ns N : List Str} (T : OexC K C) (hno : ∀ m ∈ n :: ns, PySem.W.findIn K (.ref C) m = some none) (Fn : Fun K "__init__" qual st f fd) (Sc : FnScope N ("self" :: n :: ns) (defScope st)) (hz : ns.length ≤ 800)
    (hb : ∀ (cdv : Value) (A : Around) (outer : List Env) (s : Shared) (H : Hp) (E : XK), PSs (cxOf CX0 P w K mg base N qual (defScope st) f cdv A outer s H E).nox (defBody st) (tIni K 1 (n :: ns))) : FnOk P w K mg base CX0 1 f fd ("self" :: n :: ns) (spInit C (n :: ns)) := by
  refine Fn.ok Sc (fun vs H Q E ⟨a, ws, e, hl, _⟩ => by rw [e, List.length_cons, hl]; rfl) fun cdv A outer s H vs Q E hr ⟨a, ws, e, hl, ha, q⟩ => ⟨_, hb cdv A outer s H E, ?_⟩
  subst e
  cases ws with
  | nil => simp at hl
  | cons v ws =>
    have st : ∀ (j : Nat) (u : V), (V.ref a :: v :: ws)[j]? = some u → (L2.start N (V.ref a :: v :: ws))[j]? = some (some u) := fun j u e => by
      unfold L2.start
      rw [List.getElem?_append_left (by rw [List.length_map]; exact (List.getElem?_eq_some_iff.mp e).1), List.getElem?_map, e]
      rfl
    exact ini_new T (st 0 _ rfl) ha n ns v ws (by simpa using hl.symm) hz hno (fun j u e => st (1 + j) u (by rw [show 1 + j = j + 1 by omega]; exact e)) fun d hd hda => q d hd hda
end
end L3

set_option Elab.async false
set_option maxRecDepth 100000
set_option linter.all false
set_option maxHeartbeats 2000000
namespace L3
open PySem PySem.Spec PyProof.Rows L2
/-! ### iterating a tuple or a list, as it comes -/
abbrev iAnyD (te : DTE) : DTI := fun δ S Q => iSeq te δ S Q ∨ iTupD te δ S Q
section
variable {X : Cx} {Γ : KG X.K} {e tg : Expr} {te : DTE}
theorem dpi_any (h : DPE X Γ e te) : DPI X Γ tg e (iAnyD te) := ⟨fun pins s σ H R I ⟨F, δ, S, P, sm, rs, q, c⟩ => q.elim (fun q => (dpi_seq h).run pins s σ H R I ⟨F, δ, S, P, sm, rs, q, c⟩) fun q => (dpi_tup h).run pins s σ H R I ⟨F, δ, S, P, sm, rs, q, c⟩⟩
end
/-! ### the table of the classes -/
def subL (l : List (Str × Str × Bool)) (x y : Str) : Option Bool := (l.find? fun e => e.1 == x && e.2.1 == y).map (·.2.2)
theorem SubOk.of {K : PySem.W.Frag} {ct : CTab} (l : List (Str × Str × Bool)) (h : ∀ e ∈ l, PySem.W.exmOne K (.ref (ct e.1)) (.ref (ct e.2.1)) = some e.2.2) : SubOk K ct (subL l) := fun x y b q => by
  unfold subL at q
  cases e : l.find? fun e => e.1 == x && e.2.1 == y with
  | none => rw [e] at q; cases q
  | some z =>
    rw [e] at q
    cases q
    have h1 := List.find?_some e
    simp only [Bool.and_eq_true, beq_iff_eq] at h1
    rw [← h1.1, ← h1.2]
    exact h z (List.mem_of_find?_eq_some e)
def ctOf (l : List (Str × Addr)) : CTab := fun x => (l.lookup x).getD 0
theorem exm_of {K : PySem.W.Frag} {c y : Addr} {b : Bool} (h1 : PySem.W.subIn K (.ref y) (.type "BaseException") = some true) (h2 : PySem.W.isClsIn K y = true) (h3 : PySem.W.typeIn K (.ref y) = some (.type "type")) (h4 : PySem.W.subIn K (.ref c) (.ref y) = some b) : PySem.W.exmOne K (.ref c) (.ref y) = some b := by
  have e1 : (PySem.W.subIn K (.ref y) (.type "BaseException") == some true) = true := by rw [h1]; rfl
  have h2' : (PySem.W.clsIn K y).isSome = true := h2
  have e2 : ((PySem.W.clsIn K y).isSome && PySem.W.typeIn K (.ref y) == some (.type "type")) = true := by rw [h2', h3]; rfl
  show (if _ = true then (if ((PySem.W.clsIn K y).isSome && PySem.W.typeIn K (.ref y) == some (.type "type")) = true then PySem.W.subIn K (.ref c) (.ref y) else none) else none) = some b
  rw [if_pos e1, if_pos e2]
  exact h4
/-- nothing is let out -/
abbrev dNoX : DWX := fun _ _ _ _ => False
theorem takes_no {X : Cx} {Γ : KG X.K} {ct : CTab} : Takes X (WD Γ ct dNoX) := fun _ _ ⟨_, _, _, _, _, _, _, _, _, _, _, _, _, _, _, _, F, δ, S, x, fs, vs, dd, _, _, _, _, _, _, _, z⟩ => z.elim
abbrev x0 (sp : Sto → DK → DXK → Prop) : DSpX := fun ds S Q E => match ds with | [] => sp S Q E | _ => False
abbrev x1 (sp : D → Sto → DK → DXK → Prop) : DSpX := fun ds S Q E => match ds with | [a] => sp a S Q E | _ => False
abbrev x2 (sp : D → D → Sto → DK → DXK → Prop) : DSpX := fun ds S Q E => match ds with | [a, b] => sp a b S Q E | _ => False
abbrev x3 (sp : D → D → D → Sto → DK → DXK → Prop) : DSpX := fun ds S Q E => match ds with | [a, b, c] => sp a b c S Q E | _ => False
abbrev x4 (sp : D → D → D → D → Sto → DK → DXK → Prop) : DSpX := fun ds S Q E => match ds with | [a, b, c, d] => sp a b c d S Q E | _ => False
abbrev x5 (sp : D → D → D → D → D → Sto → DK → DXK → Prop) : DSpX := fun ds S Q E => match ds with | [a, b, c, d, e] => sp a b c d e S Q E | _ => False
theorem x1_len {sp} : ∀ ds S P E, x1 sp ds S P E → ds.length = 1
  | [_], _, _, _, _ => rfl
  | [], _, _, _, h | _ :: _ :: _, _, _, _, h => (h : False).elim
theorem x2_len {sp} : ∀ ds S P E, x2 sp ds S P E → ds.length = 2
  | [_, _], _, _, _, _ => rfl
  | [], _, _, _, h | [_], _, _, _, h | _ :: _ :: _ :: _, _, _, _, h => (h : False).elim
theorem x3_len {sp} : ∀ ds S P E, x3 sp ds S P E → ds.length = 3
  | [_, _, _], _, _, _, _ => rfl
  | [], _, _, _, h | [_], _, _, _, h | [_, _], _, _, _, h | _ :: _ :: _ :: _ :: _, _, _, _, h => (h : False).elim
theorem x4_len {sp} : ∀ ds S P E, x4 sp ds S P E → ds.length = 4
  | [_, _, _, _], _, _, _, _ => rfl
  | [], _, _, _, h | [_], _, _, _, h | [_, _], _, _, _, h | [_, _, _], _, _, _, h | _ :: _ :: _ :: _ :: _ :: _, _, _, _, h => (h : False).elim
theorem FnD.none {P : Program} {w : World} {K : PySem.W.Frag} {mg : Str → Option Value} {base : Heap} {k : Nat} {f : Addr} {fd : FuncData} {ps : List Str} : FnD P w K mg base k f fd ps (fun _ _ _ => False) :=
  ⟨fun vs H Q E ⟨_, _, _, _, _, _, h, _⟩ => h.elim, fun _ _ _ _ _ _ _ _ _ _ _ _ _ ⟨_, _, _, _, _, _, h, _⟩ => h.elim⟩
/-- the parts of a class's text -/
def clsBody : Stmt → List Stmt
  | .ClassDef _ _ _ body .. => body
  | _ => []
/-- a module's constant -/
def Known (K : PySem.W.Frag) (d : D) (u : Value) : Prop := ∃ v, RelV v u ∧ ∀ G, Rel K G v d
theorem dpe_globE {X : Cx} {Γ : KG X.K} {x : Str} {d : D} {u : Value} {pos : Pos} (k : Known X.K d u) (hm : X.mg x = some u) (hg : Gl X x) (hd : (x == ("__debug__" : Str)) = false := by decide) : DPE X Γ (.Name x pos) (dC d) := by
  obtain ⟨v, q, r⟩ := k
  exact dpe_glob hg hm q r hd
theorem Known.int {K : PySem.W.Frag} {i : Int} {t : Nat} : Known K (.int i) (.int i t) := ⟨.int i, ⟨_, rfl⟩, fun _ => .int i⟩
inductive KnownL (K : PySem.W.Frag) : List D → List Value → Prop
  | nil : KnownL K [] []
  | cons {d : D} {ds : List D} {u : Value} {us : List Value} : Known K d u → KnownL K ds us → KnownL K (d :: ds) (u :: us)
theorem KnownL.ex {K : PySem.W.Frag} : ∀ {ds : List D} {us : List Value}, KnownL K ds us → ∃ vs, Vals vs us ∧ ∀ G, RelL K G vs ds
  | _, _, .nil => ⟨[], .nil, fun _ => .nil⟩
  | _, _, .cons ⟨v, h, r⟩ t => by
    obtain ⟨vs, h2, r2⟩ := KnownL.ex t
    exact ⟨v :: vs, .cons h h2, fun G => .cons (r G) (r2 G)⟩
theorem Known.tup {K : PySem.W.Frag} {a : Addr} {sl : Array (Option Value)} {items : Array Value} {n : Nat} {ds : List D} (h : K.lookup a = some ⟨.type "tuple", none, .seq items n, sl⟩) (hs : items.size ≤ 1000) (k : KnownL K ds items.toList) : Known K (.tup ds) (.ref a) := by
  obtain ⟨vs, h2, r2⟩ := k.ex
  exact ⟨.ref a, rfl, fun G => .tup (.inr ⟨_, items, n, h, rfl, rfl, rfl, by rw [sizeLine_eq]; omega, h2⟩) (r2 G)⟩
/-! ### a, b = x, y -/
abbrev dPar (i j : Nat) (ta : DTA) : DTS := fun D δ S => ta δ S fun ds S1 => match ds with | [u, v] => D.nx (dset (dset δ i (some u)) j (some v)) S1 | _ => False
abbrev dPar3 (i j l : Nat) (ta : DTA) : DTS := fun D δ S => ta δ S fun ds S1 => match ds with | [u, v, w] => D.nx (dset (dset (dset δ i (some u)) j (some v)) l (some w)) S1 | _ => False
section
variable {X : Cx} {Γ : KG X.K} {i j l : Nat} {x y z : Str} {a b c : Expr} {ta : DTA} {px py pz pt pos : Pos} {kt k2 : _} {pt2 : Pos}
theorem dps_par (hN : X.N.Nodup) (hi : X.N[i]? = some x) (hj : X.N[j]? = some y) (hij : i ≠ j) (hx : X.env.scope.names.lookup x = some .local) (hy : X.env.scope.names.lookup y = some .local) (ha : DPA X Γ [a, b] ta)
    (hc : X.calm = true := by rfl) (hw : swappedStores [.Tuple [.Name x px, .Name y py] kt pt] (.Tuple [a, b] k2 pt2) X.env = pure (some [x, y]) := by rfl)
    (hs : swapsWithSole [.Tuple [.Name x px, .Name y py] kt pt] (.Tuple [a, b] k2 pt2) pos.line X.env = pure false := by rfl) :
    DPS X Γ (.Assign [.Tuple [.Name x px, .Name y py] kt pt] (.Tuple [a, b] k2 pt2) pos) (dPar i j ta) := PSw (ps_par hc hN hi hj hij hx hy ha hw hs) fun D σ H ⟨F, δ, S, P, sm, rs, h, c⟩ => ⟨F, δ, S, _, sm, rs, h, fun ds S1 h1 vs H1 g1 r1 => by
  match ds, r1, h1 with
  | [_, _], .cons r (.cons q .nil), h1 => exact ⟨_, _, rfl, c.nx _ _ h1 _ _ g1 (((rs.mono g1.same).dset r i).dset q j)⟩⟩
theorem dps_par3 (hN : X.N.Nodup) (hi : X.N[i]? = some x) (hj : X.N[j]? = some y) (hl : X.N[l]? = some z) (hij : i ≠ j) (hil : i ≠ l) (hjl : j ≠ l) (hx : X.env.scope.names.lookup x = some .local) (hy : X.env.scope.names.lookup y = some .local) (hz : X.env.scope.names.lookup z = some .local) (ha : DPA X Γ [a, b, c] ta)
    (hc : X.calm = true := by rfl) (hw : swappedStores [.Tuple [.Name x px, .Name y py, .Name z pz] kt pt] (.Tuple [a, b, c] k2 pt2) X.env = pure (some [x, y, z]) := by rfl)
    (hs : swapsWithSole [.Tuple [.Name x px, .Name y py, .Name z pz] kt pt] (.Tuple [a, b, c] k2 pt2) pos.line X.env = pure false := by rfl) :
    DPS X Γ (.Assign [.Tuple [.Name x px, .Name y py, .Name z pz] kt pt] (.Tuple [a, b, c] k2 pt2) pos) (dPar3 i j l ta) := PSw (ps_par3 hc hN hi hj hl hij hil hjl hx hy hz ha hw hs) fun D σ H ⟨F, δ, S, P, sm, rs, h, c⟩ => ⟨F, δ, S, _, sm, rs, h, fun ds S1 h1 vs H1 g1 r1 => by
  match ds, r1, h1 with
  | [_, _, _], .cons r (.cons q (.cons t .nil)), h1 => exact ⟨_, _, _, rfl, c.nx _ _ h1 _ _ g1 ((((rs.mono g1.same).dset r i).dset q j).dset t l)⟩⟩
end
end L3

set_option Elab.async false
set_option maxRecDepth 100000
set_option linter.all false
set_option maxHeartbeats 2000000
namespace L3
open PySem PySem.Spec PyProof.Rows L2
/-! ### truth -/
def vTru : D → Sto → (Bool → Sto → Prop) → Prop
  | .non, S, Q => Q false S
  | .bl b, S, Q => Q b S
  | .int i, S, Q => Q (i != 0) S
  | .str y, S, Q => y.length ≤ sizeLine ∧ Q ((y.length : Int) != 0) S
  | .tup ds, S, Q => Q (!ds.isEmpty) S
  | .key ds, S, Q => Q (!ds.isEmpty) S
  | .lst ds, S, Q => Q (!ds.isEmpty) S
  | .ro ds, S, Q => Q (!ds.isEmpty) S
  | .ref a, S, Q => match S a with
    | some (.lst ds) => Q (!ds.isEmpty) S
    | some (.dK ds) => Q (!ds.isEmpty) S
    | _ => False
  | .ty _, _, _ => False
  | .dct _ _, _, _ => False
theorem RelL.emp {K : PySem.W.Frag} {G : Hp} {xs : List V} {ds : List D} (r : RelL K G xs ds) : xs.isEmpty = ds.isEmpty := by cases r <;> rfl
theorem RelF.emp {K : PySem.W.Frag} {G : Hp} {κ : Type} {xs : List (κ × V)} {ds : List (κ × D)} (r : RelF K G xs ds) : xs.isEmpty = ds.isEmpty := by cases r <;> rfl
theorem vTru_ok {K : PySem.W.Frag} {Γ : KG K} {F : Addr → Bool} {S : Sto} {H : Hp} {v : V} {d : D} {P : Bool → Sto → Prop} (sm : Sim Γ F S H) (r : Rel K (fz F S H) v d) (h : vTru d S P) : ∃ k, TruV K v H k ∧ P k S := by
  cases r
  · exact ⟨_, rfl, h⟩
  · exact ⟨_, rfl, h⟩
  · exact ⟨_, rfl, h⟩
  · exact ⟨_, ⟨h.1, rfl⟩, h.2⟩
  · simp only [vTru] at h
    split at h
    · rename_i e
      obtain ⟨vs, e1, r1⟩ := sm.lst e
      exact ⟨_, .inl ⟨_, .of e1, rfl⟩, by rw [r1.emp]; exact h⟩
    · rename_i e
      obtain ⟨vs, e1, r1⟩ := (sm.at_ _ _ e).2
      exact ⟨_, .inr (.inr ⟨_, e1, rfl⟩), by rw [r1.emp]; exact h⟩
    · exact h.elim
  · exact h.elim
  · rename_i hs rl
    exact ⟨_, .inr (.inl ⟨_, sqT_mono (fz_same F S H) hs, rfl⟩), by rw [rl.emp]; exact h⟩
  · rename_i hs rl
    exact ⟨_, .inl ⟨_, .of (fz_same F S H _ _ hs), rfl⟩, by rw [rl.emp]; exact h⟩
  · rename_i hs rl
    exact ⟨_, .inl ⟨_, (fz_same F S H).seq hs, rfl⟩, by rw [rl.emp]; exact h⟩
  · rename_i hs rl
    exact ⟨_, .inr (.inl ⟨_, .of (fz_same F S H _ _ hs), rfl⟩), by rw [rl.emp]; exact h⟩
  · exact h.elim
abbrev dTru (te : DTE) : DTT := fun δ S Q => te δ S fun x S1 => vTru x S1 Q
section
variable {X : Cx} {Γ : KG X.K} {a b o e i : Expr} {ta tb to te ti : DTE} {t : DTA} {es : List Expr} {pos apos cpos p : Pos}
theorem dpt_truth (h : DPE X Γ a ta) (he : ∀ whole, isTrue a X.env whole = (do let v ← whole; standAt a.pos; holding [v] (truthy v)) := by intro _; rfl) : DPT X Γ a (dTru ta) :=
  PTw (pt_truth h he) fun σ H Q ⟨F, δ, S, P, sm, rs, h, c⟩ => ⟨F, δ, S, _, sm, rs, h, fun d S1 h1 v H1 g1 r1 => by
    obtain ⟨k, h2, h3⟩ := vTru_ok g1.sim r1 h1
    exact ⟨k, h2, c _ _ h3 _ g1⟩⟩
/-! ### in -/
def flatD : D → Bool
  | .non => true
  | .bl _ => true
  | .int _ => true
  | .str _ => true
  | _ => false
def eqD : D → D → Bool
  | .non, .non => true
  | .bl a, .bl b => a == b
  | .bl a, .int b => (if a then 1 else 0) == b
  | .int a, .bl b => a == (if b then 1 else 0)
  | .int a, .int b => a == b
  | .str a, .str b => a == b
  | _, _ => false
def inD (x : D) (xs : List D) : Bool := xs.any fun y => eqD y x
theorem Rel.flat {K : PySem.W.Frag} {G : Hp} {v : V} {d : D} (r : Rel K G v d) (h : flatD d = true) : flatV v = true := by
  cases r <;> first | rfl | cases h
theorem RelL.flat {K : PySem.W.Frag} {G : Hp} : ∀ {vs : List V} {ds : List D}, RelL K G vs ds → ds.all flatD = true → vs.all flatV = true
  | _, _, .nil, _ => rfl
  | _, _, .cons r t, h => by
    rw [List.all_cons, Bool.and_eq_true] at h
    rw [List.all_cons, Bool.and_eq_true]
    exact ⟨r.flat h.1, RelL.flat t h.2⟩
theorem Rel.eqD {K : PySem.W.Frag} {G : Hp} {v w : V} {d e : D} (r : Rel K G v d) (s : Rel K G w e) (hd : flatD d = true) (he : flatD e = true) : eqV v w = L3.eqD d e := by
  cases r <;> first | (cases hd; done) | skip
  all_goals cases s <;> first | rfl | (cases he; done)
theorem RelL.inD {K : PySem.W.Frag} {G : Hp} {w : V} {e : D} (s : Rel K G w e) (he : flatD e = true) : ∀ {vs : List V} {ds : List D}, RelL K G vs ds → ds.all flatD = true → inV w vs = L3.inD e ds
  | _, _, .nil, _ => rfl
  | _, _, .cons (v := v) (d := d) r t, h => by
    rw [List.all_cons, Bool.and_eq_true] at h
    unfold inV L3.inD
    rw [List.any_cons, List.any_cons, r.eqD s h.1 he]
    have := RelL.inD s he t h.2
    unfold inV L3.inD at this
    rw [this]
def seqAny (S : Sto) : D → Option (List D)
  | .tup ds => some ds
  | .key ds => some ds
  | x => seqOf S x
theorem seqAny_rel {K : PySem.W.Frag} {Γ : KG K} {F : Addr → Bool} {S : Sto} {H : Hp} {v : V} {d : D} {ds : List D} (sm : Sim Γ F S H) (r : Rel K (fz F S H) v d) (h : seqAny S d = some ds) : ∃ a vs, v = .ref a ∧ (SqL K H a vs ∨ SqT K H a vs) ∧ RelL K (fz F S H) vs ds := by
  by_cases z : ∃ es, d = .tup es ∨ d = .key es
  · obtain ⟨es, rfl | rfl⟩ := z
    · cases h
      cases r with
      | tup hs rl => exact ⟨_, _, rfl, .inr (sqT_mono (fz_same F S H) hs), rl⟩
    · cases h
      cases r with
      | key hs rl => exact ⟨_, _, rfl, .inr (.of (fz_same F S H _ _ hs)), rl⟩
  · have e : seqAny S d = seqOf S d := by
      cases d <;> first | rfl | exact absurd ⟨_, .inl rfl⟩ z | exact absurd ⟨_, .inr rfl⟩ z
    rw [e] at h
    obtain ⟨a, vs, h1, h2, h3⟩ := seqOf_rel sm r h
    exact ⟨a, vs, h1, .inl h2, h3⟩
def vInS (neg : Bool) (x : D) (ds : List D) (S : Sto) (Q : DK) : Prop := flatD x = true ∧ ds.all flatD = true ∧ Q (.bl (if neg then !inD x ds else inD x ds)) S
def vInO (neg : Bool) (x : D) (S : Sto) (Q : DK) : Option (List D) → Prop
  | some ds => vInS neg x ds S Q
  | none => False
def vIn (neg : Bool) (x y : D) (S : Sto) (Q : DK) : Prop := vInO neg x S Q (seqAny S y)
theorem dop_inAny (neg : Bool) {f : Value → Value → Sem Value} (h : OpR X f (rIn X.K neg)) : DOp X f (vIn neg) := by
  refine ⟨_, h, fun x y dx dy F S H P Q sm rx ry q c => ?_⟩
  unfold vIn at q
  cases e : seqAny S dy with
  | none => rw [e] at q; exact q.elim
  | some ds =>
    rw [e] at q
    obtain ⟨h1, h2, h3⟩ := q
    obtain ⟨a, vs, rfl, hs, rl⟩ := seqAny_rel sm ry e
    refine ⟨a, vs, rfl, hs, rx.flat h1, rl.flat h2, ?_⟩
    rw [rl.inD rx h1 h2]
    exact c.use sm (.bl _) h3
theorem dop_in : DOp X (compareOp .In) (vIn false) := dop_inAny false op_in_seq
theorem dop_notin : DOp X (compareOp .NotIn) (vIn true) := dop_inAny true op_notIn_seq
end
/-! ### methods of lists -/
section
variable {X : Cx} {Γ : KG X.K}
/-- xs.pop(i) -/
def vPopAt : D → List D → Sto → DK → Prop
  | .ref a, [.int i], S, Q => match S a with
    | some (.lst ds) => -(2 ^ 62) ≤ i ∧ i < 2 ^ 62 ∧ match ixN ds.length i with | some k => ∃ d, ds[k]? = some d ∧ Q d (sup S a (.lst (ds.eraseIdx k))) | none => False
    | _ => False
  | _, _, _, _ => False
theorem RelL.erase {K : PySem.W.Frag} {G : Hp} : ∀ {xs : List V} {ds : List D} (k : Nat), RelL K G xs ds → RelL K G (xs.eraseIdx k) (ds.eraseIdx k)
  | _, _, _, .nil => .nil
  | _, _, 0, .cons _ t => t
  | _, _, k + 1, .cons r t => .cons r (RelL.erase k t)
theorem lr_popAt : LRM X.K rPopAt vPopAt := fun x xs dx ds F S H P Q sm rx rxs q c => by
  cases rx <;> first | exact (q : False).elim | skip
  rcases ds with _ | ⟨d, _ | ⟨_, _⟩⟩ <;> first | exact (q : False).elim | skip
  · cases d <;> first | exact (q : False).elim | skip
    cases rxs with
    | cons r1 r2 =>
    cases r2; cases r1
    simp only [vPopAt] at q
    split at q
    · rename_i es e
      obtain ⟨vs, e1, rv⟩ := sm.lst e
      obtain ⟨b0, b1, q⟩ := q
      split at q
      · rename_i k ek
        obtain ⟨d, e2, q⟩ := q
        obtain ⟨v, e3, r3⟩ := rv.get e2
        refine ⟨_, vs, _, k, v, rfl, rfl, e1, by omega, by omega, by rw [rv.length]; exact (ixN_seq ek).1, e3, c.put (o := .lst (vs.eraseIdx k)) (u' := .lst (es.eraseIdx k)) sm e ⟨_, rfl, rv.erase k⟩ r3 q⟩
      · exact q.elim
    · exact q.elim
  · cases d <;> exact (q : False).elim
/-- xs.insert(i, x) -/
def vInsert : D → List D → Sto → DK → Prop
  | .ref a, [.int i, d], S, Q => match S a with
    | some (.lst ds) => ds.length < sizeLine ∧ 0 ≤ i ∧ i < 2 ^ 62 ∧ Q .non (sup S a (.lst (ds.take i.toNat ++ [d] ++ ds.drop i.toNat)))
    | _ => False
  | _, _, _, _ => False
theorem lr_insert : LRM X.K (fun x vs H Q => ∃ (l : Addr) (xs : List V) (i : Int) (y : V), x = .ref l ∧ vs = [.int i, y] ∧ H l = some (.lst xs) ∧ xs.length < sizeLine ∧ 0 ≤ i ∧ i < 2 ^ 63 ∧ Q .non (upd H l (.lst (xs.take i.toNat ++ [y] ++ xs.drop i.toNat)))) vInsert := fun x xs dx ds F S H P Q sm rx rxs q c => by
  cases rx <;> first | exact (q : False).elim | skip
  rcases ds with _ | ⟨d, _ | ⟨d2, _ | ⟨_, _⟩⟩⟩ <;> first | exact (q : False).elim | (cases d <;> exact (q : False).elim) | skip
  cases d <;> first | exact (q : False).elim | skip
  cases rxs with
  | cons r1 r2 =>
  cases r2 with
  | cons r2 r3 =>
  cases r3; cases r1
  simp only [vInsert] at q
  split at q
  · rename_i es e
    obtain ⟨vs, e1, rv⟩ := sm.lst e
    obtain ⟨b0, b1, b2, q⟩ := q
    exact ⟨_, vs, _, _, rfl, rfl, e1, by rw [rv.length]; exact b0, b1, by omega, c.put (o := .lst (vs.take _ ++ [_] ++ vs.drop _)) (u' := .lst (es.take _ ++ [_] ++ es.drop _)) sm e ⟨_, rfl, ((rv.take _).append (.cons r2 .nil)).append (rv.drop _)⟩ .non q⟩
  · exact q.elim
/-- xs.extend(ys) -/
def vExtend : D → List D → Sto → DK → Prop
  | .ref a, [.lst es], S, Q => match S a with
    | some (.lst ds) => ds.length + es.length ≤ sizeLine ∧ Q .non (sup S a (.lst (ds ++ es)))
    | _ => False
  | _, _, _, _ => False
theorem lr_extend : LRM X.K rExtend vExtend := fun x xs dx ds F S H P Q sm rx rxs q c => by
  cases rx <;> first | exact (q : False).elim | skip
  rcases ds with _ | ⟨d, _ | ⟨_, _⟩⟩ <;> first | exact (q : False).elim | (cases d <;> exact (q : False).elim) | skip
  cases d <;> first | exact (q : False).elim | skip
  cases rxs with
  | cons r1 r2 =>
  cases r2
  cases r1 with
  | lst hb rb =>
  simp only [vExtend] at q
  split at q
  · rename_i es e
    obtain ⟨vs, e1, rv⟩ := sm.lst e
    obtain ⟨b0, q⟩ := q
    exact ⟨_, _, vs, _, rfl, rfl, e1, fz_same F S H _ _ hb, by rw [rv.length, rb.length]; exact b0, c.put (o := .lst (vs ++ _)) (u' := .lst (es ++ _)) sm e ⟨_, rfl, rv.append rb⟩ .non q⟩
  · exact q.elim
/-! ### sorted, of ints -/
def vSortedI : List D → Sto → DK → Prop
  | [x], S, Q => match (seqOf S x).bind asInts with | some ns => ∀ ns' : List Int, ns'.Perm ns → ns'.Pairwise (· ≤ ·) → Q (.lst (ns'.map .int)) S | none => False
  | _, _, _ => False
theorem dcall_sortedI : DCall X (.builtin "sorted") vSortedI := by
  refine ⟨_, cr_sortedI, fun xs ds F S H P Q sm rx q c => ?_⟩
  rcases ds with _ | ⟨d1, _ | ⟨d2, ds⟩⟩ <;> first | exact (q : False).elim | skip
  cases rx with
  | cons r1 r2 =>
  cases r2
  have q : match (seqOf S d1).bind asInts with | some ns => ∀ ns' : List Int, ns'.Perm ns → ns'.Pairwise (· ≤ ·) → P (.lst (ns'.map .int)) S | none => False := q
  split at q
  · rename_i bs e
    obtain ⟨ds, e1, e2⟩ := Option.bind_eq_some_iff.mp e
    obtain ⟨a, vs, rfl, hs, rl⟩ := seqOf_rel sm r1 e1
    rw [asInts_eq e2] at rl
    exact ⟨a, bs, rfl, by rw [← rl.ints]; exact hs, fun ns' p h1 h2 hp => c.new sm hp (fz_newL sm hp (RelL.ofInts ns')) (q ns' h1 h2)⟩
  · exact q.elim
end
/-! ### dicts -/
def keyOf : D → Option Key
  | .int i => some (Sum.inl i)
  | .str s => some (Sum.inr s)
  | _ => none
def keysOf : List D → Option (List Key)
  | [] => some []
  | d :: r => match keyOf d, keysOf r with
    | some k, some ks => some (k :: ks)
    | _, _ => none
section
variable {κ : Type} [DecidableEq κ]
def valD (kvs : List (κ × D)) (k : κ) : Option D := (kvs.find? fun kv => decide (kv.1 = k)).map (·.2)
def putD (kvs : List (κ × D)) (k : κ) (v : D) : List (κ × D) := if (kvs.any fun kv => decide (kv.1 = k)) = true then kvs.map fun kv => if kv.1 = k then (kv.1, v) else kv else kvs ++ [(k, v)]
theorem RelF.val {K : PySem.W.Frag} {G : Hp} {k : κ} : ∀ {vs : List (κ × V)} {ds : List (κ × D)}, RelF K G vs ds → (valV vs k).isSome = (valD ds k).isSome ∧ ∀ d, valD ds k = some d → ∃ v, valV vs k = some v ∧ Rel K G v d
  | _, _, .nil => ⟨rfl, fun d h => by cases h⟩
  | _, _, .cons (k := j) r t => by
    obtain ⟨h1, h2⟩ := RelF.val (k := k) t
    by_cases e : j = k
    · subst e
      simp only [valV, valD, List.find?_cons, decide_true, Option.map_some]
      exact ⟨rfl, fun d h => by cases h; exact ⟨_, rfl, r⟩⟩
    · simp only [valV, valD, List.find?_cons, decide_eq_false e] at h1 h2 ⊢
      exact ⟨h1, h2⟩
theorem RelF.any {K : PySem.W.Frag} {G : Hp} {k : κ} : ∀ {vs : List (κ × V)} {ds : List (κ × D)}, RelF K G vs ds → (vs.any fun kv => decide (kv.1 = k)) = ds.any fun kv => decide (kv.1 = k)
  | _, _, .nil => rfl
  | _, _, .cons r t => by rw [List.any_cons, List.any_cons, RelF.any t]
theorem RelF.mapPut {K : PySem.W.Frag} {G : Hp} {k : κ} {v : V} {d : D} (q : Rel K G v d) : ∀ {vs : List (κ × V)} {ds : List (κ × D)}, RelF K G vs ds → RelF K G (vs.map fun kv => if kv.1 = k then (kv.1, v) else kv) (ds.map fun kv => if kv.1 = k then (kv.1, d) else kv)
  | _, _, .nil => .nil
  | _, _, .cons (k := j) r t => by
    rw [List.map_cons, List.map_cons]
    by_cases e : j = k
    · rw [if_pos e, if_pos e]
      exact .cons q (RelF.mapPut q t)
    · rw [if_neg e, if_neg e]
      exact .cons r (RelF.mapPut q t)
theorem RelF.put {K : PySem.W.Frag} {G : Hp} {k : κ} {v : V} {d : D} (q : Rel K G v d) {vs : List (κ × V)} {ds : List (κ × D)} (r : RelF K G vs ds) : RelF K G (putK vs k v) (putD ds k d) := by
  unfold putK putD
  rw [r.any]
  split
  · exact r.mapPut q
  · exact r.append (.cons q .nil)
end
theorem Rel.key1 {K : PySem.W.Frag} {G : Hp} {v : V} {d : D} {k : Key} (r : Rel K G v d) (h : keyOf d = some k) : v = kV k := by
  cases r <;> first | (cases h; done) | skip
  all_goals (cases h; rfl)
theorem RelL.keys {K : PySem.W.Frag} {G : Hp} : ∀ {vs : List V} {ds : List D} {ks : List Key}, RelL K G vs ds → keysOf ds = some ks → vs = ks.map kV
  | _, _, _, .nil, h => by cases h; rfl
  | _, _, _, .cons r t, h => by
    unfold keysOf at h
    split at h
    · rename_i k ks e1 e2
      cases h
      rw [r.key1 e1, RelL.keys t e2]
      rfl
    · cases h
/-- what a key finds: of a dict some answer -/
def dGetD (S : Sto) : D → D → Option (Option D)
  | .ref a, y => match S a with
    | some (.dK kvs) => (keyOf y).map (valD kvs)
    | some (.dT kvs) => match y with | .key ds => (keysOf ds).map (valD kvs) | _ => none
    | _ => none
  | .dct ks ds, y => (keyOf y).map (valD (ks.zip ds))
  | _, _ => none
theorem relF_zip {K : PySem.W.Frag} {G : Hp} {κ : Type} : ∀ {vs : List (κ × V)} {ds : List D}, RelL K G (vs.map (·.2)) ds → RelF K G vs ((vs.map (·.1)).zip ds)
  | [], _, h => by cases h; exact .nil
  | (k, v) :: vs, _, h => by
    cases h with
    | cons r t => exact .cons r (relF_zip t)
theorem dGetD_rel {K : PySem.W.Frag} {Γ : KG K} {F : Addr → Bool} {S : Sto} {H : Hp} {v w : V} {x y : D} {o : Option D} (sm : Sim Γ F S H) (rx : Rel K (fz F S H) v x) (ry : Rel K (fz F S H) w y) (h : dGetD S x y = some o) :
    ∃ a r, v = .ref a ∧ DGet H a w r ∧ r.isSome = o.isSome ∧ ∀ d, o = some d → ∃ u, r = some u ∧ Rel K (fz F S H) u d := by
  cases x <;> first | (cases h; done) | skip
  rotate_left
  · cases rx with
    | dct hs rl =>
    simp only [dGetD] at h
    obtain ⟨k, e1, rfl⟩ := Option.map_eq_some_iff.mp h
    obtain ⟨h1, h2⟩ := (relF_zip rl).val (k := k)
    rw [ry.key1 e1]
    exact ⟨_, _, rfl, .inl ⟨_, k, .inr ⟨_, fz_same F S H _ _ hs⟩, rfl, rfl⟩, h1, h2⟩
  rename_i a
  cases rx
  simp only [dGetD] at h
  split at h
  · rename_i kvs e
    obtain ⟨k, e1, rfl⟩ := Option.map_eq_some_iff.mp h
    obtain ⟨vs, e2, r2⟩ := (sm.at_ _ _ e).2
    obtain ⟨h1, h2⟩ := r2.val (k := k)
    rw [ry.key1 e1]
    exact ⟨a, _, rfl, .k e2, h1, h2⟩
  · rename_i kvs e
    split at h
    · rename_i ds
      obtain ⟨k, e1, rfl⟩ := Option.map_eq_some_iff.mp h
      obtain ⟨vs, e2, r2⟩ := (sm.at_ _ _ e).2
      obtain ⟨h1, h2⟩ := r2.val (k := k)
      cases ry with
      | key hs rl =>
      rw [rl.keys e1] at hs
      exact ⟨a, _, rfl, .t e2 (fz_same F S H _ _ hs), h1, h2⟩
    · cases h
  · cases h
abbrev dDGet (to ti : DTE) : DTE := fun δ S Q => to δ S fun x S1 => ti δ S1 fun y S2 => ∃ d, dGetD S2 x y = some (some d) ∧ Q d S2
abbrev dDIn (ti to : DTE) : DTE := fun δ S Q => ti δ S fun y S1 => to δ S1 fun x S2 => ∃ o, dGetD S2 x y = some o ∧ Q (.bl o.isSome) S2
abbrev dDNotIn (ti to : DTE) : DTE := fun δ S Q => ti δ S fun y S1 => to δ S1 fun x S2 => ∃ o, dGetD S2 x y = some o ∧ Q (.bl (!o.isSome)) S2
/-- what the store is behind a[y] = v -/
def dPutD (S : Sto) (v : D) : D → D → Option Sto
  | .ref a, y => match S a with
    | some (.dK kvs) => match keyOf y with | some k => if kvs.length < sizeLine then some (sup S a (.dK (putD kvs k v))) else none | none => none
    | some (.dT kvs) => match y with
      | .key ds => match keysOf ds with | some k => if kvs.length < sizeLine then some (sup S a (.dT (putD kvs k v))) else none | none => none
      | _ => none
    | _ => none
  | _, _ => none
abbrev dDPut (to ti tv : DTE) : DTS := fun D δ S => tv δ S fun v S1 => to δ S1 fun x S2 => ti δ S2 fun y S3 => ∃ S4, dPutD S3 v x y = some S4 ∧ D.nx δ S4
theorem dPutD_rel {K : PySem.W.Frag} {Γ : KG K} {F : Addr → Bool} {S S4 : Sto} {H : Hp} {v w u : V} {x y d : D} (sm : Sim Γ F S H) (rx : Rel K (fz F S H) v x) (ry : Rel K (fz F S H) w y) (rd : Rel K (fz F S H) u d) (h : dPutD S d x y = some S4) :
    ∃ a H4, v = .ref a ∧ DPut H a w u H4 ∧ Go Γ F S H S4 H4 := by
  cases x <;> first | (cases h; done) | skip
  rename_i a
  cases rx
  simp only [dPutD] at h
  split at h
  · rename_i kvs e
    split at h
    · rename_i k e1
      split at h
      · rename_i hl
        cases h
        obtain ⟨vs, e2, r2⟩ := (sm.at_ _ _ e).2
        rw [ry.key1 e1]
        exact ⟨a, _, rfl, .k e2 (by rw [r2.length]; exact hl), sm.put e ⟨_, rfl, r2.put rd⟩⟩
      · cases h
    · cases h
  · rename_i kvs e
    split at h
    · rename_i ds
      split at h
      · rename_i k e1
        split at h
        · rename_i hl
          cases h
          obtain ⟨vs, e2, r2⟩ := (sm.at_ _ _ e).2
          cases ry with
          | key hs rl =>
          rw [rl.keys e1] at hs
          exact ⟨a, _, rfl, .t e2 (fz_same F S H _ _ hs) (by rw [r2.length]; exact hl), sm.put e ⟨_, rfl, r2.put rd⟩⟩
        · cases h
      · cases h
    · cases h
  · cases h
section
variable {X : Cx} {Γ : KG X.K} {a b o e i value : Expr} {ta tb to te ti tv : DTE} {t : DTA} {es : List Expr} {pos apos cpos p tpos : Pos}
theorem dpe_dget (hu : X.A.units + 1 < cLine) (ho : DPE X Γ o to) (hi : DPE X Γ i ti) (hs : NoSl i := by intro _ _; rfl) : DPE X Γ (.Subscript o i pos) (dDGet to ti) :=
  PEw (pe_dget hu ho hi hs) fun σ H Q ⟨F, δ, S, P, sm, rs, h, c⟩ => ⟨F, δ, S, _, sm, rs, h, fun dx S1 h1 x H1 g1 rx => ⟨F, δ, S1, _, g1.sim, rs.mono g1.same, h1, fun dy S2 ⟨d, h2, h3⟩ y H2 g2 ry => by
    obtain ⟨a, r, rfl, g, _, k⟩ := dGetD_rel g2.sim (rx.mono g2.same) ry h2
    obtain ⟨u, rfl, ru⟩ := k d rfl
    exact ⟨a, u, rfl, g, (c.mono (g1.trans g2)).use g2.sim ru h3⟩⟩⟩
theorem lf_din {Q : VK} {σ : L2.St} {H : Hp} (h : lf Γ (dDIn ti to) σ H Q) : tDIn (lf Γ ti) (lf Γ to) σ H Q := by
  obtain ⟨F, δ, S, P, sm, rs, h, c⟩ := h
  refine ⟨F, δ, S, _, sm, rs, h, fun dy S1 h1 y H1 g1 ry => ⟨F, δ, S1, _, g1.sim, rs.mono g1.same, h1, fun dx S2 ⟨d, h2, h3⟩ x H2 g2 rx => ?_⟩⟩
  obtain ⟨a, r, rfl, g, e, k⟩ := dGetD_rel g2.sim rx (ry.mono g2.same) h2
  exact ⟨a, r, rfl, g, (c.mono (g1.trans g2)).use g2.sim (by rw [e]; exact .bl _) h3⟩
theorem lf_dnotin {Q : VK} {σ : L2.St} {H : Hp} (h : lf Γ (dDNotIn ti to) σ H Q) : tDNotIn (lf Γ ti) (lf Γ to) σ H Q := by
  obtain ⟨F, δ, S, P, sm, rs, h, c⟩ := h
  refine ⟨F, δ, S, _, sm, rs, h, fun dy S1 h1 y H1 g1 ry => ⟨F, δ, S1, _, g1.sim, rs.mono g1.same, h1, fun dx S2 ⟨d, h2, h3⟩ x H2 g2 rx => ?_⟩⟩
  obtain ⟨a, r, rfl, g, e, k⟩ := dGetD_rel g2.sim rx (ry.mono g2.same) h2
  exact ⟨a, r, rfl, g, (c.mono (g1.trans g2)).use g2.sim (by rw [e]; exact .bl _) h3⟩
theorem dpe_din (hu : X.A.units + 1 < cLine) (hi : DPE X Γ i ti) (ho : DPE X Γ o to) (hm : behindInMarks .In o = false := by rfl) : DPE X Γ (.Compare i [.In] [o] pos) (dDIn ti to) := PEw (pe_cmp (pc_din hu hi ho) hm) fun σ H Q h => lf_din h
theorem dpe_dnotin (hu : X.A.units + 1 < cLine) (hi : DPE X Γ i ti) (ho : DPE X Γ o to) (hm : behindInMarks .NotIn o = false := by rfl) : DPE X Γ (.Compare i [.NotIn] [o] pos) (dDNotIn ti to) := PEw (pe_cmp (pc_dnotin hu hi ho) hm) fun σ H Q h => lf_dnotin h
theorem dpt_din (hu : X.A.units + 1 < cLine) (hi : DPE X Γ i ti) (ho : DPE X Γ o to) (hm : behindInMarks .In o = false := by rfl) : DPT X Γ (.Compare i [.In] [o] pos) (dTest (dDIn ti to)) := PTw (pt_cmp (pc_din hu hi ho) hm) fun σ H Q h => lf_din (lf_test σ H Q h)
theorem dpt_dnotin (hu : X.A.units + 1 < cLine) (hi : DPE X Γ i ti) (ho : DPE X Γ o to) (hm : behindInMarks .NotIn o = false := by rfl) : DPT X Γ (.Compare i [.NotIn] [o] pos) (dTest (dDNotIn ti to)) := PTw (pt_cmp (pc_dnotin hu hi ho) hm) fun σ H Q h => lf_dnotin (lf_test σ H Q h)
theorem dps_dput (hu : X.A.units + 1 < cLine) (ho : DPE X Γ o to) (hi : DPE X Γ i ti) (hv : DPE X Γ value tv) (hs : swapsWith value (some (.Subscript o i tpos)) pos.line X.env = pure false := by rfl) : DPS X Γ (.Assign [.Subscript o i tpos] value pos) (dDPut to ti tv) :=
  PSw (ps_dput hu ho hi hv hs) fun D σ H ⟨F, δ, S, P, sm, rs, h, c⟩ => ⟨F, δ, S, _, sm, rs, h, fun dv S1 h1 v H1 g1 rv => ⟨F, δ, S1, _, g1.sim, rs.mono g1.same, h1, fun dx S2 h2 x H2 g2 rx =>
    ⟨F, δ, S2, _, g2.sim, (rs.mono g1.same).mono g2.same, h2, fun dy S3 ⟨S4, h3, h4⟩ y H3 g3 ry => by
      have g13 := (g1.trans g2).trans g3
      obtain ⟨a, H4, rfl, dp, g4⟩ := dPutD_rel g3.sim (rx.mono g3.same) ry (rv.mono (g2.trans g3).same) h3
      exact ⟨a, H4, rfl, dp, c.nx _ _ h4 _ _ (g13.trans g4) ((rs.mono g13.same).mono g4.same)⟩⟩⟩⟩
/-- a new dict -/
abbrev dNewK : DTE := fun _ S Q => ∀ p, S p = none → Q (.ref p) (sup S p (.dK []))
abbrev dNewT : DTE := fun _ S Q => ∀ p, S p = none → Q (.ref p) (sup S p (.dT []))
theorem dpe_dnewK : DPE X Γ (.Dict [] [] pos) dNewK := PEw pe_dnewK fun σ H Q ⟨F, δ, S, P, sm, rs, h, c⟩ p hp => c.newM (o := .dK []) (u := .dK []) sm hp ⟨[], rfl, .nil⟩ (.ref p) (h p (sm.none hp).2)
theorem dpe_dnewT : DPE X Γ (.Dict [] [] pos) dNewT := PEw pe_dnewT fun σ H Q ⟨F, δ, S, P, sm, rs, h, c⟩ p hp => c.newM (o := .dT []) (u := .dT []) sm hp ⟨[], rfl, .nil⟩ (.ref p) (h p (sm.none hp).2)
end
/-! ### displays of dicts -/
def dArgs : List DTE → DTA
  | [] => dNil
  | t :: r => dCons t (dArgs r)
abbrev tKey (k : Key) : TE := fun _ H Q => Q (kV k) H
def prs {K : PySem.W.Frag} (Γ : KG K) : List Key → List DTE → List (TE × TE)
  | k :: ks, t :: ts => (tKey k, lf Γ t) :: prs Γ ks ts
  | _, _ => []
def zipK {α : Type} : List Key → List α → List (Key × α)
  | k :: ks, x :: xs => (k, x) :: zipK ks xs
  | _, _ => []
theorem prs_ok {K : PySem.W.Frag} {Γ : KG K} {F : Addr → Bool} : ∀ (ks : List Key) (ts : List DTE), ks.length = ts.length → ∀ {σ : L2.St} {δ : DSt} {S : Sto} {H : Hp} {P : List D → Sto → Prop} {R : List (V × V) → Hp → Prop}, Sim Γ F S H → RelS K (fz F S H) σ δ → dArgs ts δ S P →
    (∀ ds S' vs H', P ds S' → Go Γ F S H S' H' → RelL K (fz F S' H') vs ds → vs.length = ks.length → R ((zipK ks vs).map fun kv => (kV kv.1, kv.2)) H') → tPairs (prs Γ ks ts) σ H R
  | [], [], _, σ, δ, S, H, P, R, sm, rs, h, c => c [] S [] H h (Go.refl sm) .nil rfl
  | k :: ks, t :: ts, hl, σ, δ, S, H, P, R, sm, rs, h, c => by
    refine ⟨F, δ, S, _, sm, rs, h, fun d S1 h1 v H1 g1 r1 => ?_⟩
    exact prs_ok ks ts (by simpa using hl) g1.sim (rs.mono g1.same) h1 fun ds S' vs H' p g r l => c (d :: ds) S' (v :: vs) H' p (g1.trans g) (.cons (r1.mono g.same) r) (by simp [l])
theorem zipK_rel {K : PySem.W.Frag} {G : Hp} : ∀ {ks : List Key} {vs : List V} {ds : List D}, RelL K G vs ds → RelF K G (zipK ks vs) (zipK ks ds)
  | [], _, _, _ => .nil
  | _ :: _, _, _, .nil => .nil
  | _ :: _, _, _, .cons r t => .cons r (zipK_rel t)
theorem zipK_keys {α : Type} : ∀ {ks : List Key} {vs : List α}, ∀ k v, (k, v) ∈ zipK ks vs → k ∈ ks
  | [], _, _, _, h => by cases h
  | _ :: _, [], _, _, h => by cases h
  | j :: ks, x :: xs, k, v, h => by
    rcases List.mem_cons.mp h with h | h
    · cases h; exact List.mem_cons_self
    · exact List.mem_cons_of_mem _ (zipK_keys k v h)
theorem merge_nodup : ∀ (ks : List Key) (vs : List V) (acc : List (Key × V)), ks.Nodup → (∀ k v, (k, v) ∈ acc → k ∉ ks) → mergeK acc (zipK ks vs) = acc ++ zipK ks vs
  | [], _, acc, _, _ => by simp [zipK, mergeK]
  | _ :: _, [], acc, _, _ => by simp [zipK, mergeK]
  | k :: ks, v :: vs, acc, hn, ha => by
    obtain ⟨hk, hn⟩ := List.nodup_cons.mp hn
    have e : putK acc k v = acc ++ [(k, v)] := by
      refine putK_new v ?_
      unfold valV
      rw [List.find?_eq_none.mpr fun x hx => by
        simp only [decide_eq_true_eq]
        intro z
        obtain ⟨a, b⟩ := x
        exact ha a b hx (by rw [show a = k from z]; exact List.mem_cons_self)]
      rfl
    show mergeK (putK acc k v) (zipK ks vs) = acc ++ (k, v) :: zipK ks vs
    rw [e, merge_nodup ks vs _ hn fun a b hx => ?_, List.append_assoc]
    · rfl
    · rcases List.mem_append.mp hx with hx | hx
      · exact fun z => ha a b hx (List.mem_cons_of_mem _ z)
      · cases List.mem_singleton.mp hx
        exact hk
theorem zipK_len {α : Type} : ∀ (ks : List Key) (vs : List α), (zipK ks vs).length ≤ ks.length
  | [], _ => Nat.le_refl _
  | _ :: _, [] => Nat.zero_le _
  | _ :: ks, _ :: vs => Nat.succ_le_succ (zipK_len ks vs)
abbrev dDisp (ks : List Key) (t : DTA) : DTE := fun δ S Q => t δ S fun ds S1 => ∀ p, S1 p = none → Q (.ref p) (sup S1 p (.dK (zipK ks ds)))
theorem dpe_disp {X : Cx} {Γ : KG X.K} {keys : List (Option Expr)} {values : List Expr} {pos : Pos} {ks : List Key} {ts : List DTE} (h : PPs X pos keys values (prs Γ ks ts)) (hn : ks.Nodup) (h15 : ks.length ≤ 15) (hks : ks.length = ts.length) (hall : keys.all (·.isSome) = true := by rfl) (hl : keys.length = values.length := by rfl) (h0 : keys ≠ [] := by simp) (hk15 : keys.length ≤ 15 := by decide) :
    DPE X Γ (.Dict keys values pos) (dDisp ks (dArgs ts)) := PEw (pe_disp h hall hl h0 hk15) fun σ H Q ⟨F, δ, S, P, sm, rs, q, c⟩ p hp => by
  have fp := (sm.none hp).1
  have s1 : Sim Γ (hide F p) S (upd H p (.dK [])) := sm.hideNew hp
  refine prs_ok ks ts hks s1 (rs.mono (fz_hide_new hp)) q fun ds S' vs H' q2 g r l => ?_
  have e2 : H' p = some (.dK []) := (g.hid p (by simp [hide])).trans upd_same
  have np : S' p = none := by
    cases z : S' p with
    | none => rfl
    | some u =>
      have q := (g.sim.at_ p u z).1
      simp [hide] at q
  have zl : (zipK ks vs).length ≤ 15 := Nat.le_trans (zipK_len ks vs) h15
  refine ⟨e2, zipK ks vs, rfl, zl, ?_⟩
  rw [merge_nodup ks vs [] hn (fun _ _ hx => by cases hx), List.nil_append]
  have same2 : Same (fz (hide F p) S' H') (fz F (sup S' p (.dK (zipK ks ds))) (upd H' p (.dK (zipK ks vs)))) := fun b x e => by
    obtain ⟨h0, h1, h2⟩ := fz_of e
    have nb : b ≠ p := fun z => by subst z; simp [hide] at h0
    rw [fz_none (by simpa [hide, nb] using h0) (by rw [sup_ne nb]; exact h1), upd_ne nb]
    exact h2
  have gb : GoB X.K F S H (sup S' p (.dK (zipK ks ds))) (upd H' p (.dK (zipK ks vs))) := by
    refine ⟨fun b x e => same2 _ _ (g.same _ _ (fz_hide_new hp _ _ e)), fun a f => ?_, ⟨fun a u e => ?_, fun a f => ?_⟩⟩
    · have na : a ≠ p := fun z => by subst z; rw [fp] at f; cases f
      rw [upd_ne na, g.hid a (by simp [hide, na, f]), upd_ne na]
    · by_cases na : a = p
      · subst na
        rw [sup_same] at e; cases e
        rw [upd_same]
        exact ⟨fp, _, rfl, zipK_rel (r.mono same2)⟩
      · rw [sup_ne na] at e
        rw [upd_ne na]
        have q := g.sim.at_ a u e
        exact ⟨by simpa [hide, na] using q.1, q.2.mono same2⟩
    · have na : a ≠ p := fun z => by subst z; rw [fp] at f; cases f
      obtain ⟨x, q⟩ := g.sim.hid a (by simp [hide, na, f])
      exact ⟨x, by rw [upd_ne na]; exact q⟩
  exact c _ _ (q2 p np) _ _ (.of sm gb) (.ref p)
end L3

set_option Elab.async false
set_option maxRecDepth 100000
set_option linter.all false
set_option maxHeartbeats 2000000
namespace L3
open PySem PySem.Spec PyProof.Rows L2
/-! ### len, of dicts with tuples as keys too -/
def vLenT : List D → Sto → DK → Prop
  | [.ref a], S, Q => match S a with
    | some (.dT kvs) => Q (.int kvs.length) S
    | _ => False
  | _, _, _ => False
section
variable {X : Cx} {Γ : KG X.K}
theorem dcall_lenT : DCall X (.builtin "len") vLenT := by
  refine ⟨_, call_len_dT, fun xs ds F S H P Q sm rx q c => ?_⟩
  cases rx with
  | nil => exact (q : False).elim
  | cons r1 r2 =>
  cases r2 with
  | cons _ _ => cases r1 <;> exact (q : False).elim
  | nil =>
  cases r1 <;> first | exact (q : False).elim | skip
  simp only [vLenT] at q
  split at q
  · rename_i e
    obtain ⟨vs, e1, r1⟩ := (sm.at_ _ _ e).2
    exact ⟨_, _, rfl, e1, c.use sm (by rw [r1.length]; exact .int _) q⟩
  · exact q.elim
end
/-! ### range(a, b, -1) -/
def downD (hi : Int) (n : Nat) : List D := (List.range n).map fun i => .int (hi - (i : Nat))
abbrev iDown (ta tb tz : DTE) : DTI := fun δ S Q => ta δ S fun x S1 => tb δ S1 fun y S2 => tz δ S2 fun z S3 => match x, y, z with
  | .int i, .int j, .int k => k = -1 ∧ (-(2 ^ 62) ≤ i ∧ i < 2 ^ 62 ∧ -(2 ^ 62) ≤ j ∧ j < 2 ^ 62) ∧ Q (fun _ => True) (downD i (i - j).toNat) S3
  | _, _, _ => False
theorem walk_down {K : PySem.W.Frag} {Γ : KG K} {F : Addr → Bool} {S : Sto} {H : Hp} {hi : Int} {n : Nat} : WalkD Γ F S H (fun _ => True) (downD hi n) (Itc hi (-1) n) := fun F' S' H' g s _ => by
  have hl : (downD hi n).length = n := by simp [downD]
  rw [hl]
  refine ⟨fun i h => h, Nat.le_refl _, fun i x H2 h y => ?_⟩
  obtain ⟨rfl, rfl⟩ := y
  refine ⟨.int (hi - i), ?_, Go.refl s, ?_⟩
  · unfold downD
    rw [List.getElem?_map, List.getElem?_range h]
    rfl
  · rw [show hi - (i : Int) = hi + i * -1 by omega]
    exact .int _
section
variable {X : Cx} {Γ : KG X.K} {tg a b c e : Expr} {ta tb te tz : DTE} {p pos p1 p2 : Pos} {k : Nat}
theorem dpi_down (hg : Gl X "range") (hm : X.mg "range" = none) (h : DPE X Γ a ta) (h' : DPE X Γ b tb) (hc : DPE X Γ c tz) (hs : starEach [a, b, c] X.env = (false, eval a X.env) :: starEach [b, c] X.env := by rfl) (hpl : (backTo pos (starEach [b, c] X.env)).any (·.1) = false := by rfl)
    (hs1 : starEach [b, c] X.env = (false, eval b X.env) :: starEach [c] X.env := by rfl) (hs2 : starEach [c] X.env = (false, eval c X.env) :: starEach [] X.env := by rfl) : DPI X Γ tg (.Call (.Name "range" p) [a, b, c] [] pos) (iDown ta tb tz) :=
  PIw (pi_range3 hg hm (dpa_cons h (dpa_cons h' (dpa_cons hc dpa_nil hs2) hs1) hs) hs hpl) fun σ H R ⟨F, δ, S, P, sm, rs, h, c⟩ => ⟨F, δ, S, fun ds S1 => match ds with
  | [x, y, z] => (match x, y, z with
    | .int i, .int j, .int k => k = -1 ∧ (-(2 ^ 62) ≤ i ∧ i < 2 ^ 62 ∧ -(2 ^ 62) ≤ j ∧ j < 2 ^ 62) ∧ P (fun _ => True) (downD i (i - j).toNat) S1
    | _, _, _ => False)
  | _ => False, sm, rs, h, fun ds S1 h1 vs H1 g1 r1 => by
    rcases ds with _ | ⟨x, _ | ⟨y, _ | ⟨z, _ | ⟨_, _⟩⟩⟩⟩ <;> first | exact (h1 : False).elim | skip
    cases x <;> first | exact (h1 : False).elim | skip
    cases y <;> first | exact (h1 : False).elim | skip
    cases z <;> first | exact (h1 : False).elim | skip
    cases r1 with
    | cons r1 r2 =>
    cases r2 with
    | cons r2 r3 =>
    cases r3 with
    | cons r3 r4 =>
    cases r4
    cases r1; cases r2; cases r3
    obtain ⟨rfl, ⟨b0, b1, b2, b3⟩, h3⟩ := h1
    exact ⟨_, _, _, _, rfl, .neg b0 b1 b2 b3, c _ _ _ h3 _ _ g1 walk_down⟩⟩
/-! ### zip -/
/-- two lists, or two tuples -/
abbrev iZipA (ta tb : DTE) : DTI := fun δ S Q => ta δ S fun x S1 => tb δ S1 fun y S2 => match itAll S2 x, itAll S2 y with
  | some p, some q => p.2.2 = q.2.2 ∧ Q (fun S' => p.1 S' ∧ q.1 S') ((p.2.1.zip q.2.1).map fun z => .key [z.1, z.2]) S2
  | _, _ => False
theorem zip_get {xs ys : List D} {i : Nat} {x y : D} (h : xs[i]? = some x) (h' : ys[i]? = some y) : ((xs.zip ys).map fun z => D.key [z.1, z.2])[i]? = some (.key [x, y]) := by
  have e : (xs.zip ys)[i]? = some (x, y) := List.getElem?_zip_eq_some.mpr ⟨h, h'⟩
  rw [List.getElem?_map, e]
  rfl
theorem walk_zipL {K : PySem.W.Frag} {Γ : KG K} {F : Addr → Bool} {S : Sto} {H : Hp} {a b : Addr} {ds es : List D} {kp kq : Sto → Prop} (h1 : HeldB Γ F S H kp a ds true) (h2 : HeldB Γ F S H kq b es true) : WalkD Γ F S H (fun S' => kp S' ∧ kq S') ((ds.zip es).map fun z => .key [z.1, z.2]) (Itz K a b) := fun F' S' H' g s k => by
  obtain ⟨xs, a1, a2⟩ := h1 F' S' H' g s k.1
  obtain ⟨ys, b1, b2⟩ := h2 F' S' H' g s k.2
  have hl : ((ds.zip es).map fun z => D.key [z.1, z.2]).length = min ds.length es.length := by simp
  rw [hl]
  refine ⟨fun i hi => ?_, ⟨xs, ys, a1, b1, ?_⟩, fun i x H2 hi y => ?_⟩
  · obtain ⟨v, e1, _⟩ := a2.get (List.getElem?_eq_getElem (show i < ds.length by omega))
    obtain ⟨w, e2, _⟩ := b2.get (List.getElem?_eq_getElem (show i < es.length by omega))
    exact ⟨xs, ys, v, w, a1, b1, e1, e2⟩
  · rw [a2.length, b2.length]
    omega
  · obtain ⟨T, u, w, rfl, hT, rfl, e1, e2⟩ := y
    obtain ⟨d, e3, r3⟩ := a2.get' (e1 xs a1)
    obtain ⟨e, e4, r4⟩ := b2.get' (e2 ys b1)
    exact ⟨_, zip_get e3 e4, s.new hT, .key (fz_new s hT) (.cons (r3.mono (same_new hT)) (.cons (r4.mono (same_new hT)) .nil))⟩
theorem walk_zipT {K : PySem.W.Frag} {Γ : KG K} {F : Addr → Bool} {S : Sto} {H : Hp} {a b : Addr} {ds es : List D} {kp kq : Sto → Prop} (h1 : HeldB Γ F S H kp a ds false) (h2 : HeldB Γ F S H kq b es false) : WalkD Γ F S H (fun S' => kp S' ∧ kq S') ((ds.zip es).map fun z => .key [z.1, z.2]) (RZ.ItzT K a b) := fun F' S' H' g s k => by
  obtain ⟨xs, a1, a2⟩ := h1 F' S' H' g s k.1
  obtain ⟨ys, b1, b2⟩ := h2 F' S' H' g s k.2
  have hl : ((ds.zip es).map fun z => D.key [z.1, z.2]).length = min ds.length es.length := by simp
  rw [hl]
  refine ⟨fun i hi => ?_, ⟨xs, ys, a1, b1, ?_⟩, fun i x H2 hi y => ?_⟩
  · obtain ⟨v, e1, _⟩ := a2.get (List.getElem?_eq_getElem (show i < ds.length by omega))
    obtain ⟨w, e2, _⟩ := b2.get (List.getElem?_eq_getElem (show i < es.length by omega))
    exact ⟨xs, ys, v, w, a1, b1, e1, e2⟩
  · rw [a2.length, b2.length]
    omega
  · obtain ⟨T, u, w, rfl, hT, rfl, e1, e2⟩ := y
    obtain ⟨d, e3, r3⟩ := a2.get' (e1 xs a1)
    obtain ⟨e, e4, r4⟩ := b2.get' (e2 ys b1)
    exact ⟨_, zip_get e3 e4, s.new hT, .key (fz_new s hT) (.cons (r3.mono (same_new hT)) (.cons (r4.mono (same_new hT)) .nil))⟩
theorem HeldB.mono {K : PySem.W.Frag} {Γ : KG K} {F : Addr → Bool} {S S1 : Sto} {H H1 : Hp} {kp : Sto → Prop} {a : Addr} {ds : List D} {b : Bool} (h : HeldB Γ F S H kp a ds b) (e : Same (fz F S H) (fz F S1 H1)) : HeldB Γ F S1 H1 kp a ds b := fun F' S' H' g s k => h F' S' H' (e.trans g) s k
variable {e2 : Expr} {elts : List Expr} {kk : Nat} {tpos : Pos}
theorem dpi_zip (hg : Gl X "zip") (hm : X.mg "zip" = none) (h : DPE X Γ e ta) (h' : DPE X Γ e2 tb) (hs : starEach [e, e2] X.env = (false, eval e X.env) :: starEach [e2] X.env := by rfl) (hs2 : starEach [e2] X.env = (false, eval e2 X.env) :: starEach [] X.env := by rfl) (hpl : (backTo pos (starEach [e2] X.env)).any (·.1) = false := by rfl) :
    DPI X Γ (.Tuple elts kk tpos) (.Call (.Name "zip" p) [e, e2] [] pos) (iZipA ta tb) :=
  PIw (RZ.pi_zipA hg hm (dpa_cons h (dpa_cons h' dpa_nil hs2) hs) hs hpl) fun σ H R ⟨F, δ, S, P, sm, rs, h, c⟩ => ⟨F, δ, S, fun ds S1 => match ds with
  | [x, y] => (match itAll S1 x, itAll S1 y with
    | some p, some q => p.2.2 = q.2.2 ∧ P (fun S' => p.1 S' ∧ q.1 S') ((p.2.1.zip q.2.1).map fun z => .key [z.1, z.2]) S1
    | _, _ => False)
  | _ => False, sm, rs, h, fun ds S1 h1 vs H1 g1 r1 => by
    rcases ds with _ | ⟨x, _ | ⟨y, _ | ⟨_, _⟩⟩⟩ <;> first | exact (h1 : False).elim | skip
    cases r1 with
    | cons r1 r2 =>
    cases r2 with
    | cons r2 r3 =>
    cases r3
    have h1 : match itAll S1 x, itAll S1 y with
      | some p, some q => p.2.2 = q.2.2 ∧ P (fun S' => p.1 S' ∧ q.1 S') ((p.2.1.zip q.2.1).map fun z => .key [z.1, z.2]) S1
      | _, _ => False := h1
    split at h1
    · rename_i p q e1 e2
      obtain ⟨a, vs, rfl, s1, _, w1⟩ := itAll_rel g1.sim r1 e1
      obtain ⟨b, ws, rfl, s2, _, w2⟩ := itAll_rel g1.sim r2 e2
      obtain ⟨eb, h1⟩ := h1
      obtain ⟨kp, ds, pb⟩ := p
      obtain ⟨kq, es, qb⟩ := q
      have eb : pb = qb := eb
      subst eb
      cases pb with
      | true => exact ⟨a, b, vs, ws, rfl, .inl ⟨s1, s2, c _ _ _ h1 _ _ g1 (walk_zipL w1 w2)⟩⟩
      | false => exact ⟨a, b, vs, ws, rfl, .inr ⟨s1, s2, c _ _ _ h1 _ _ g1 (walk_zipT w1 w2)⟩⟩
    · exact h1.elim⟩
end
/-! ### calls with keywords -/
def perm {α : Type} (p : List Nat) (xs : List α) : List α := p.filterMap fun i => xs[i]?
theorem Vals.perm {vs : List V} {us : List Value} (r : Vals vs us) : ∀ p : List Nat, Vals (L3.perm p vs) (L3.perm p us)
  | [] => .nil
  | i :: p => by
    unfold L3.perm
    rw [List.filterMap_cons, List.filterMap_cons]
    by_cases h : i < vs.length
    · obtain ⟨u, e, ru⟩ := r.get (List.getElem?_eq_getElem h)
      rw [List.getElem?_eq_getElem h, e]
      exact .cons ru (Vals.perm r p)
    · rw [List.getElem?_eq_none (by omega), List.getElem?_eq_none (by rw [← r.length]; omega)]
      exact Vals.perm r p
theorem RelL.perm {K : PySem.W.Frag} {G : Hp} {vs : List V} {ds : List D} (r : RelL K G vs ds) : ∀ p : List Nat, RelL K G (L3.perm p vs) (L3.perm p ds)
  | [] => .nil
  | i :: p => by
    unfold L3.perm
    rw [List.filterMap_cons, List.filterMap_cons]
    by_cases h : i < ds.length
    · obtain ⟨u, e, ru⟩ := r.get (List.getElem?_eq_getElem h)
      rw [List.getElem?_eq_getElem h, e]
      exact .cons ru (RelL.perm r p)
    · have hl := r.length
      rw [List.getElem?_eq_none (show vs.length ≤ i by omega), List.getElem?_eq_none (show ds.length ≤ i by omega)]
      exact RelL.perm r p
/-- how a call binds: nu values by position, those of ks by name; p says which goes where -/
structure KwB (fd : FuncData) (ps ks : List Str) (nu : Nat) (p : List Nat) : Prop where
  to : ∀ (us ws : List Value), us.length = nu → ws.length = ks.length → bindArgs fd ⟨us, ks.zip ws⟩ = pure (ps.zip (perm p (us ++ ws)))
theorem kwB_of {K : PySem.W.Frag} {x qual : Str} {st : Stmt} {f : Addr} {fd : FuncData} {ps ks : List Str} {nu : Nat} {p : List Nat} (F : Fun K x qual st f fd)
    (h : ∀ (kV doc pm : Value) (an : Option Addr) (cdv ct : Value) (us ws : List Value), us.length = nu → ws.length = ks.length → bindArgs (PySem.W.fnOf x qual (defArgs st) (defBody st) (defScope st) .none kV doc pm an cdv ct) ⟨us, ks.zip ws⟩ = pure (ps.zip (perm p (us ++ ws)))) : KwB fd ps ks nu p := by
  obtain ⟨oc, od, kV, doc, pm, an, cdv, ct, osl, rfl, lk, hcd⟩ := F.ex
  exact ⟨h kV doc pm an cdv ct⟩
section
variable {X : Cx} {CX : CXT} {k nu : Nat} {f : Addr} {fd : FuncData} {ps ks : List Str} {pm : List Nat} {sp : Sp} {E : L2.St → XK} {x : Str} {p pos : Pos} {e : Expr} {es : List Expr} {kws : List Keyword} {t tk : TA}
abbrev tKw (sp : Sp) (pm : List Nat) (nu nk : Nat) (E : L2.St → XK) (t tk : TA) : TE := fun σ H Q => t σ H fun vs H1 => tk σ H1 fun zs H2 => vs.length = nu ∧ zs.length = nk ∧ sp (perm pm (vs ++ zs)) H2 Q (E σ)
theorem run_kw {pins : List (Addr × Obj)} {σ : L2.St} {H : Hp} {s : Shared} {Q : VK} {us ws : List Value} {vs zs : List V} (F : FnOk X.prog X.w X.K X.mg X.base CX k f fd ps sp) (hr : Room k X.A) (hb : KwB fd ps ks nu pm) (hx : PassesAt CX X σ (E σ))
    (I : Inv X pins σ H s) (r : Vals vs us) (rz : Vals zs ws) (h1 : vs.length = nu) (h2 : zs.length = ks.length) (h : sp (perm pm (vs ++ zs)) H Q (E σ)) : wpAny (model X.prog X.w) X.A (call (.ref f) us (ks.zip ws)) (EP X pins σ Q) X.xe s := by
  have r2 : Vals (perm pm (vs ++ zs)) (perm pm (us ++ ws)) := Vals.perm (r.append rz) pm
  refine wpAny_call (codeAny_mono (F.run X.A X.stack s H ⟨us, ks.zip ws⟩ _ _ Q (E σ) hr I.env0 (.of_eq (hb.to us ws (by rw [← r.length]; exact h1) (by rw [← rz.length]; exact h2))) r2 h) fun r s' hq => ?_)
  rcases r with e | fl
  · exact hx pins H s e s' I hq
  · cases fl <;> first | exact hq.elim | exact I.after hq
theorem pe_kw (F : FnOk X.prog X.w X.K X.mg X.base CX k f fd ps sp) (hr : Room k X.A) (hg : Gl X x) (hm : X.mg x = some (.ref f)) (hk : PySem.W.keepIn X.K (.ref f) = true) (hb : KwB fd ps ks nu pm) (hx : ∀ σ, PassesAt CX X σ (E σ))
    (ha : PA X (e :: es) t) (hkw : PK X kws tk) (hall : (backToKw pos (keywordEach kws X.env)).all (·.1.isSome) = true) (hks : (backToKw pos (keywordEach kws X.env)).filterMap (·.1) = ks)
    (hdb : (x == ("__debug__" : Str)) = false) (he : starEach (e :: es) X.env = (false, eval e X.env) :: starEach es X.env) (hpl : ((backTo pos (starEach (e :: es) X.env)).any (·.1) || (backToKw pos (keywordEach kws X.env)).any (·.1.isNone)) = false) :
    PE X (.Call (.Name x p) (e :: es) kws pos) (tKw sp pm nu ks.length E t tk) := by
  refine ⟨fun pins s σ H Q I h => wpAny_Call_Name_kw (ld_glob I hg hm ?_ hdb)⟩
  refine PySem.W.callWith_KW (h₀ := X.base) I.ok.mod.kin hk hall (thn (ha.run pos pins s σ H _ I h) fun us s1 ⟨vs, H1, I1, r, q⟩ => ?_) hpl he
  refine thn (hkw.run pos pins s1 σ H1 _ I1 q) fun ws s2 ⟨zs, H2, I2, rz, q1, q2, q3⟩ => ⟨I2.kIn, ?_⟩
  rw [hks]
  exact run_kw F hr hb (hx σ) I2 r rz q1 q2 q3
theorem pe_kw0 (F : FnOk X.prog X.w X.K X.mg X.base CX k f fd ps sp) (hr : Room k X.A) (hg : Gl X x) (hm : X.mg x = some (.ref f)) (hk : PySem.W.keepIn X.K (.ref f) = true) (hb : KwB fd ps ks nu pm) (hx : ∀ σ, PassesAt CX X σ (E σ))
    (hkw : PK X kws tk) (hall : (backToKw pos (keywordEach kws X.env)).all (·.1.isSome) = true) (hks : (backToKw pos (keywordEach kws X.env)).filterMap (·.1) = ks)
    (hdb : (x == ("__debug__" : Str)) = false) (hpl : ((backTo pos (starEach [] X.env)).any (·.1) || (backToKw pos (keywordEach kws X.env)).any (·.1.isNone)) = false) :
    PE X (.Call (.Name x p) [] kws pos) (tKw sp pm nu ks.length E tNil tk) := by
  refine ⟨fun pins s σ H Q I h => wpAny_Call_Name_kw (ld_glob I hg hm ?_ hdb)⟩
  refine PySem.W.callWith_KW0 (h₀ := X.base) I.ok.mod.kin hk hall (thn (hkw.run pos pins s σ H _ I h) fun ws s2 ⟨zs, H2, I2, rz, q1, q2, q3⟩ => ⟨I2.kIn, ?_⟩) hpl
  rw [hks]
  exact run_kw (vs := []) (us := []) F hr hb (hx σ) I2 .nil rz q1 q2 q3
end
theorem dArgs_app : ∀ (as ks : List DTE) (δ : DSt) (S : Sto) (Q : List D → Sto → Prop), dArgs (as ++ ks) δ S Q = dArgs as δ S (fun ds S1 => dArgs ks δ S1 (fun es S2 => Q (ds ++ es) S2))
  | [], ks, δ, S, Q => rfl
  | a :: as, ks, δ, S, Q => by
    show a δ S (fun x S1 => dArgs (as ++ ks) δ S1 fun ds S2 => Q (x :: ds) S2) = a δ S (fun x S1 => dArgs as δ S1 fun ds S2 => dArgs ks δ S2 fun es S3 => Q (x :: ds ++ es) S3)
    congr 1
    funext x S1
    exact dArgs_app as ks δ S1 _
theorem lf_args {K : PySem.W.Frag} {Γ : KG K} : ∀ (ts : List DTE) {σ : L2.St} {H : Hp} {F : Addr → Bool} {δ : DSt} {S : Sto} {P : List D → Sto → Prop} {R : List V → Hp → Prop}, Sim Γ F S H → RelS K (fz F S H) σ δ → dArgs ts δ S P →
    (∀ ds S' vs H', P ds S' → Go Γ F S H S' H' → RelL K (fz F S' H') vs ds → ds.length = ts.length → R vs H') → lfA Γ (dArgs ts) σ H R
  | ts, σ, H, F, δ, S, P, R, sm, rs, h, c => by
    refine ⟨F, δ, S, fun ds S' => ds.length = ts.length ∧ P ds S', sm, rs, ?_, fun ds S' ⟨l, p⟩ vs H' g r => c ds S' vs H' p g r l⟩
    have e : ∀ (ts : List DTE) (S : Sto) (Q : List D → Sto → Prop), dArgs ts δ S Q = dArgs ts δ S fun ds S' => ds.length = ts.length ∧ Q ds S' := fun ts => by
      induction ts with
      | nil => intro S Q; show Q [] S = (([] : List D).length = 0 ∧ Q [] S); simp
      | cons t ts ih =>
        intro S Q
        show t δ S (fun x S1 => dArgs ts δ S1 fun ds S2 => Q (x :: ds) S2) = t δ S (fun x S1 => dArgs ts δ S1 fun ds S2 => (x :: ds).length = (t :: ts).length ∧ Q (x :: ds) S2)
        congr 1
        funext x S1
        rw [ih S1 fun ds S2 => Q (x :: ds) S2]
        simp
    rw [e] at h
    exact h
abbrev kw1 (f : D → List D) (sp : DSp) : DSp := fun ds S Q => match ds with | [a] => sp (f a) S Q | _ => False
abbrev kw2 (f : D → D → List D) (sp : DSp) : DSp := fun ds S Q => match ds with | [a, b] => sp (f a b) S Q | _ => False
abbrev kw3 (f : D → D → D → List D) (sp : DSp) : DSp := fun ds S Q => match ds with | [a, b, c] => sp (f a b c) S Q | _ => False
abbrev kw4 (f : D → D → D → D → List D) (sp : DSp) : DSp := fun ds S Q => match ds with | [a, b, c, d] => sp (f a b c d) S Q | _ => False
theorem kw1_ok {f : D → List D} {sp : DSp} {p : List Nat} (h : ∀ a, perm p [a] = f a := by intro _; rfl) : ∀ ds S Q, kw1 f sp ds S Q → sp (perm p ds) S Q
  | [a], S, Q, q => by rw [h]; exact q
  | [], _, _, q | _ :: _ :: _, _, _, q => (q : False).elim
theorem kw2_ok {f : D → D → List D} {sp : DSp} {p : List Nat} (h : ∀ a b, perm p [a, b] = f a b := by intro _ _; rfl) : ∀ ds S Q, kw2 f sp ds S Q → sp (perm p ds) S Q
  | [a, b], S, Q, q => by rw [h]; exact q
  | [], _, _, q | [_], _, _, q | _ :: _ :: _ :: _, _, _, q => (q : False).elim
theorem kw3_ok {f : D → D → D → List D} {sp : DSp} {p : List Nat} (h : ∀ a b c, perm p [a, b, c] = f a b c := by intro _ _ _; rfl) : ∀ ds S Q, kw3 f sp ds S Q → sp (perm p ds) S Q
  | [a, b, c], S, Q, q => by rw [h]; exact q
  | [], _, _, q | [_], _, _, q | [_, _], _, _, q | _ :: _ :: _ :: _ :: _, _, _, q => (q : False).elim
theorem kw4_ok {f : D → D → D → D → List D} {sp : DSp} {p : List Nat} (h : ∀ a b c d, perm p [a, b, c, d] = f a b c d := by intro _ _ _ _; rfl) : ∀ ds S Q, kw4 f sp ds S Q → sp (perm p ds) S Q
  | [a, b, c, d], S, Q, q => by rw [h]; exact q
  | [], _, _, q | [_], _, _, q | [_, _], _, _, q | [_, _, _], _, _, q | _ :: _ :: _ :: _ :: _ :: _, _, _, q => (q : False).elim
section
variable {X : Cx} {Γ : KG X.K} {k nu : Nat} {f : Addr} {fd : FuncData} {ps ks : List Str} {pm : List Nat} {sp sp' : DSp} {x : Str} {p pos : Pos} {e : Expr} {es : List Expr} {kws : List Keyword} {ta tk : List DTE}
theorem dpk_nil : PK X [] (lfA Γ (dArgs [])) := ⟨fun pos pins s σ H Q I ⟨F, δ, S, P, sm, rs, h, c⟩ => pk_nil.run pos pins s σ H Q I (c _ _ h _ _ (Go.refl sm) .nil)⟩
theorem dpk_cons {te : DTE} {nm : Option Str} {kpos : Pos} (ha : DPE X Γ e te) (hr : PK X kws (lfA Γ (dArgs tk))) : PK X (⟨nm, e, kpos⟩ :: kws) (lfA Γ (dArgs (te :: tk))) := ⟨fun pos pins s σ H Q I ⟨F, δ, S, P, sm, rs, h, c⟩ =>
  (pk_cons ha hr).run pos pins s σ H Q I ⟨F, δ, S, _, sm, rs, h, fun d S1 h1 v H1 g1 r1 => ⟨F, δ, S1, _, g1.sim, rs.mono g1.same, h1, fun ds S2 h2 vs H2 g2 r2 => c _ _ h2 _ _ (g1.trans g2) (.cons (r1.mono g2.same) r2)⟩⟩⟩
theorem pass0At {σ : L2.St} : PassesAt CX0 X σ E0 := fun pins H s e s' I h => pass0 pins σ H s e s' I h
theorem lf_kw {σ : L2.St} {H : Hp} {Q : VK} (hsp : ∀ ds S Q, sp' ds S Q → sp (perm pm ds) S Q) (h1 : ta.length = nu) (h2 : tk.length = ks.length) (h : lf Γ (dCall sp' (dArgs (ta ++ tk))) σ H Q) : tKw (lfSp X.K sp) pm nu ks.length (fun _ => E0) (lfA Γ (dArgs ta)) (lfA Γ (dArgs tk)) σ H Q := by
  obtain ⟨F, δ, S, P, sm, rs, h, c⟩ := h
  rw [show dCall sp' (dArgs (ta ++ tk)) δ S P = dArgs (ta ++ tk) δ S fun ds S1 => sp' ds S1 P from rfl, dArgs_app] at h
  refine lf_args ta sm rs h fun ds S1 vs H1 q1 g1 r1 l1 => lf_args tk g1.sim (rs.mono g1.same) q1 fun es S2 zs H2 q2 g2 r2 l2 => ⟨by rw [r1.length, l1, h1], by rw [r2.length, l2, h2], ?_⟩
  have r : RelL X.K (fz F S2 H2) (vs ++ zs) (ds ++ es) := (r1.mono g2.same).append r2
  exact ⟨F, _, S2, P, g2.sim.top, r.perm pm, hsp _ _ _ q2, (c.mono (g1.trans g2)).top g2.sim⟩
theorem dpe_kw (F : FnD X.prog X.w X.K X.mg X.base k f fd ps sp) (hr : Room k X.A) (hg : Gl X x) (hm : X.mg x = some (.ref f)) (hk : PySem.W.keepIn X.K (.ref f) = true) (hb : KwB fd ps ks nu pm) (hsp : ∀ ds S Q, sp' ds S Q → sp (perm pm ds) S Q) (h1 : ta.length = nu) (h2 : tk.length = ks.length)
    (ha : DPA X Γ (e :: es) (dArgs ta)) (hkw : PK X kws (lfA Γ (dArgs tk))) (hall : (backToKw pos (keywordEach kws X.env)).all (·.1.isSome) = true := by rfl) (hks : (backToKw pos (keywordEach kws X.env)).filterMap (·.1) = ks := by rfl)
    (hdb : (x == ("__debug__" : Str)) = false := by decide) (he : starEach (e :: es) X.env = (false, eval e X.env) :: starEach es X.env := by rfl) (hpl : ((backTo pos (starEach (e :: es) X.env)).any (·.1) || (backToKw pos (keywordEach kws X.env)).any (·.1.isNone)) = false := by rfl) :
    DPE X Γ (.Call (.Name x p) (e :: es) kws pos) (dCall sp' (dArgs (ta ++ tk))) := PEw (pe_kw (E := fun _ => E0) F hr hg hm hk hb (fun _ => pass0At) ha hkw hall hks hdb he hpl) fun σ H Q h => lf_kw hsp h1 h2 h
theorem dpe_kw0 (F : FnD X.prog X.w X.K X.mg X.base k f fd ps sp) (hr : Room k X.A) (hg : Gl X x) (hm : X.mg x = some (.ref f)) (hk : PySem.W.keepIn X.K (.ref f) = true) (hb : KwB fd ps ks 0 pm) (hsp : ∀ ds S Q, sp' ds S Q → sp (perm pm ds) S Q) (h2 : tk.length = ks.length)
    (hkw : PK X kws (lfA Γ (dArgs tk))) (hall : (backToKw pos (keywordEach kws X.env)).all (·.1.isSome) = true := by rfl) (hks : (backToKw pos (keywordEach kws X.env)).filterMap (·.1) = ks := by rfl)
    (hdb : (x == ("__debug__" : Str)) = false := by decide) (hpl : ((backTo pos (starEach [] X.env)).any (·.1) || (backToKw pos (keywordEach kws X.env)).any (·.1.isNone)) = false := by rfl) :
    DPE X Γ (.Call (.Name x p) [] kws pos) (dCall sp' (dArgs tk)) := PEw (pe_kw0 (E := fun _ => E0) F hr hg hm hk hb (fun _ => pass0At) hkw hall hks hdb hpl) fun σ H Q ⟨F, δ, S, P, sm, rs, h, c⟩ =>
  lf_args tk sm rs h fun es S2 zs H2 q2 g2 r2 l2 => ⟨rfl, by rw [r2.length, l2, h2], ⟨F, _, S2, P, g2.sim.top, r2.perm pm, hsp _ _ _ q2, (c.mono g2).top g2.sim⟩⟩
end
/-! ### a tuple that is a key -/
abbrev dKeyT (t : DTA) : DTE := fun δ S Q => t δ S fun ds S1 => ds.length ≤ 1000 ∧ Q (.key ds) S1
theorem dpe_key {X : Cx} {Γ : KG X.K} {es : List Expr} {t : DTA} {pos : Pos} {x1} (h : DPA X Γ es t) : DPE X Γ (.Tuple es x1 pos) (dKeyT t) :=
  PEw (pe_tup h) fun σ H Q ⟨F, δ, S, P, sm, rs, h, c⟩ => ⟨F, δ, S, _, sm, rs, h, fun ds S1 ⟨hn, h1⟩ xs H1 g1 rx => ⟨by rw [rx.length, sizeLine_eq]; omega, fun p hp =>
    (c.mono g1).new g1.sim hp (.key (fz_new g1.sim hp) (rx.mono (same_new hp))) h1⟩⟩
end L3

set_option Elab.async false
set_option maxRecDepth 100000
set_option linter.all false
set_option maxHeartbeats 2000000
namespace L3
open PySem PySem.Spec PyProof.Rows L2
/-! ### a list that is changed no more -/
def sdel (S : Sto) (a : Addr) : Sto := fun b => if b = a then none else S b
theorem sdel_ne {S : Sto} {a b : Addr} (h : b ≠ a) : sdel S a b = S b := by unfold sdel; rw [if_neg h]
theorem sdel_same {S : Sto} {a : Addr} : sdel S a a = none := by unfold sdel; rw [if_pos rfl]
theorem sdel_sup {S : Sto} {a : Addr} {o : SO} (h : S a = none) : sdel (sup S a o) a = S := by
  funext b
  by_cases e : b = a
  · subst e; rw [sdel_same, h]
  · rw [sdel_ne e, sup_ne e]
theorem sdel_some {S : Sto} {a b : Addr} {o : SO} (h : sdel S a b = some o) : S b = some o := by
  by_cases e : b = a
  · subst e; rw [sdel_same] at h; cases h
  · rwa [sdel_ne e] at h
abbrev dFrz (i : Nat) (t : DTS) : DTS := fun D δ S => ∃ a ds, slot δ i = some (.ref a) ∧ S a = some (.lst ds) ∧ t D (dset δ i (some (.lst ds))) (sdel S a)
theorem RelS.setSame {K : PySem.W.Frag} {G : Hp} : ∀ {σ : L2.St} {δ : DSt} {i : Nat} {v : V} {d : D}, RelS K G σ δ → σ[i]? = some (some v) → Rel K G v d → RelS K G σ (L3.dset δ i (some d)) := fun {σ δ i v d} r e q => by
  have h := r.dset q i
  have e2 : σ.set i (some v) = σ := by
    obtain ⟨hl, e⟩ := List.getElem?_eq_some_iff.mp e
    rw [← e]
    exact List.set_getElem_self hl
  rw [e2] at h
  exact h
theorem dpss_frz {X : Cx} {Γ : KG X.K} {sts : List Stmt} {t : DTS} (i : Nat) (h : DPSs X Γ sts t) : DPSs X Γ sts (dFrz i t) := PSsw h fun D σ H ⟨F, δ, S, P, sm, rs, ⟨a, ds, e1, e2, q⟩, c⟩ => by
  have g : Go Γ F S H (sdel S a) H := Go.drop sm (Go.refl sm) fun b o => sdel_some
  obtain ⟨vs, h1, r1⟩ := sm.lst e2
  obtain ⟨v, h2, r2⟩ := rs.get (slot_get e1)
  cases r2
  have r3 : Rel X.K (fz F (sdel S a) H) (.ref a) (.lst ds) := .lst (by rw [fz_none (sm.at_ _ _ e2).1 sdel_same]; exact h1) (r1.mono g.same)
  exact ⟨F, _, sdel S a, P, g.sim, (rs.mono g.same).setSame h2 r3, q, c.mono g⟩
end L3

set_option Elab.async false
set_option maxRecDepth 100000
set_option linter.all false
set_option maxHeartbeats 2000000
namespace L3
open PySem L2
/-! ### more steps -/
theorem sizeLine_val : sizeLine = 16777216 := sizeLine_eq
abbrev iD (n : Nat) : D := .int (n : Int)
section
variable {a b c d e f g x y z : D} {i j : Int} {xs ys ds : List D} {p q : List Int} {s t : Str} {u v : Bool} {S : Sto} {Q : DK} {n : String} {A : Addr} {lo hi : Option Int} {so : SO} {X Y : Prop} {k : Nat} {R : Bool → Sto → Prop}
theorem st_tru_bl (h : R u S) : vTru (.bl u) S R := h
theorem st_tru_non (h : R false S) : vTru .non S R := h
theorem st_tru_int (h : R (i != 0) S) : vTru (.int i) S R := h
theorem st_tru_tup (h : R (!ds.isEmpty) S) : vTru (.tup ds) S R := h
theorem st_tru_lst (h : R (!ds.isEmpty) S) : vTru (.lst ds) S R := h
theorem st_tru_ref (e : S A = some (.lst ds)) (h : R (!ds.isEmpty) S) : vTru (.ref A) S R := by simp only [vTru, e]; exact h
theorem st_at (e : ds[k]? = some d) (h : Q d S) : vIx (.tup ds) (.int (k : Int)) S Q := by
  rw [vIx_tup, atI_int (Int.natCast_nonneg k), Int.toNat_natCast, e]
  exact h
theorem st_atl (e : ds[k]? = some d) (h : Q d S) : vIx (.lst ds) (.int (k : Int)) S Q := by
  rw [vIx_lst, atI_int (Int.natCast_nonneg k), Int.toNat_natCast, e]
  exact h
theorem st_atr (e0 : S A = some (.lst ds)) (e : ds[k]? = some d) (h : Q d S) : vIx (.ref A) (.int (k : Int)) S Q := by
  simp only [vIx, e0, atI_int (Int.natCast_nonneg k), Int.toNat_natCast, e]
  exact h
theorem st_len_r (e : S A = some (.lst ds)) (h : Q (.int (ds.length : Nat)) S) : vLen [.ref A] S Q := by simp only [vLen, e]; exact h
theorem st_tup_r (e : S A = some (.lst ds)) (h : Q (.tup ds) S) : vTuple [.ref A] S Q := by simp only [vTuple, e]; exact h
theorem st_append {A : Addr} {d : D} {xs : List D} {S : Sto} {Q : DK} (hS : S A = some (.lst xs)) (h1 : xs.length < sizeLine) (h : Q .non (sup S A (.lst (xs ++ [d])))) : vAppend (.ref A) [d] S Q := by
  simp only [vAppend, hS]
  exact ⟨h1, h⟩
theorem inD_nat {x : Nat} : ∀ {l : List Nat}, inD (iD x) (l.map iD) = decide (x ∈ l)
  | [] => by simp [inD]
  | y :: l => by
    have h := inD_nat (x := x) (l := l)
    unfold inD at h ⊢
    rw [List.map_cons, List.any_cons, h]
    have e : eqD (iD y) (iD x) = decide (x = y) := by
      show ((y : Int) == (x : Int)) = _
      by_cases z : x = y
      · subst z; simp
      · rw [decide_eq_false z]
        simp only [beq_eq_false_iff_ne, ne_eq]
        omega
    rw [e]
    simp [List.mem_cons]
theorem flat_nat (l : List Nat) : (l.map iD).all flatD = true := by
  rw [List.all_map]
  exact List.all_eq_true.mpr fun _ _ => rfl
theorem st_in_r {x : Nat} {l : List Nat} (e : S A = some (.lst (l.map iD))) (h : Q (.bl (decide (x ∈ l))) S) : vIn false (iD x) (.ref A) S Q := by
  show vInO false (iD x) S Q (seqOf S (.ref A))
  simp only [seqOf, e, vInO, vInS, flat_nat, inD_nat]
  exact ⟨rfl, trivial, h⟩
theorem st_notin_r {x : Nat} {l : List Nat} (e : S A = some (.lst (l.map iD))) (h : Q (.bl (decide (x ∉ l))) S) : vIn true (iD x) (.ref A) S Q := by
  show vInO true (iD x) S Q (seqOf S (.ref A))
  simp only [seqOf, e, vInO, vInS, flat_nat, inD_nat]
  refine ⟨rfl, trivial, ?_⟩
  simpa using h
end
/-! ### list comprehensions, item by item -/
theorem lcL_idx {kp : Sto → Prop} {g : DTG} {tt : DTT} {te : DTE} {vs : List Nat} {δ : DSt} {S : Sto} {Q : DK} (hk : kp S) (o : Nat → Option D) : ∀ (L acc : List D) (k : Nat), acc.length + L.length ≤ sizeLine →
    (∀ j d, L[j]? = some d → ∀ (P : DK) (N : Sto → Prop), (match o (k + j) with | some y => P y S | none => N S) → g d (dwipe δ vs) S fun δ2 S2 => tt δ2 S2 fun b S3 => if b = true then te δ2 S3 fun y S4 => P y S4 else N S3) →
    Q (.lst (acc ++ (List.range' k L.length).filterMap o)) S → lcL kp g tt te vs δ L acc S Q
  | [], acc, k, _, _, q => ⟨hk, by simpa using q⟩
  | d :: L, acc, k, hz, h, q => by
    have hz' : acc.length + 1 + L.length ≤ sizeLine := by simpa [Nat.add_assoc, Nat.add_comm 1] using hz
    have hn : ∀ j d', L[j]? = some d' → ∀ (P : DK) (N : Sto → Prop), (match o (k + 1 + j) with | some y => P y S | none => N S) → g d' (dwipe δ vs) S fun δ2 S2 => tt δ2 S2 fun b S3 => if b = true then te δ2 S3 fun y S4 => P y S4 else N S3 := fun j d' e P N z => h (j + 1) d' (by simpa using e) P N (by rw [show k + (j + 1) = k + 1 + j by omega]; exact z)
    refine ⟨hk, by omega, h 0 d rfl _ _ ?_⟩
    rw [Nat.add_zero]
    rw [List.length_cons, List.range'_succ, List.filterMap_cons] at q
    split
    · rename_i y e
      rw [e] at q
      refine lcL_idx hk o L (acc ++ [y]) (k + 1) (by simp only [List.length_append, List.length_cons, List.length_nil]; omega) hn ?_
      rw [List.append_assoc]
      exact q
    · rename_i e
      rw [e] at q
      exact lcL_idx hk o L acc (k + 1) (by omega) hn q
theorem lcL_0 {kp : Sto → Prop} {g : DTG} {tt : DTT} {te : DTE} {vs : List Nat} {δ : DSt} {S : Sto} {Q : DK} {L : List D} (hk : kp S) (o : Nat → Option D) (hz : L.length ≤ sizeLine)
    (h : ∀ j d, L[j]? = some d → ∀ (P : DK) (N : Sto → Prop), (match o j with | some y => P y S | none => N S) → g d (dwipe δ vs) S fun δ2 S2 => tt δ2 S2 fun b S3 => if b = true then te δ2 S3 fun y S4 => P y S4 else N S3)
    (q : Q (.lst ((List.range L.length).filterMap o)) S) : lcL kp g tt te vs δ L [] S Q :=
  lcL_idx hk o L [] 0 (by simpa using hz) (fun j d e P N z => h j d e P N (by rw [Nat.zero_add] at z; exact z)) (by rw [List.nil_append, ← List.range_eq_range']; exact q)
theorem fm_congr {α : Type} {f g : α → Option D} : ∀ {l : List α}, (∀ x ∈ l, f x = g x) → l.filterMap f = l.filterMap g
  | [], _ => rfl
  | x :: l, h => by rw [List.filterMap_cons, List.filterMap_cons, h x List.mem_cons_self, fm_congr fun y hy => h y (List.mem_cons_of_mem _ hy)]
theorem fm_all {n : Nat} {o : Nat → Option D} {f : Nat → D} (h : ∀ j, j < n → o j = some (f j)) : (List.range n).filterMap o = (List.range n).map f := by
  rw [← List.filterMap_eq_map]
  exact fm_congr fun j hj => h j (List.mem_range.mp hj)
theorem fm_if {n : Nat} {o : Nat → Option D} {p : Nat → Bool} {f : Nat → D} (h : ∀ j, j < n → o j = if p j = true then some (f j) else none) : (List.range n).filterMap o = ((List.range n).filter p).map f := by
  rw [fm_congr (g := fun j => if p j = true then some (f j) else none) fun j hj => h j (List.mem_range.mp hj)]
  induction List.range n with
  | nil => rfl
  | cons x l ih =>
    rw [List.filterMap_cons, List.filter_cons, ih]
    by_cases e : p x = true
    · simp [e]
    · simp [e]
theorem range_map {α β : Type} (xs : List α) (f : α → β) : (List.range xs.length).map (fun j => (xs[j]?).map f) = xs.map fun x => some (f x) := by
  apply List.ext_getElem
  · simp
  · intro i h1 h2
    simp only [List.getElem_map, List.getElem_range]
    rw [List.getElem?_eq_getElem (by simpa using h2)]
    rfl
/-- of a list item by item its image -/
theorem fm_list {α : Type} (xs : List α) (f : α → D) : (List.range xs.length).filterMap (fun j => (xs[j]?).map f) = xs.map f := by
  rw [show (List.range xs.length).filterMap (fun j => (xs[j]?).map f) = ((List.range xs.length).map (fun j => (xs[j]?).map f)).filterMap id by rw [List.filterMap_map]; rfl, range_map, List.filterMap_map]
  induction xs with
  | nil => rfl
  | cons x xs ih => rw [List.filterMap_cons, ih]; rfl
end L3

set_option Elab.async false
set_option maxRecDepth 100000
set_option linter.all false
set_option maxHeartbeats 2000000
namespace L3
open PySem PySem.Spec PyProof.Rows L2
/-! ### a dict that is changed no more -/
def keyD : Key → D
  | .inl i => .int i
  | .inr s => .str s
theorem keyD_rel {K : PySem.W.Frag} {G : Hp} : ∀ k : Key, Rel K G (kV k) (keyD k)
  | .inl i => .int i
  | .inr s => .str s
abbrev tFrzP (t : TS) : TS := fun D σ H => ∃ d u, H d = some u ∧ Mut (some u) ∧ ∀ od, t D σ (upd H d (.frz od u))
theorem pss_frzP {X : Cx} {sts : List Stmt} {t : TS} (h : PSs X sts t) : PSs X sts (tFrzP t) := ⟨fun pins s σ H D I ⟨d, u, hd, mu, q⟩ => by
  obtain ⟨od, I1⟩ := I.lock hd mu
  exact h.run pins s σ _ D I1 (q od)⟩
theorem RelF.parts {K : PySem.W.Frag} {G : Hp} {κ : Type} : ∀ {vs : List (κ × V)} {kvs : List (κ × D)}, RelF K G vs kvs → kvs.map (·.1) = vs.map (·.1) ∧ RelL K G (vs.map (·.2)) (kvs.map (·.2))
  | _, _, .nil => ⟨rfl, .nil⟩
  | _, _, .cons h r => by
    obtain ⟨h1, h2⟩ := RelF.parts r
    exact ⟨by simp [h1], .cons h h2⟩
theorem SimB.frz {K : PySem.W.Frag} {F : Addr → Bool} {S : Sto} {H : Hp} {a : Addr} {u : SO} {o : HO} (s : SimB K F S H) (h : S a = some u) : GoB K F S H (sdel S a) (upd H a o) := by
  have e : Same (fz F S H) (fz F (sdel S a) (upd H a o)) := fun b x e => by
    obtain ⟨h0, h1, h2⟩ := fz_of e
    have np : b ≠ a := fun z => by subst z; rw [h] at h1; cases h1
    rw [fz_none h0 (by rw [sdel_ne np]; exact h1), upd_ne np]
    exact h2
  refine ⟨e, fun b f => ?_, fun b x q => ?_, fun b f => ?_⟩
  · rw [upd_ne fun z => by subst z; rw [(s.at_ _ _ h).1] at f; cases f]
  · have np : b ≠ a := fun z => by subst z; rw [sdel_same] at q; cases q
    rw [sdel_ne np] at q
    rw [upd_ne np]
    exact ⟨(s.at_ b x q).1, (s.at_ b x q).2.mono e⟩
  · obtain ⟨x, q⟩ := s.hid b f
    exact ⟨x, by rw [upd_ne fun z => by subst z; rw [(s.at_ _ _ h).1] at f; cases f]; exact q⟩
abbrev dctOf (kvs : List (Key × D)) : D := .dct (kvs.map (·.1)) (kvs.map (·.2))
abbrev dFrzD (i : Nat) (t : DTS) : DTS := fun D δ S => ∃ a kvs, slot δ i = some (.ref a) ∧ S a = some (.dK kvs) ∧ t D (dset δ i (some (dctOf kvs))) (sdel S a)
theorem dpss_frzD {X : Cx} {Γ : KG X.K} {sts : List Stmt} {t : DTS} (i : Nat) (h : DPSs X Γ sts t) : DPSs X Γ sts (dFrzD i t) := PSsw (pss_frzP h) fun D σ H ⟨F, δ, S, P, sm, rs, ⟨a, kvs, e1, e2, q⟩, c⟩ => by
  obtain ⟨vs, h1, r1⟩ := (sm.at_ _ _ e2).2
  refine ⟨a, .dK vs, h1, True.intro, fun od => ?_⟩
  have g : Go Γ F S H (sdel S a) (upd H a (.frz od (.dK vs))) := Go.of sm (sm.toSimB.frz e2)
  obtain ⟨v, h2, r2⟩ := rs.get (slot_get e1)
  cases r2
  obtain ⟨p1, p2⟩ := r1.parts
  have r3 : Rel X.K (fz F (sdel S a) (upd H a (.frz od (.dK vs)))) (.ref a) (dctOf kvs) := by
    unfold dctOf
    rw [p1]
    exact .dct (by rw [fz_none (sm.at_ _ _ e2).1 sdel_same, upd_same]) (p2.mono g.same)
  exact ⟨F, _, sdel S a, P, g.sim, (rs.mono g.same).setSame h2 r3, q, c.mono g⟩
/-! ### for k in d -/
abbrev iKeysD (te : DTE) : DTI := fun δ S Q => te δ S fun x S1 => match x with
  | .dct ks _ => Q (fun _ => True) (ks.map keyD) S1
  | _ => False
section
variable {X : Cx} {Γ : KG X.K} {tg e : Expr} {te : DTE}
theorem dpi_keys (h : DPE X Γ e te) : DPI X Γ tg e (iKeysD te) := PIw (pi_keys h) fun σ H R ⟨F, δ, S, P, sm, rs, h, c⟩ => ⟨F, δ, S, _, sm, rs, h, fun d S1 h1 v H1 g1 r1 => by
  cases r1 <;> first | exact (h1 : False).elim | skip
  rename_i a od vs ds hs rl
  refine ⟨a, od, rfl, .inl ⟨vs, fz_same F S1 H1 _ _ hs, c _ _ _ h1 _ _ g1 fun F' S' H' g' s' _ => ?_⟩⟩
  have hs' : H' a = some (.frz od (.dK vs)) := fz_same F' S' H' _ _ (g' _ _ hs)
  have hl : ((vs.map (·.1)).map keyD).length = vs.length := by simp
  rw [hl]
  refine ⟨fun i hi => ⟨hs', hi⟩, ⟨hs', Nat.le_refl _⟩, fun i x H2 hi y => ?_⟩
  obtain ⟨rfl, k, v, e, rfl⟩ := y
  refine ⟨keyD k, ?_, Go.refl s', keyD_rel k⟩
  rw [List.getElem?_map, List.getElem?_map, e]
  rfl⟩
end
/-! ### len(set(t)) -/
def tLenSetT (K : PySem.W.Frag) (ta : TE) : TE := fun σ H Q => ta σ H fun x H1 => ∃ (l : Addr) (ns : List Int), x = .ref l ∧ SqT K H1 l (ns.map V.int) ∧ ns.length ≤ 1000 ∧ ∀ out : List Int, out.Nodup → (∀ k, k ∈ out ↔ k ∈ ns) → Q (.int (out.length : Nat)) H1
theorem pe_lenSetT {X : Cx} {a : Expr} {ta : TE} {p p2 q pos : Pos} (hg : Gl X "len") (hm : X.mg "len" = none) (hg2 : Gl X "set") (hm2 : X.mg "set" = none) (ha : PE X a ta) (hc : X.calm = true := by rfl)
    (na : starEach [a] X.env = (false, eval a X.env) :: starEach [] X.env := by rfl) : PE X (.Call (.Name "len" p) [.Call (.Name "set" p2) [a] [] q] [] pos) (tLenSetT X.K ta) := by
  refine ⟨fun pins s σ H Q I h => ?_⟩
  refine Call_ (ld_blt I hg hm PySem.boot_len ?_)
  refine PyProof.Rows.callWith_builtin1 (PyProof.Rows.args_cons ?_ rfl) rfl rfl
  refine Call_ (ld_blt I hg2 hm2 PyProof.Rows.boot_set ?_)
  refine PyProof.Rows.callWith_type1 (PyProof.Rows.args_cons (thn (ha.run pins s σ H _ I h) fun v s1 ⟨x, H1, I1, r1, q1⟩ => PyProof.Rows.args_nil ?_) na) na rfl
  obtain ⟨l, ns, rfl, hq, hl, q1⟩ := q1
  cases r1
  obtain ⟨its, rv, pt, hz⟩ := I1.tuple hq
  have hi : IntsAre its.toArray.toList ns := ints_of_vals rv
  refine call_set_tupI ns (I1.ok.hd hc) (show s1.heap.IsTuple l its.toArray from pt) hi (by unfold scanBound; omega) fun h' tk c R1 hcn k => ?_
  refine PyProof.Rows.args_nil ?_
  obtain ⟨o, es, ep, t, ho, hex, hd, g, nd, hm2, hb, hf, hn, hr, hl2⟩ := R1
  have I2 : Inv X pins σ H1 { s1 with heap := h', toks := tk } := I1.kept k
  have q2 := q1 _ nd fun k => by rw [← hm2 k, decide_eq_true_eq]
  rw [List.length_map, Array.length_toList] at q2
  exact call_len_set ho hex hd hf (by omega) ⟨.int es.size, H1, I2.tok _, ⟨_, rfl⟩, q2⟩
abbrev dLenSet (te : DTE) : DTE := fun δ S Q => te δ S fun x S1 => match x with
  | .tup ds => match asInts ds with
    | some ns => ns.length ≤ 1000 ∧ ∀ out : List Int, out.Nodup → (∀ k, k ∈ out ↔ k ∈ ns) → Q (.int (out.length : Nat)) S1
    | none => False
  | _ => False
section
variable {X : Cx} {Γ : KG X.K} {a e : Expr} {te : DTE} {p p2 q pos pos2 : Pos}
theorem dpe_lenSet (hg : Gl X "len") (hm : X.mg "len" = none) (hg2 : Gl X "set") (hm2 : X.mg "set" = none) (ha : DPE X Γ a te) (hc : X.calm = true := by rfl)
    (na : starEach [a] X.env = (false, eval a X.env) :: starEach [] X.env := by rfl) : DPE X Γ (.Call (.Name "len" p) [.Call (.Name "set" p2) [a] [] q] [] pos) (dLenSet te) :=
  PEw (pe_lenSetT hg hm hg2 hm2 ha hc na) fun σ H Q ⟨F, δ, S, P, sm, rs, h, c⟩ => ⟨F, δ, S, _, sm, rs, h, fun d S1 h1 v H1 g1 r1 => by
    cases r1 <;> first | exact (h1 : False).elim | skip
    rename_i l vs ds hs rl
    have h1 : match asInts ds with
      | some ns => ns.length ≤ 1000 ∧ ∀ out : List Int, out.Nodup → (∀ k, k ∈ out ↔ k ∈ ns) → P (.int (out.length : Nat)) S1
      | none => False := h1
    split at h1
    · rename_i ns e
      rw [asInts_eq e] at rl
      obtain ⟨h2, h3⟩ := h1
      exact ⟨l, ns, rfl, by rw [← rl.ints]; exact sqT_mono (fz_same F S1 H1) hs, h2, fun out n m => (c.mono g1).use g1.sim (.int _) (h3 out n m)⟩
    · exact h1.elim⟩
/-! ### tuple(reversed(x)) -/
def tTupRevX (K : PySem.W.Frag) (te : TE) : TE := fun σ H Q => te σ H fun v H1 => ∃ (a : Addr) (xs : List V), v = .ref a ∧ SqL K H1 a xs ∧ NewT Q H1 xs.reverse
theorem pe_tupRevX {e : Expr} {te : TE} {p p2 pos pos2 : Pos} (hg : Gl X "tuple") (hm : X.mg "tuple" = none) (hg2 : Gl X "reversed") (hm2 : X.mg "reversed" = none) (he : PE X e te) (hc : X.calm = true := by rfl)
    (hs : starEach [e] X.env = (false, eval e X.env) :: starEach [] X.env := by rfl)
    (hs2 : starEach [.Call (.Name "reversed" p2) [e] [] pos2] X.env = (false, eval (.Call (.Name "reversed" p2) [e] [] pos2) X.env) :: starEach [] X.env := by rfl) :
    PE X (.Call (.Name "tuple" p) [.Call (.Name "reversed" p2) [e] [] pos2] [] pos) (tTupRevX X.K te) := by
  refine ⟨fun pins s σ H Q I h => ?_⟩
  refine Call_ (ld_blt I hg hm boot_tuple (PyProof.Rows.callWith_type1 (args_cons (Call_ (ld_blt I hg2 hm2 PyProof.Rows.boot_reversed (PyProof.Rows.callWith_type1 (args_cons (thn (he.run pins s σ H _ I h) fun u s1 ⟨v, H1, I1, r1, q1⟩ => args_nil ?_) hs) hs rfl))) hs2) hs2 rfl))
  obtain ⟨a, xs, ev, hq, q⟩ := q1
  subst ev
  obtain rfl : u = Value.ref a := r1
  obtain ⟨its, rv, p', hz⟩ := I1.list hq
  refine call_reversed_list p'.isList (args_nil ?_)
  have k0 : ∀ b o, s1.heap.get? b = some o → (s1.heap.push (revObj a ((its.toArray.size : Int) - 1))).get? b = some o := fun b o e => Heap.get?_push_of_some _ e
  have I2 : Inv X pins σ H1 { s1 with heap := s1.heap.push (revObj a ((its.toArray.size : Int) - 1)) } := I1.kept (t' := s1.toks) k0
  obtain ⟨f0, f1, f2, f3, f4, f5⟩ := I1.fpOk (H' := H1) (b := s1.heap.objs.size) (Nat.le_refl _) (I1.hok.fresh (Nat.le_refl _))
  have hl := p'.isList
  obtain ⟨ol, hol, _⟩ := id hl
  have hne : a ≠ s1.heap.objs.size := Nat.ne_of_lt (Heap.lt_size hol)
  have hn : its.toArray.size ≤ sizeLine := by rw [List.size_toArray, ← rv.length]; exact hz
  refine RT.call_tuple_rev (s := { s1 with heap := s1.heap.push (revObj a ((its.toArray.size : Int) - 1)) }) (I1.ok.hd hc) ⟨_, Heap.get?_push_size _ rfl, rfl, rfl⟩ (hl.push _) hne hn fun h' tk acc hk hi => ?_
  have I3 : Inv X pins σ H1 { s1 with heap := h', toks := tk } := I2.turned (t' := tk) (fun b o hb e => hk b o hb e) f0 f1 f3 f4 f5
  have z := pushT I3 tk (RT.vals_rev rv hi) (by rw [List.length_reverse]; exact hz) q
  rw [Array.toArray_toList] at z
  exact z
abbrev dTupRev (te : DTE) : DTE := fun δ S Q => te δ S fun x S1 => match seqOf S1 x with
  | some ds => Q (.tup ds.reverse) S1
  | none => False
theorem dpe_tupRev (hg : Gl X "tuple") (hm : X.mg "tuple" = none) (hg2 : Gl X "reversed") (hm2 : X.mg "reversed" = none) (ha : DPE X Γ e te) (hc : X.calm = true := by rfl)
    (hs : starEach [e] X.env = (false, eval e X.env) :: starEach [] X.env := by rfl)
    (hs2 : starEach [.Call (.Name "reversed" p2) [e] [] pos2] X.env = (false, eval (.Call (.Name "reversed" p2) [e] [] pos2) X.env) :: starEach [] X.env := by rfl) :
    DPE X Γ (.Call (.Name "tuple" p) [.Call (.Name "reversed" p2) [e] [] pos2] [] pos) (dTupRev te) :=
  PEw (pe_tupRevX hg hm hg2 hm2 ha hc hs hs2) fun σ H Q ⟨F, δ, S, P, sm, rs, h, c⟩ => ⟨F, δ, S, _, sm, rs, h, fun d S1 h1 v H1 g1 r1 => by
    split at h1
    · rename_i ds e
      obtain ⟨a, vs, rfl, hs, rl⟩ := seqOf_rel g1.sim r1 e
      exact ⟨a, vs, rfl, hs, fun p o hp hd => (c.mono g1).new g1.sim hp (fz_newT g1.sim hp hd rl.reverse) h1⟩
    · exact h1.elim⟩
/-! ### list(range(n)), to be changed -/
abbrev dLstRgM (te : DTE) : DTE := fun δ S Q => te δ S fun x S1 => match x with
  | .int n => -(2 ^ 62) ≤ n ∧ n ≤ 16777216 ∧ ∀ p, S1 p = none → Q (.ref p) (sup S1 p (.lst (rngD 0 n.toNat)))
  | _ => False
theorem rgV_rngD {K : PySem.W.Frag} {G : Hp} (n : Int) : RelL K G (rgV 0 n) (rngD 0 n.toNat) := by
  unfold rgV rngD
  rw [show (n - 0).toNat = n.toNat by rw [Int.sub_zero]]
  induction List.range n.toNat with
  | nil => exact .nil
  | cons i l ih => exact .cons (.int _) ih
theorem dpe_lstRgM (hg : Gl X "list") (hm : X.mg "list" = none) (hg2 : Gl X "range") (hm2 : X.mg "range" = none) (ha : DPE X Γ a te) (hc : X.calm = true := by rfl)
    (na : starEach [a] X.env = (false, eval a X.env) :: starEach [] X.env := by rfl) (na2 : starEach [.Call (.Name "range" p2) [a] [] pos2] X.env = (false, eval (.Call (.Name "range" p2) [a] [] pos2) X.env) :: starEach [] X.env := by rfl) :
    DPE X Γ (.Call (.Name "list" p) [.Call (.Name "range" p2) [a] [] pos2] [] pos) (dLstRgM te) :=
  PEw (pe_listRg hc hg hm (prg_1 hg2 hm2 ha na) na2) fun σ H Q ⟨F, δ, S, P, sm, rs, h, c⟩ => ⟨F, δ, S, _, sm, rs, h, fun d S1 h1 v H1 g1 r1 => by
    cases r1 <;> first | exact (h1 : False).elim | skip
    obtain ⟨b1, b2, h1⟩ := h1
    exact ⟨_, rfl, ⟨by omega, by omega, by omega, by omega, by omega⟩, fun q hq => (c.mono g1).newM (o := .lst (rgV 0 _)) (u := .lst (rngD 0 _)) g1.sim hq ⟨_, rfl, rgV_rngD _⟩ (.ref q) (h1 q (g1.sim.none hq).2)⟩⟩
/-! ### str(i) -/
def vStr : List D → Sto → DK → Prop
  | [.int i], S, Q => i.natAbs.log2 < 1920 ∧ Q (.str (toString i)) S
  | _, _, _ => False
theorem dcall_str : DCall X (.type "str") vStr := by
  refine ⟨_, call_str_int, fun xs ds F S H P Q sm rx q c => ?_⟩
  cases rx with
  | nil => exact (q : False).elim
  | cons r1 r2 =>
  cases r2 with
  | cons _ _ => cases r1 <;> exact (q : False).elim
  | nil =>
  cases r1 <;> first | exact (q : False).elim | skip
  exact ⟨_, rfl, q.1, c.use sm (.str _) q.2⟩
end
end L3

set_option Elab.async false
set_option maxRecDepth 100000
set_option linter.all false
set_option maxHeartbeats 2000000
namespace L3
open PySem PySem.Spec PyProof.Rows L2
/-! ### lists made by + and *, to be changed -/
def lstOf (S : Sto) : D → Option (List D)
  | .lst ds => some ds
  | .ref a => match S a with | some (.lst ds) => some ds | _ => none
  | _ => none
theorem lstOf_rel {K : PySem.W.Frag} {Γ : KG K} {F : Addr → Bool} {S : Sto} {H : Hp} {v : V} {d : D} {ds : List D} (sm : Sim Γ F S H) (r : Rel K (fz F S H) v d) (h : lstOf S d = some ds) : ∃ a vs, v = .ref a ∧ H a = some (.lst vs) ∧ RelL K (fz F S H) vs ds := by
  cases r <;> first | (cases h; done) | skip
  · simp only [lstOf] at h
    split at h
    · rename_i e
      cases h
      obtain ⟨vs, e1, r1⟩ := sm.lst e
      exact ⟨_, vs, rfl, e1, r1⟩
    · cases h
  · cases h
    rename_i hs rl
    exact ⟨_, _, rfl, fz_same F S H _ _ hs, rl⟩
def vAddM (x y : D) (S : Sto) (Q : DK) : Prop := ∃ ds es, lstOf S x = some ds ∧ lstOf S y = some es ∧ ds.length + es.length ≤ sizeLine ∧ ∀ p, S p = none → Q (.ref p) (sup S p (.lst (ds ++ es)))
def vMulM (x y : D) (S : Sto) (Q : DK) : Prop := ∃ ds k, lstOf S x = some ds ∧ y = .int k ∧ -(2 ^ 63) ≤ k ∧ k < 2 ^ 63 ∧ ds.length * k.toNat ≤ sizeLine ∧ ∀ p, S p = none → Q (.ref p) (sup S p (.lst (List.replicate k.toNat ds).flatten))
section
variable {X : Cx} {Γ : KG X.K}
theorem dop_addM : DOp X (binaryOp .Add) vAddM := by
  refine ⟨_, op_cat, fun x y dx dy F S H P Q sm rx ry ⟨ds, es, h1, h2, hl, q⟩ c => ?_⟩
  obtain ⟨a, vs, rfl, e1, r1⟩ := lstOf_rel sm rx h1
  obtain ⟨b, us, rfl, e2, r2⟩ := lstOf_rel sm ry h2
  exact ⟨_, _, _, _, rfl, rfl, e1, e2, by rw [r1.length, r2.length]; exact hl, fun p hp => c.newM (o := .lst (vs ++ us)) (u := .lst (ds ++ es)) sm hp ⟨_, rfl, r1.append r2⟩ (.ref p) (q p (sm.none hp).2)⟩
theorem dop_mulM : DOp X (binaryOp .Mult) vMulM := by
  refine ⟨_, op_rep, fun x y dx dy F S H P Q sm rx ry ⟨ds, k, h1, h2, k0, k1, hl, q⟩ c => ?_⟩
  subst h2
  cases ry
  obtain ⟨a, vs, rfl, e1, r1⟩ := lstOf_rel sm rx h1
  exact ⟨_, _, _, rfl, rfl, e1, k0, k1, by rw [r1.length]; exact hl, fun p hp => c.newM (o := .lst (List.replicate k.toNat vs).flatten) (u := .lst (List.replicate k.toNat ds).flatten) sm hp ⟨_, rfl, r1.rep _⟩ (.ref p) (q p (sm.none hp).2)⟩
end
/-! ### a comprehension whose list is to be changed -/
abbrev thaw (Q : DK) : DK := fun d S => match d with
  | .lst acc => ∀ p, S p = none → Q (.ref p) (sup S p (.lst acc))
  | _ => False
abbrev dLcM (ti : DTI) (g : DTG) (tt : DTT) (te : DTE) (vs : List Nat) : DTE := fun δ S Q => dLc ti g tt te vs δ S (thaw Q)
section
variable {X : Cx} {Γ : KG X.K}
theorem lf_lcM {K : PySem.W.Frag} {Γ : KG K} {wi : DTI} {tg : Tg} {tt : DTT} {te : DTE} {vs : List Nat} (hv : ∀ i ∈ tg.slots, i ∈ vs) (σ : L2.St) (H : Hp) (Q : VK) (h : lf Γ (dLcM wi (dTg tg) tt te vs) σ H Q) : tLc (lfI Γ wi) (gTg K tg) (lfT Γ tt) (lf Γ te) vs σ H Q := by
  obtain ⟨F, δ, S, P, sm, rs, h, c⟩ := h
  refine ⟨F, δ, S, _, sm, rs, h, fun kp items S1 h1 J H1 g1 wk => ?_⟩
  intro Dp hD
  have c1 := c.mono g1
  have s1 := g1.sim.hideNew (o := .lst []) hD
  have fD := (g1.sim.none hD).1
  -- the states of the loop
  refine ⟨fun i m H' => m = items.length - i ∧ i ≤ items.length ∧ ∃ S' vs' acc, Go Γ (hide F Dp) S1 (upd H1 Dp (.lst [])) S' (upd H' Dp (.lst [])) ∧ H' Dp = some (.lst vs') ∧ RelL K (fz (hide F Dp) S' H') vs' acc ∧ lcL kp (dTg tg) tt te vs δ (items.drop i) acc S' (thaw P),
    ⟨items.length, by simp, Nat.zero_le _, S1, [], [], by rw [upd_upd]; exact Go.refl s1, upd_same, .nil, h1⟩, ?_⟩
  rintro i m H2 ⟨rfl, hi, S2, vs2, acc, g2, e2, r2, h2⟩
  have s2 : Sim Γ (hide F Dp) S2 H2 := by
    have q := Sim.hidePut g1.sim fD g2.sim (o := .lst vs2)
    rw [upd_upd] at q
    have e : upd H2 Dp (.lst vs2) = H2 := by
      funext b
      by_cases z : b = Dp
      · subst z; rw [upd_same, e2]
      · rw [upd_ne z]
    rw [e] at q
    exact q
  -- from the loop's entry to here, all shown
  have go2 : Go Γ F S1 H1 S2 H2 := by
    refine .of g1.sim ⟨fun b x e => ?_, fun a f => ?_, s2.toSimB.show_ fD⟩
    · have q := g2.same b x (fz_hide_new hD b x e)
      rw [fz_hide_upd] at q
      exact fz_hide_same b x q
    · have np : a ≠ Dp := fun z => by subst z; rw [fD] at f; cases f
      have q := g2.hid a (by simp [hide, np, f])
      rw [upd_ne np, upd_ne np] at q
      exact q
  have rs2 : RelS K (fz (hide F Dp) S2 H2) σ δ := by
    have q : RelS K (fz (hide F Dp) S2 (upd H2 Dp (.lst []))) σ δ := ((rs.mono g1.same).mono (fz_hide_new hD)).mono g2.same
    rw [fz_hide_upd] at q
    exact q
  have sm2 : Same (fz F S1 H1) (fz (hide F Dp) S2 H2) := fun b x e => by
    have q := g2.same b x (fz_hide_new hD b x e)
    rw [fz_hide_upd] at q
    exact q
  obtain ⟨w1, w2, w3⟩ := wk (hide F Dp) S2 H2 sm2 s2 (lcL_kp h2)
  by_cases hlt : i < items.length
  · refine .inr ⟨w1 i hlt, fun H' => ∃ S' vs' acc, Go Γ (hide F Dp) S1 (upd H1 Dp (.lst [])) S' (upd H' Dp (.lst [])) ∧ H' Dp = some (.lst vs') ∧ RelL K (fz (hide F Dp) S' H') vs' acc ∧ lcL kp (dTg tg) tt te vs δ (items.drop (i + 1)) acc S' (thaw P),
      fun H' q => ⟨items.length - (i + 1), by omega, rfl, hlt, q⟩, fun x H3 y => ?_⟩
    obtain ⟨d, e, g3, rx⟩ := w3 i x H3 hlt y
    have ed : items.drop i = d :: items.drop (i + 1) := by
      rw [List.drop_eq_getElem_cons hlt]
      rw [List.getElem?_eq_getElem hlt] at e
      cases e
      rfl
    rw [ed] at h2
    obtain ⟨_, hacc, h2⟩ := h2
    -- later states, D behind them
    have later : ∀ {S4 : Sto} {H4 : Hp}, Go Γ (hide F Dp) S2 H2 S4 H4 → Go Γ (hide F Dp) S1 (upd H1 Dp (.lst [])) S4 (upd H4 Dp (.lst [])) := fun {S4 H4} g => by
      refine g2.trans ⟨?_, fun a f => ?_, Sim.hidePut g1.sim fD g.sim⟩
      · rw [fz_hide_upd, fz_hide_upd]
        exact g.same
      · by_cases z : a = Dp
        · subst z; rw [upd_same, upd_same]
        · rw [upd_ne z, upd_ne z]; exact g.hid a f
    refine gTg_ok tg rx ((rs2.wipe vs).mono g3.same) h2 fun σ4 δ4 rs4 h4 hw => ⟨?_, ?_⟩
    · rw [hw vs hv]
      exact lf_lc.wipe_wipe σ vs
    refine ⟨hide F Dp, δ4, S2, _, g3.sim, rs4, h4, fun b S5 h5 H5 g5 => ?_⟩
    have g25 := g3.trans g5
    cases b with
    | false => exact ⟨S5, vs2, acc, later g25, (g25.hid Dp (by simp [hide])).trans e2, r2.mono g25.same, h5⟩
    | true =>
      refine ⟨hide F Dp, δ4, S5, _, g5.sim, rs4.mono g5.same, h5, fun dy S6 h6 vy H6 g6 r6 => ?_⟩
      have g26 := g25.trans g6
      have e6 : H6 Dp = some (.lst vs2) := (g26.hid Dp (by simp [hide])).trans e2
      refine ⟨vs2, e6, by rw [r2.length]; exact hacc, S6, vs2 ++ [vy], acc ++ [dy], ?_, upd_same, ?_, h6⟩
      · rw [upd_upd]
        exact later g26
      · rw [fz_hide_upd]
        exact (r2.mono g26.same).append (.cons r6 .nil)
  · have e : i = items.length := by omega
    subst e
    rw [List.drop_length] at h2
    refine .inl ⟨w2, ?_⟩
    have z : S2 Dp = none := by
      cases z : S2 Dp with
      | none => rfl
      | some u =>
        have := (s2.at_ Dp u z).1
        simp [hide] at this
    have h3 : P (.ref Dp) (sup S2 Dp (.lst acc)) := h2.2 Dp z
    have e3 : Same (fz (hide F Dp) S2 H2) (fz F (sup S2 Dp (.lst acc)) H2) := fun b x e => by
      obtain ⟨a0, a1, a2⟩ := fz_of e
      have np : b ≠ Dp := fun y => by subst y; simp [hide] at a0
      rw [fz_none (by simpa [hide, np] using a0) (by rw [sup_ne np]; exact a1)]
      exact a2
    have go3 : Go Γ F S1 H1 (sup S2 Dp (.lst acc)) H2 := by
      refine .of g1.sim ⟨sm2.trans e3, go2.hid, fun b u q => ?_, fun a f => s2.hid a (by by_cases np : a = Dp <;> simp [hide, np, f])⟩
      by_cases np : b = Dp
      · subst np
        rw [sup_same] at q
        cases q
        exact ⟨fD, vs2, e2, r2.mono e3⟩
      · rw [sup_ne np] at q
        have q2 := s2.at_ b u q
        exact ⟨by simpa [hide, np] using q2.1, q2.2.mono e3⟩
    exact c1 _ _ h3 _ _ go3 (.ref Dp)
theorem dpe_lcM {elt tge iter : Expr} {ifs : List Expr} {scope : Scope} {own : List (Str × Nat)} {pos : Pos} {wi : DTI} {tg : Tg} {tt : DTT} {te : DTE} (hN : X.N.Nodup) (hi : DPI X Γ tge iter wi) (ok : BlkOk X.N X.env.scope scope own)
    (hg : ∀ (s : Shared) (H : Hp) (C : Addr) (cl : List (Str × Addr)) (fp : List Addr), PG (X.blk s H scope (compEnvC scope cl C X.env) fp) tge (gTg X.K tg)) (ht : ∀ (s : Shared) (H : Hp) (C : Addr) (cl : List (Str × Addr)) (fp : List Addr), PTs (X.blk s H scope (compEnvC scope cl C X.env) fp) ifs (lfT Γ tt))
    (he : ∀ (s : Shared) (H : Hp) (C : Addr) (cl : List (Str × Addr)) (fp : List Addr), DPE (X.blk s H scope (compEnvC scope cl C X.env) fp) Γ elt te) (hv : ∀ i ∈ tg.slots, i ∈ own.map (·.2) := by decide) (hc : X.calm = true := by rfl) (hs : ∀ x, foldedSetIterable iter X.env x = pure x := by intro _; rfl) :
    DPE X Γ (.ListComp elt [⟨tge, iter, ifs, 0⟩] scope pos) (dLcM wi (dTg tg) tt te (own.map (·.2))) :=
  PEw (pe_lc (te := lf Γ te) hc hN hi ok hg ht (fun s H C cl fp => he s H C cl fp) hs) (lf_lcM hv)
theorem dps_setLcM {i : Nat} {y : Str} {py : Pos} {elt tge iter : Expr} {ifs : List Expr} {scope : Scope} {own : List (Str × Nat)} {pos spos : Pos} {wi : DTI} {tg : Tg} {tt : DTT} {te : DTE} (hN : X.N.Nodup) (hy : X.N[i]? = some y) (hyl : X.env.scope.names.lookup y = some .local)
    (hsw : swapsWith (.ListComp elt [⟨tge, iter, ifs, 0⟩] scope pos) (some (.Name y py)) spos.line X.env = pure true) (hi : DPI X Γ tge iter wi) (ok : BlkOk X.N X.env.scope scope own)
    (hg : ∀ (s : Shared) (H : Hp) (C : Addr) (cl : List (Str × Addr)) (fp : List Addr), PG (X.blk s H scope (compEnvC scope cl C X.env) fp) tge (gTg X.K tg)) (ht : ∀ (s : Shared) (H : Hp) (C : Addr) (cl : List (Str × Addr)) (fp : List Addr), PTs (X.blk s H scope (compEnvC scope cl C X.env) fp) ifs (lfT Γ tt))
    (he : ∀ (s : Shared) (H : Hp) (C : Addr) (cl : List (Str × Addr)) (fp : List Addr), DPE (X.blk s H scope (compEnvC scope cl C X.env) fp) Γ elt te) (hv : ∀ i ∈ tg.slots, i ∈ own.map (·.2) := by decide) (hc : X.calm = true := by rfl) (hs : ∀ x, foldedSetIterable iter X.env x = pure x := by intro _; rfl) :
    DPS X Γ (.Assign [.Name y py] (.ListComp elt [⟨tge, iter, ifs, 0⟩] scope pos) spos) (dAsg (dLcM wi (dTg tg) tt te (own.map (·.2))) (dTg (.nm i))) := by
  refine PSw (ps_setLc (te := lf Γ te) hc hN hy hyl hsw hi ok hg ht (fun s H C cl fp => he s H C cl fp) hs) fun D σ H ⟨F, δ, S, P, sm, rs, h, c⟩ => ?_
  refine lf_lcM hv σ H _ ⟨F, δ, S, _, sm, rs, h, fun d S1 h1 v H1 g1 r1 => ?_⟩
  exact c.nx _ _ h1 _ _ g1 ((rs.mono g1.same).dset r1 i)
end
/-! ### list(x), to be changed -/
def vListM : List D → Sto → DK → Prop
  | [x], S, Q => match seqOf S x with
    | some ds => ∀ p, S p = none → Q (.ref p) (sup S p (.lst ds))
    | none => match x with
      | .tup ds => ∀ p, S p = none → Q (.ref p) (sup S p (.lst ds))
      | _ => False
  | _, _, _ => False
theorem dcall_listM {X : Cx} : DCall X (.type "list") vListM := by
  refine ⟨_, call_list_of, fun xs ds F S H P Q sm rx q c => ?_⟩
  rcases ds with _ | ⟨d, _ | ⟨_, _⟩⟩ <;> first | exact (q : False).elim | skip
  cases rx with
  | cons r1 r2 =>
  cases r2
  simp only [vListM] at q
  split at q
  · rename_i ds e
    obtain ⟨a, vs, rfl, hs, rl⟩ := seqOf_rel sm r1 e
    exact ⟨a, vs, rfl, .inl hs, fun l hl => c.newM (o := .lst vs) (u := .lst ds) sm hl ⟨_, rfl, rl⟩ (.ref l) (q l (sm.none hl).2)⟩
  · split at q
    · rename_i ds _
      cases r1 with
      | tup hs rl => exact ⟨_, _, rfl, .inr (sqT_mono (fz_same F S H) hs), fun l hl => c.newM (o := .lst _) (u := .lst ds) sm hl ⟨_, rfl, rl⟩ (.ref l) (q l (sm.none hl).2)⟩
    · exact q.elim
end L3

set_option Elab.async false
set_option maxRecDepth 100000
set_option linter.all false
set_option maxHeartbeats 2000000
namespace L3
open PySem PySem.Spec PyProof.Rows L2
/-! ### x in a tuple of data of any depth -/
def rInT (K : PySem.W.Frag) (neg : Bool) : R2 := fun x y H Q => ∃ d ds, Dp K H x d ∧ Dp K H y (.tuple ds) ∧ SeqAt.shaped d = true ∧ SeqAt.shaped (.tuple ds) = true ∧ Q (.bl (if neg then !ds.any fun z => PyData.eqv z d else ds.any fun z => PyData.eqv z d)) H
section
variable {X : Cx} {Γ : KG X.K}
theorem op_inT (hu : X.A.units + 65 < cLine) : OpR X (compareOp .In) (rInT X.K false) := by
  intro pins s σ H x y v u Q I rx ry h
  obtain ⟨d, ds, hd, he, sd, se, q⟩ := h
  obtain ⟨as, r1⟩ := Dp.reads I d x v hd rx
  obtain ⟨bs, r2⟩ := Dp.reads I (.tuple ds) y u he ry
  exact SeqAt.in_tuple_reads r2 r1 (SeqAt.canLay_of_shaped se) (SeqAt.canLay_of_shaped sd) (room_in_shaped sd hu) ⟨.bl _, H, I, rfl, q⟩
theorem op_notinT (hu : X.A.units + 65 < cLine) : OpR X (compareOp .NotIn) (rInT X.K true) := by
  intro pins s σ H x y v u Q I rx ry h
  obtain ⟨d, ds, hd, he, sd, se, q⟩ := h
  obtain ⟨as, r1⟩ := Dp.reads I d x v hd rx
  obtain ⟨bs, r2⟩ := Dp.reads I (.tuple ds) y u he ry
  exact SeqAt.notIn_tuple_reads r2 r1 (SeqAt.canLay_of_shaped se) (SeqAt.canLay_of_shaped sd) (room_in_shaped sd hu) ⟨.bl _, H, I, rfl, q⟩
theorem units65 {k : Nat} {A : Around} (r : Room k A) : A.units + 65 < cLine := by have := r.un; omega
def vInT (neg : Bool) (x y : D) (S : Sto) (Q : DK) : Prop := match y with
  | .tup ds => okE x = true ∧ okEs ds = true ∧ dep x ≤ 64 ∧ deps ds ≤ 63 ∧ Q (.bl (if neg then !ds.any fun z => eqv z x else ds.any fun z => eqv z x)) S
  | _ => False
theorem any_toPs (p : PyData → Bool) : ∀ ds : List D, (toPs ds).any p = ds.any fun z => p (toP z)
  | [] => rfl
  | d :: ds => by simp only [toPs, List.any_cons, any_toPs p ds]
theorem dop_inAnyT (neg : Bool) {f : Value → Value → Sem Value} (h : OpR X f (rInT X.K neg)) : DOp X f (vInT neg) := by
  refine ⟨_, h, fun x y dx dy F S H P Q sm rx ry q c => ?_⟩
  cases dy <;> first | exact (q : False).elim | skip
  rename_i ds
  obtain ⟨h1, h2, h3, h4, h5⟩ := q
  have e1 : okE (.tup ds) = true := by simp only [okE]; exact h2
  have e2 : dep (.tup ds) ≤ 64 := by simp only [dep]; omega
  refine ⟨toP dx, toPs ds, (rx.mono (fz_same F S H)).dp h1, ?_, shaped_of h1 h3, ?_, ?_⟩
  · have := (ry.mono (fz_same F S H)).dp e1
    simpa only [toP] using this
  · have := shaped_of e1 e2
    simpa only [toP] using this
  · rw [any_toPs]
    exact c.use sm (.bl _) h5
theorem dop_inT (hu : X.A.units + 65 < cLine) : DOp X (compareOp .In) (vInT false) := dop_inAnyT false (op_inT hu)
theorem dop_notinT (hu : X.A.units + 65 < cLine) : DOp X (compareOp .NotIn) (vInT true) := dop_inAnyT true (op_notinT hu)
end
end L3

set_option linter.all false
set_option maxHeartbeats 1000000
/-! least sums over edges: the plain mathematics (k69) -/
namespace L3.KW
abbrev Ed := Nat × Nat × Int
abbrev Sm := Nat → Option Int
def fset {α : Type} (f : Nat → α) (v : Nat) (o : α) : Nat → α := fun u => if u = v then o else f u
theorem fset_same {α : Type} {f : Nat → α} {v : Nat} {o : α} : fset f v o v = o := if_pos rfl
theorem fset_ne {α : Type} {f : Nat → α} {v u : Nat} {o : α} (h : u ≠ v) : fset f v o u = f u := if_neg h
/-- the sum to which an edge lowers, if it does -/
def lowv (f : Sm) (e : Ed) : Option Int := match f e.1 with
  | none => none
  | some x => match f e.2.1 with
    | none => some (x + e.2.2)
    | some y => if x + e.2.2 < y then some (x + e.2.2) else none
def stp (f : Sm) (e : Ed) : Sm := match lowv f e with
  | some z => fset f e.2.1 (some z)
  | none => f
def pass (es : List Ed) (f : Sm) : Sm := es.foldl stp f
/-- the edge is kept to -/
def sat (f : Sm) (e : Ed) : Prop := lowv f e = none
def Stable (es : List Ed) (f : Sm) : Prop := ∀ e ∈ es, sat f e
theorem stp_sat {f : Sm} {e : Ed} (h : sat f e) : stp f e = f := by unfold stp; rw [h]
theorem pass_stable {es : List Ed} {f : Sm} (h : Stable es f) : pass es f = f := by
  unfold pass
  induction es with
  | nil => rfl
  | cons e es ih =>
    rw [List.foldl_cons, stp_sat (h e List.mem_cons_self)]
    exact ih fun e he => h e (List.mem_cons_of_mem _ he)
theorem lowv_some {f : Sm} {e : Ed} {z : Int} (h : lowv f e = some z) : ∃ x, f e.1 = some x ∧ z = x + e.2.2 ∧ ∀ y, f e.2.1 = some y → x + e.2.2 < y := by
  unfold lowv at h
  split at h
  · cases h
  · rename_i x hx
    split at h
    · rename_i hn
      cases h
      exact ⟨x, hx, rfl, fun y hy => by rw [hn] at hy; cases hy⟩
    · rename_i y hy
      split at h
      · rename_i hlt
        cases h
        exact ⟨x, hx, rfl, fun y' hy' => by rw [hy] at hy'; cases hy'; exact hlt⟩
      · cases h
theorem sat_iff {f : Sm} {e : Ed} : sat f e ↔ ∀ x, f e.1 = some x → ∃ y, f e.2.1 = some y ∧ y ≤ x + e.2.2 := by
  unfold sat lowv
  cases hx : f e.1 with
  | none =>
    simp
  | some x =>
    cases hy : f e.2.1 with
    | none => simp
    | some y =>
      by_cases hlt : x + e.2.2 < y
      · simp [hlt]
      · simp [hlt]
        omega
/-! ### the ghost: what was lowered last, when, in which pass -/
structure G where
  f : Sm
  ah : Nat → Option Nat
  tm : Nat → Nat
  ps : Nat → Nat
  now : Nat
/-- one edge, at its place, in pass j -/
def gst (g : G) (j i : Nat) (e : Ed) : G := match lowv g.f e with
  | some z => ⟨fset g.f e.2.1 (some z), fset g.ah e.2.1 (some i), fset g.tm e.2.1 (g.now + 1), fset g.ps e.2.1 j, g.now + 1⟩
  | none => g
theorem gst_f (g : G) (j i : Nat) (e : Ed) : (gst g j i e).f = stp g.f e := by
  unfold gst stp
  cases lowv g.f e <;> rfl
def gpass (j : Nat) : Nat → List Ed → G → G
  | _, [], g => g
  | i, e :: es, g => gpass j (i + 1) es (gst g j i e)
theorem gpass_f (j : Nat) : ∀ (es : List Ed) (i : Nat) (g : G), (gpass j i es g).f = pass es g.f
  | [], _, _ => rfl
  | e :: es, i, g => by
    show (gpass j (i + 1) es (gst g j i e)).f = _
    rw [gpass_f j es, gst_f]
    rfl
/-- what holds all along -/
structure Ok (es : List Ed) (g : G) : Prop where
  ex : ∀ v i, g.ah v = some i → ∃ u w x y, es[i]? = some (u, v, w) ∧ g.f u = some x ∧ g.f v = some y ∧ x + w ≤ y ∧ (g.tm v < g.tm u → x + w < y) ∧ (u = v → w < 0)
  tm : ∀ v, g.tm v ≤ g.now
  inj : ∀ v u, g.tm v = g.tm u → g.tm v ≠ 0 → v = u
  has : ∀ v, g.ah v ≠ none → g.tm v ≠ 0 ∧ g.ps v ≠ 0
  pos : ∀ v, g.ps v ≠ 0 → g.ah v ≠ none
theorem ok_gst {es : List Ed} {g : G} (h : Ok es g) {j i : Nat} {e : Ed} (hj : j ≠ 0) (he : es[i]? = some e) : Ok es (gst g j i e) := by
  unfold gst
  cases hl : lowv g.f e with
  | none => exact h
  | some z =>
    obtain ⟨a, b, w⟩ := e
    obtain ⟨x, hx, hz, hlt⟩ := lowv_some hl
    simp only at hx hz hlt
    refine ⟨fun v k hk => ?_, fun v => ?_, fun v u e1 e2 => ?_, fun v hv => ?_, fun v hv => ?_⟩
    · simp only at hk ⊢
      by_cases hv : v = b
      · subst hv
        rw [fset_same] at hk
        cases hk
        by_cases hu : a = v
        · subst hu
          have := hlt x hx
          refine ⟨a, w, z, z, he, fset_same, fset_same, by omega, fun q => absurd q (Nat.lt_irrefl _), fun _ => by omega⟩
        · refine ⟨a, w, x, z, he, by rw [fset_ne hu]; exact hx, fset_same, by omega, fun q => ?_, fun q => absurd q hu⟩
          rw [fset_same, fset_ne hu] at q
          have := h.tm a
          omega
      · rw [fset_ne hv] at hk
        obtain ⟨u, w', x', y', h1, h2, h3, h4, h5, h6⟩ := h.ex v k hk
        by_cases hu : u = b
        · subst hu
          have hlt' := hlt x' h2
          refine ⟨u, w', z, y', h1, fset_same, by rw [fset_ne hv]; exact h3, by omega, fun _ => by omega, h6⟩
        · refine ⟨u, w', x', y', h1, by rw [fset_ne hu]; exact h2, by rw [fset_ne hv]; exact h3, h4, fun q => ?_, h6⟩
          rw [fset_ne hv, fset_ne hu] at q
          exact h5 q
    · simp only
      by_cases hv : v = b
      · subst hv; rw [fset_same]; exact Nat.le_refl _
      · rw [fset_ne hv]; exact Nat.le_succ_of_le (h.tm v)
    · simp only at e1 e2
      by_cases hv : v = b
      · by_cases hu : u = b
        · rw [hv, hu]
        · subst hv
          rw [fset_same, fset_ne hu] at e1
          have := h.tm u
          omega
      · by_cases hu : u = b
        · subst hu
          rw [fset_same, fset_ne hv] at e1
          have := h.tm v
          omega
        · rw [fset_ne hv, fset_ne hu] at e1
          rw [fset_ne hv] at e2
          exact h.inj v u e1 e2
    · simp only at hv ⊢
      by_cases hb : v = b
      · subst hb; rw [fset_same, fset_same]; exact ⟨by omega, hj⟩
      · rw [fset_ne hb] at hv
        rw [fset_ne hb, fset_ne hb]; exact h.has v hv
    · simp only at hv ⊢
      by_cases hb : v = b
      · subst hb; rw [fset_same]; exact fun q => by cases q
      · rw [fset_ne hb] at hv
        rw [fset_ne hb]; exact h.pos v hv
/-- what holds within pass j, at place i -/
structure Ps (es : List Ed) (j i : Nat) (g : G) : Prop where
  ok : Ok es g
  le : ∀ v, g.ps v ≤ j
  lk : ∀ v, 2 ≤ g.ps v → ∃ k u w, g.ah v = some k ∧ es[k]? = some (u, v, w) ∧ g.ps v ≤ g.ps u + 1
  old : ∀ q e, es[q]? = some e → q < i → j ≤ g.ps e.1 ∨ sat g.f e
  new : ∀ q e, es[q]? = some e → i ≤ q → 2 ≤ j → j ≤ g.ps e.1 + 1 ∨ sat g.f e
theorem sat_low {f : Sm} {b : Nat} {z : Int} {e : Ed} (h : sat f e) (hu : e.1 ≠ b) (hz : ∀ y, f b = some y → z < y) : sat (fset f b (some z)) e := by
  rw [sat_iff] at h ⊢
  intro x hx
  rw [fset_ne hu] at hx
  obtain ⟨y, h1, h2⟩ := h x hx
  by_cases hc : e.2.1 = b
  · rw [hc, fset_same]
    rw [hc] at h1
    have := hz y h1
    exact ⟨z, rfl, by omega⟩
  · rw [fset_ne hc]
    exact ⟨y, h1, h2⟩
theorem ps_gst {es : List Ed} {g : G} {j i : Nat} {e : Ed} (h : Ps es j i g) (hj : j ≠ 0) (he : es[i]? = some e) : Ps es j (i + 1) (gst g j i e) := by
  have ok' := ok_gst h.ok hj he
  cases hl : lowv g.f e with
  | none =>
    have eg : gst g j i e = g := by unfold gst; rw [hl]
    rw [eg] at ok' ⊢
    refine ⟨h.ok, h.le, h.lk, fun q e' hq hlt => ?_, fun q e' hq hle => h.new q e' hq (by omega)⟩
    by_cases z : q = i
    · subst z
      rw [he] at hq
      cases hq
      exact .inr hl
    · exact h.old q e' hq (by omega)
  | some z =>
    obtain ⟨a, b, w⟩ := e
    have eg : gst g j i (a, b, w) = ⟨fset g.f b (some z), fset g.ah b (some i), fset g.tm b (g.now + 1), fset g.ps b j, g.now + 1⟩ := by unfold gst; rw [hl]
    rw [eg] at ok' ⊢
    obtain ⟨x, hx, hz, hlt⟩ := lowv_some hl
    simp only at hx hz hlt
    have up : ∀ v, g.ps v ≤ fset g.ps b j v := fun v => by
      by_cases hv : v = b
      · subst hv; rw [fset_same]; exact h.le v
      · rw [fset_ne hv]; exact Nat.le_refl _
    have hzl : ∀ y, g.f b = some y → z < y := fun y hy => by have := hlt y hy; omega
    refine ⟨ok', fun v => ?_, fun v hv => ?_, fun q e' hq hq2 => ?_, fun q e' hq hq2 hj2 => ?_⟩
    · by_cases hv : v = b
      · subst hv; simp only [fset_same]; exact Nat.le_refl _
      · simp only [fset_ne hv]; exact h.le v
    · simp only at hv ⊢
      by_cases hb : v = b
      · subst hb
        rw [fset_same] at hv
        rw [fset_same, fset_same]
        refine ⟨i, a, w, rfl, he, ?_⟩
        rcases h.new i _ he (Nat.le_refl _) hv with q | q
        · have := up a
          simp only at q
          omega
        · unfold sat at q
          rw [hl] at q
          cases q
      · rw [fset_ne hb] at hv
        rw [fset_ne hb, fset_ne hb]
        obtain ⟨k, u, w', h1, h2, h3⟩ := h.lk v hv
        exact ⟨k, u, w', h1, h2, Nat.le_trans h3 (Nat.succ_le_succ (up u))⟩
    · simp only
      by_cases hu : e'.1 = b
      · rw [hu, fset_same]; exact .inl (Nat.le_refl _)
      · by_cases hi : q = i
        · subst hi
          rw [he] at hq
          cases hq
          refine .inr (sat_iff.mpr fun x' hx' => ?_)
          simp only at hu hx' ⊢
          rw [fset_ne hu, hx] at hx'
          cases hx'
          rw [fset_same]
          exact ⟨z, rfl, by omega⟩
        · rcases h.old q e' hq (by omega) with p | p
          · exact .inl (Nat.le_trans p (up _))
          · exact .inr (sat_low p hu hzl)
    · simp only
      by_cases hu : e'.1 = b
      · rw [hu, fset_same]; exact .inl (Nat.le_succ _)
      · rcases h.new q e' hq (by omega) hj2 with p | p
        · exact .inl (Nat.le_trans p (Nat.succ_le_succ (up _)))
        · exact .inr (sat_low p hu hzl)
theorem ps_gpass {es : List Ed} {j : Nat} (hj : j ≠ 0) : ∀ (r : List Ed) (i : Nat) {g : G}, Ps es j i g → es.drop i = r → Ps es j es.length (gpass j i r g)
  | [], i, g, h, e => by
    have hl : es.length ≤ i := by
      have := congrArg List.length e
      rw [List.length_drop, List.length_nil] at this
      omega
    refine ⟨h.ok, h.le, h.lk, fun q e' hq _ => h.old q e' hq ?_, fun q e' hq hq2 => ?_⟩
    · have := (List.getElem?_eq_some_iff.mp hq).1
      omega
    · have := (List.getElem?_eq_some_iff.mp hq).1
      omega
  | e0 :: r, i, g, h, e => by
    have he : es[i]? = some e0 := by
      have := congrArg (fun l => l[0]?) e
      simpa using this
    have hr : es.drop (i + 1) = r := by
      rw [← List.tail_drop, e]
      rfl
    exact ps_gpass hj r (i + 1) (ps_gst h hj he) hr
def g0 (f : Sm) : G := ⟨f, fun _ => none, fun _ => 0, fun _ => 0, 0⟩
theorem ok_g0 (es : List Ed) (f : Sm) : Ok es (g0 f) where
  ex := fun v i h => by cases h
  tm := fun v => Nat.le_refl _
  inj := fun v u _ h => absurd rfl h
  has := fun v h => absurd rfl h
  pos := fun v h => absurd rfl h
def grun (es : List Ed) (f : Sm) : Nat → G
  | 0 => g0 f
  | k + 1 => gpass (k + 1) 0 es (grun es f k)
def passes (es : List Ed) (f : Sm) : Nat → Sm
  | 0 => f
  | k + 1 => pass es (passes es f k)
theorem grun_f (es : List Ed) (f : Sm) : ∀ k, (grun es f k).f = passes es f k
  | 0 => rfl
  | k + 1 => by
    show (gpass (k + 1) 0 es (grun es f k)).f = pass es (passes es f k)
    rw [gpass_f, grun_f es f k]
theorem ps_start (es : List Ed) (f : Sm) : ∀ k, Ps es (k + 1) 0 (grun es f k)
  | 0 => ⟨ok_g0 es f, fun v => Nat.zero_le _, fun v h => absurd h (by show ¬ 2 ≤ 0; omega), fun q e _ h => absurd h (Nat.not_lt_zero _), fun q e _ _ h => absurd h (by omega)⟩
  | k + 1 => by
    have p : Ps es (k + 1) es.length (grun es f (k + 1)) := ps_gpass (Nat.succ_ne_zero k) es 0 (ps_start es f k) rfl
    refine ⟨p.ok, fun v => Nat.le_succ_of_le (p.le v), p.lk, fun q e _ h => absurd h (Nat.not_lt_zero _), fun q e hq _ _ => ?_⟩
    rcases p.old q e hq (List.getElem?_eq_some_iff.mp hq).1 with h | h
    · exact .inl (Nat.succ_le_succ h)
    · exact .inr h
/-! ### where the chain leads -/
/-- the number ahead, by the places -/
def prn (es : List Ed) (ah : Nat → Option Nat) (v : Nat) : Nat := match ah v with
  | some i => match es[i]? with
    | some e => e.1
    | none => v
  | none => v
theorem prn_of {es : List Ed} {ah : Nat → Option Nat} {v i : Nat} {e : Ed} (h1 : ah v = some i) (h2 : es[i]? = some e) : prn es ah v = e.1 := by
  unfold prn
  rw [h1]
  simp only [h2]
def itr (h : Nat → Nat) : Nat → Nat → Nat
  | 0, v => v
  | t + 1, v => itr h t (h v)
theorem itr_succ (h : Nat → Nat) : ∀ (t : Nat) (v : Nat), itr h (t + 1) v = h (itr h t v)
  | 0, _ => rfl
  | t + 1, v => itr_succ h t (h v)
theorem itr_add (h : Nat → Nat) : ∀ (s t : Nat) (v : Nat), itr h (s + t) v = itr h t (itr h s v)
  | 0, t, v => by rw [Nat.zero_add]; rfl
  | s + 1, t, v => by
    rw [Nat.succ_add]
    exact itr_add h s t (h v)
/-- a chain of n + 1 numbers that all have a place -/
theorem chain {es : List Ed} {g : G} {k : Nat} (lk : ∀ v, 2 ≤ g.ps v → ∃ k u w, g.ah v = some k ∧ es[k]? = some (u, v, w) ∧ g.ps v ≤ g.ps u + 1) {v0 : Nat} (h : g.ps v0 = k) : ∀ t, t < k → k ≤ g.ps (itr (prn es g.ah) t v0) + t
  | 0, _ => by show k ≤ g.ps v0; omega
  | t + 1, ht => by
    have ih := chain lk h t (by omega)
    rw [itr_succ]
    obtain ⟨i, u, w, h1, h2, h3⟩ := lk (itr (prn es g.ah) t v0) (by omega)
    rw [prn_of h1 h2]
    show k ≤ g.ps u + (t + 1)
    omega
/-- a round along the chain falls -/
theorem tele (val : Nat → Int) (w : Nat → Int) : ∀ m, (∀ t, t < m → val (t + 1) + w t ≤ val t) → (List.range m).foldl (fun a t => a + w t) 0 + val m ≤ val 0 ∧ ((∃ t, t < m ∧ val (t + 1) + w t < val t) → (List.range m).foldl (fun a t => a + w t) 0 + val m < val 0)
  | 0, _ => ⟨by simp, fun ⟨t, h, _⟩ => absurd h (Nat.not_lt_zero _)⟩
  | m + 1, h => by
    obtain ⟨h1, h2⟩ := tele val w m fun t ht => h t (by omega)
    have hm := h m (Nat.lt_succ_self _)
    rw [List.range_succ, List.foldl_append]
    simp only [List.foldl_cons, List.foldl_nil]
    refine ⟨by omega, fun ⟨t, ht, hlt⟩ => ?_⟩
    by_cases z : t = m
    · subst z
      omega
    · have := h2 ⟨t, by omega, hlt⟩
      omega
end L3.KW

set_option linter.all false
set_option maxHeartbeats 1000000
namespace L3.KW
def pl (ah : Nat → Option Nat) (v : Nat) : Nat := (ah v).getD 0
def wt (es : List Ed) (p : Nat) : Int := match es[p]? with
  | some e => e.2.2
  | none => 0
/-- a round of places -/
structure Cyc (es : List Ed) (ah : Nat → Option Nat) (u m : Nat) : Prop where
  pos : 1 ≤ m
  back : itr (prn es ah) m u = u
  new : ∀ t, 1 ≤ t → t < m → itr (prn es ah) t u ≠ u
  at_ : ∀ t, t < m → ∃ i w, ah (itr (prn es ah) t u) = some i ∧ es[i]? = some (itr (prn es ah) (t + 1) u, itr (prn es ah) t u, w)
def wsum (es : List Ed) (ah : Nat → Option Nat) (u m : Nat) : Int := (List.range m).foldl (fun a t => a + wt es (pl ah (itr (prn es ah) t u))) 0
theorem Cyc.wt {es : List Ed} {ah : Nat → Option Nat} {u m t : Nat} (c : Cyc es ah u m) (ht : t < m) : ∃ i, ah (itr (prn es ah) t u) = some i ∧ pl ah (itr (prn es ah) t u) = i ∧ es[i]? = some (itr (prn es ah) (t + 1) u, itr (prn es ah) t u, KW.wt es (pl ah (itr (prn es ah) t u))) := by
  obtain ⟨i, w, h1, h2⟩ := c.at_ t ht
  have hp : pl ah (itr (prn es ah) t u) = i := by unfold pl; rw [h1]; rfl
  refine ⟨i, h1, hp, ?_⟩
  have : KW.wt es i = w := by unfold KW.wt; rw [h2]
  rw [hp, this]
  exact h2
theorem mono_down {f : Nat → Nat} {m : Nat} (h : ∀ t, t < m → f (t + 1) ≤ f t) : ∀ t, t ≤ m → f m ≤ f t ∧ f t ≤ f 0 := fun t ht => by
  have a : ∀ s, s ≤ m → f s ≤ f 0 := fun s => by
    induction s with
    | zero => intro _; exact Nat.le_refl _
    | succ s ih => intro hs; exact Nat.le_trans (h s (by omega)) (ih (by omega))
  have b : ∀ d, t + d ≤ m → f (t + d) ≤ f t := fun d => by
    induction d with
    | zero => intro _; exact Nat.le_refl _
    | succ d ih => intro hd; exact Nat.le_trans (h (t + d) (by omega)) (ih (by omega))
  have := b (m - t) (by omega)
  rw [show t + (m - t) = m by omega] at this
  exact ⟨this, a t ht⟩
/-- it falls -/
theorem cyc_falls {es : List Ed} {g : G} (ok : Ok es g) {u m : Nat} (c : Cyc es g.ah u m) : wsum es g.ah u m < 0 := by
  let U := fun t => itr (prn es g.ah) t u
  let val := fun t => (g.f (U t)).getD 0
  let W := fun t => wt es (pl g.ah (U t))
  have st : ∀ t, t < m → val (t + 1) + W t ≤ val t ∧ (g.tm (U t) < g.tm (U (t + 1)) → val (t + 1) + W t < val t) ∧ (U (t + 1) = U t → W t < 0) := fun t ht => by
    obtain ⟨i, h1, h2, h3⟩ := c.wt ht
    obtain ⟨u', w', x, y, k1, k2, k3, k4, k5, k6⟩ := ok.ex _ i h1
    rw [h3] at k1
    cases k1
    have e1 : val (t + 1) = x := by show (g.f (U (t + 1))).getD 0 = x; rw [show g.f (U (t + 1)) = some x from k2]; rfl
    have e2 : val t = y := by show (g.f (U t)).getD 0 = y; rw [show g.f (U t) = some y from k3]; rfl
    rw [e1, e2]
    exact ⟨k4, k5, k6⟩
  obtain ⟨_, b⟩ := tele val W m fun t ht => (st t ht).1
  have hb : val m = val 0 := by show (g.f (itr (prn es g.ah) m u)).getD 0 = (g.f u).getD 0; rw [c.back]
  have ex : ∃ t, t < m ∧ val (t + 1) + W t < val t := by
    apply Classical.byContradiction
    intro no
    have dn : ∀ t, t < m → g.tm (U (t + 1)) ≤ g.tm (U t) := fun t ht => by
      apply Classical.byContradiction
      intro z
      exact no ⟨t, ht, (st t ht).2.1 (by omega)⟩
    obtain ⟨h1, h2⟩ := mono_down (f := fun t => g.tm (U t)) dn 1 c.pos
    have eb : U m = U 0 := c.back
    simp only [eb] at h1
    have e : g.tm (U 1) = g.tm (U 0) := Nat.le_antisymm h2 h1
    obtain ⟨i, w, k1, _⟩ := c.at_ 0 c.pos
    have nz : g.tm (U 0) ≠ 0 := (ok.has (U 0) (by rw [show g.ah (U 0) = some i from k1]; exact fun z => by cases z)).1
    have e01 : U 1 = U 0 := ok.inj _ _ e (by rw [e]; exact nz)
    have w0 := (st 0 c.pos).2.2 e01
    refine no ⟨0, c.pos, ?_⟩
    have : val (0 + 1) = val 0 := by show (g.f (U 1)).getD 0 = (g.f (U 0)).getD 0; rw [e01]
    rw [this]
    omega
  have := b ex
  show (List.range m).foldl (fun a t => a + W t) 0 < 0
  omega
/-- potentials -/
def Pot (es : List Ed) (p : Nat → Int) : Prop := ∀ e ∈ es, p e.2.1 ≤ p e.1 + e.2.2
theorem pot_cyc {es : List Ed} {p : Nat → Int} (hp : Pot es p) {ah : Nat → Option Nat} {u m : Nat} (c : Cyc es ah u m) : 0 ≤ wsum es ah u m := by
  let U := fun t => itr (prn es ah) t u
  let W := fun t => wt es (pl ah (U t))
  have h := tele (fun t => - p (U t)) (fun t => - W t) m fun t ht => by
    obtain ⟨i, h1, h2, h3⟩ := c.wt ht
    have := hp _ (List.mem_of_getElem? h3)
    show - p (U (t + 1)) + - W t ≤ - p (U t)
    have : p (U t) ≤ p (U (t + 1)) + W t := this
    omega
  have e : ∀ n, (List.range n).foldl (fun a t => a + - W t) 0 = - (List.range n).foldl (fun a t => a + W t) 0 := fun n => by
    induction n with
    | zero => rfl
    | succ n ih =>
      rw [List.range_succ, List.foldl_append, List.foldl_append]
      simp only [List.foldl_cons, List.foldl_nil]
      rw [ih]
      omega
  have hb : U m = U 0 := c.back
  have h1 := h.1
  rw [e m] at h1
  simp only [hb] at h1
  show 0 ≤ (List.range m).foldl (fun a t => a + W t) 0
  have : (U 0) = u := rfl
  omega
end L3.KW

set_option linter.all false
set_option maxHeartbeats 1000000
namespace L3.KW
theorem nodup_le : ∀ (n : Nat) {l : List Nat}, l.Nodup → (∀ x ∈ l, x < n) → l.length ≤ n
  | 0, [], _, _ => Nat.le_refl _
  | 0, x :: _, _, h => absurd (h x List.mem_cons_self) (Nat.not_lt_zero _)
  | n + 1, l, hn, h => by
    by_cases m : n ∈ l
    · have h1 := nodup_le n (l := l.erase n) (hn.erase n) fun x hx => by
        have := (hn.mem_erase_iff).mp hx
        have := h x this.2
        omega
      rw [List.length_erase_of_mem m] at h1
      omega
    · have h1 := nodup_le n hn fun x hx => by
        have := h x hx
        have : x ≠ n := fun e => m (e ▸ hx)
        omega
      omega
/-- a chain of n + 1 numbers below n, each with its place -/
def Chn (es : List Ed) (ah : Nat → Option Nat) (n v0 : Nat) : Prop := ∀ t, t ≤ n → itr (prn es ah) t v0 < n ∧ ∃ i w, ah (itr (prn es ah) t v0) = some i ∧ es[i]? = some (itr (prn es ah) (t + 1) v0, itr (prn es ah) t v0, w)
theorem least_of (P : Nat → Prop) {d : Nat} (h : P d) : ∃ m, m ≤ d ∧ P m ∧ ∀ t, t < m → ¬ P t := by
  induction d using Nat.strongRecOn with
  | _ d ih =>
    by_cases z : ∃ t, t < d ∧ P t
    · obtain ⟨t, ht, hp⟩ := z
      obtain ⟨m, h1, h2, h3⟩ := ih t ht hp
      exact ⟨m, by omega, h2, h3⟩
    · exact ⟨d, Nat.le_refl _, h, fun t ht hp => z ⟨t, ht, hp⟩⟩
theorem chn_cyc {es : List Ed} {ah : Nat → Option Nat} {n v0 i d : Nat} (c : Chn es ah n v0) (hd : 1 ≤ d) (hi : i + d ≤ n) (e : itr (prn es ah) (i + d) v0 = itr (prn es ah) i v0) : ∃ m, m ≤ d ∧ Cyc es ah (itr (prn es ah) i v0) m := by
  obtain ⟨m, h1, ⟨h2, h3⟩, h4⟩ := least_of (fun m => 1 ≤ m ∧ itr (prn es ah) m (itr (prn es ah) i v0) = itr (prn es ah) i v0) (d := d) ⟨hd, by rw [← itr_add]; exact e⟩
  refine ⟨m, h1, h2, h3, fun t t1 tm q => h4 t tm ⟨t1, q⟩, fun t ht => ?_⟩
  obtain ⟨_, k, w, k1, k2⟩ := c (i + t) (by omega)
  rw [← itr_add, ← itr_add]
  exact ⟨k, w, k1, k2⟩
theorem chn_ex {es : List Ed} {ah : Nat → Option Nat} {n v0 : Nat} (c : Chn es ah n v0) : ∃ u m, Cyc es ah u m := by
  apply Classical.byContradiction
  intro no
  have inj : ∀ i j, i < j → j ≤ n → itr (prn es ah) i v0 ≠ itr (prn es ah) j v0 := fun i j hij hj e => by
    obtain ⟨m, _, cy⟩ := chn_cyc c (i := i) (d := j - i) (by omega) (by omega) (by rw [show i + (j - i) = j by omega]; exact e.symm)
    exact no ⟨_, m, cy⟩
  have nd : ((List.range (n + 1)).map fun t => itr (prn es ah) t v0).Nodup := by
    refine List.pairwise_map.mpr ?_
    refine List.Pairwise.imp_of_mem (R := fun a b => a < b) (fun {a b} ha hb hab => inj a b hab (by have := List.mem_range.mp hb; omega)) List.pairwise_lt_range
  have := nodup_le n nd fun x hx => by
    obtain ⟨t, ht, rfl⟩ := List.mem_map.mp hx
    exact (c t (by have := List.mem_range.mp ht; omega)).1
  rw [List.length_map, List.length_range] at this
  omega
/-- edges between numbers below n -/
def Below (n : Nat) (es : List Ed) : Prop := ∀ e ∈ es, e.1 < n ∧ e.2.1 < n
theorem chn_of {es : List Ed} {g : G} {n v0 : Nat} (bl : Below n es) (ok : Ok es g) (lk : ∀ v, 2 ≤ g.ps v → ∃ k u w, g.ah v = some k ∧ es[k]? = some (u, v, w) ∧ g.ps v ≤ g.ps u + 1) (h : g.ps v0 = n + 1) : Chn es g.ah n v0 := fun t ht => by
  have h1 := chain lk h t (by omega)
  have h2 := ok.pos (itr (prn es g.ah) t v0) (by omega)
  cases e : g.ah (itr (prn es g.ah) t v0) with
  | none => exact absurd e h2
  | some i =>
    obtain ⟨u, w, x, y, k1, _⟩ := ok.ex _ i e
    refine ⟨(bl _ (List.mem_of_getElem? k1)).2, i, w, rfl, ?_⟩
    rw [itr_succ, prn_of e k1]
    exact k1
/-- what a pass lowers -/
theorem low_some {es : List Ed} {j : Nat} : ∀ (r : List Ed) (i : Nat) (g : G), ¬ Stable r g.f → (∃ v, (gpass j i r g).ps v = j)
  | [], _, g, h => absurd (fun e he => by cases he) h
  | e :: r, i, g, h => by
    have keep : ∀ (r : List Ed) (i : Nat) (g : G), (∃ v, g.ps v = j) → ∃ v, (gpass j i r g).ps v = j := fun r => by
      induction r with
      | nil => intro i g h; exact h
      | cons e r ih =>
        intro i g h
        refine ih (i + 1) _ ?_
        obtain ⟨v, hv⟩ := h
        unfold gst
        cases lowv g.f e with
        | none => exact ⟨v, hv⟩
        | some z =>
          by_cases q : v = e.2.1
          · exact ⟨v, by rw [q]; exact fset_same⟩
          · exact ⟨v, by show fset g.ps e.2.1 j v = j; rw [fset_ne q]; exact hv⟩
    show ∃ v, (gpass j (i + 1) r (gst g j i e)).ps v = j
    cases hl : lowv g.f e with
    | none =>
      have eg : gst g j i e = g := by unfold gst; rw [hl]
      rw [eg]
      refine low_some (es := es) r (i + 1) g fun st => h fun e' he => ?_
      rcases List.mem_cons.mp he with rfl | he
      · exact hl
      · exact st e' he
    | some z =>
      refine keep r (i + 1) _ ⟨e.2.1, ?_⟩
      unfold gst
      rw [hl]
      exact fset_same
theorem not_stable {n : Nat} {es : List Ed} {f : Sm} (bl : Below n es) (h : ¬ Stable es (passes es f n)) : ∃ u m, Cyc es (grun es f (n + 1)).ah u m ∧ wsum es (grun es f (n + 1)).ah u m < 0 := by
  have p : Ps es (n + 1) es.length (grun es f (n + 1)) := ps_gpass (Nat.succ_ne_zero n) es 0 (ps_start es f n) rfl
  obtain ⟨v, hv⟩ := low_some (es := es) (j := n + 1) es 0 (grun es f n) (by rw [grun_f]; exact h)
  obtain ⟨u, m, c⟩ := chn_ex (chn_of bl p.ok p.lk hv)
  exact ⟨u, m, c, cyc_falls p.ok c⟩
/-- potentials end the passes -/
theorem pot_stable {n : Nat} {es : List Ed} {f : Sm} {p : Nat → Int} (bl : Below n es) (hp : Pot es p) : Stable es (passes es f n) := by
  apply Classical.byContradiction
  intro h
  obtain ⟨u, m, c, hw⟩ := not_stable bl h
  have := pot_cyc hp c
  omega
theorem no_pot {n : Nat} {es : List Ed} {f : Sm} (bl : Below n es) (h : ¬ Stable es (passes es f n)) (p : Nat → Int) : ¬ Pot es p := fun hp => h (pot_stable bl hp)
/-- where all have sums, they are potentials -/
theorem stp_all {f : Sm} {e : Ed} (h : ∀ v, (f v).isSome = true) : ∀ v, (stp f e v).isSome = true := fun v => by
  unfold stp
  cases lowv f e with
  | none => exact h v
  | some z =>
    by_cases q : v = e.2.1
    · subst q; show (fset f e.2.1 (some z) e.2.1).isSome = true; rw [fset_same]; rfl
    · show (fset f e.2.1 (some z) v).isSome = true; rw [fset_ne q]; exact h v
theorem pass_all : ∀ {es : List Ed} {f : Sm}, (∀ v, (f v).isSome = true) → ∀ v, (pass es f v).isSome = true
  | [], _, h => h
  | e :: es, f, h => pass_all (es := es) (stp_all h)
theorem passes_all {es : List Ed} {f : Sm} (h : ∀ v, (f v).isSome = true) : ∀ k v, (passes es f k v).isSome = true
  | 0 => h
  | k + 1 => pass_all (passes_all h k)
theorem stable_pot {es : List Ed} {f : Sm} (h : ∀ v, (f v).isSome = true) (st : Stable es f) : Pot es fun v => (f v).getD 0 := fun e he => by
  have h1 := sat_iff.mp (st e he)
  have h2 := h e.1
  cases hx : f e.1 with
  | none => rw [hx] at h2; cases h2
  | some x =>
    obtain ⟨y, hy, hle⟩ := h1 x hx
    show (f e.2.1).getD 0 ≤ (f e.1).getD 0 + e.2.2
    rw [hx, hy]
    exact hle
/-- sums are not below what potentials say -/
theorem stp_lb {p : Nat → Int} {c : Int} {f : Sm} {e : Ed} (hp : p e.2.1 ≤ p e.1 + e.2.2) (h : ∀ v x, f v = some x → p v + c ≤ x) : ∀ v x, stp f e v = some x → p v + c ≤ x := fun v x hx => by
  unfold stp at hx
  cases hl : lowv f e with
  | none => rw [hl] at hx; exact h v x hx
  | some z =>
    rw [hl] at hx
    have hx : fset f e.2.1 (some z) v = some x := hx
    by_cases q : v = e.2.1
    · subst q
      rw [fset_same] at hx
      cases hx
      obtain ⟨y, h1, h2, _⟩ := lowv_some hl
      have := h _ y h1
      omega
    · rw [fset_ne q] at hx; exact h v x hx
theorem pass_lb {p : Nat → Int} {c : Int} : ∀ {es : List Ed} {f : Sm}, Pot es p → (∀ v x, f v = some x → p v + c ≤ x) → ∀ v x, pass es f v = some x → p v + c ≤ x
  | [], _, _, h => h
  | e :: es, f, hp, h => pass_lb (es := es) (fun e' he => hp e' (List.mem_cons_of_mem _ he)) (stp_lb (hp e List.mem_cons_self) h)
theorem passes_lb {p : Nat → Int} {c : Int} {es : List Ed} {f : Sm} (hp : Pot es p) (h : ∀ v x, f v = some x → p v + c ≤ x) : ∀ k v x, passes es f k v = some x → p v + c ≤ x
  | 0 => h
  | k + 1 => pass_lb hp (passes_lb hp h k)
/-- sums only get less -/
theorem stp_le {f : Sm} {e : Ed} {v : Nat} {x : Int} (h : f v = some x) : ∃ y, stp f e v = some y ∧ y ≤ x := by
  unfold stp
  cases hl : lowv f e with
  | none => exact ⟨x, h, Int.le_refl _⟩
  | some z =>
    by_cases q : v = e.2.1
    · subst q
      obtain ⟨y, h1, h2, h3⟩ := lowv_some hl
      have := h3 x h
      exact ⟨z, fset_same, by omega⟩
    · exact ⟨x, by show fset f e.2.1 (some z) v = some x; rw [fset_ne q]; exact h, Int.le_refl _⟩
theorem pass_le : ∀ {es : List Ed} {f : Sm} {v : Nat} {x : Int}, f v = some x → ∃ y, pass es f v = some y ∧ y ≤ x
  | [], _, _, x, h => ⟨x, h, Int.le_refl _⟩
  | e :: es, f, v, x, h => by
    obtain ⟨y, h1, h2⟩ := stp_le (e := e) h
    obtain ⟨z, h3, h4⟩ := pass_le (es := es) h1
    exact ⟨z, h3, by omega⟩
theorem passes_le {es : List Ed} {f : Sm} {v : Nat} {x : Int} (h : f v = some x) : ∀ k, ∃ y, passes es f k v = some y ∧ y ≤ x
  | 0 => ⟨x, h, Int.le_refl _⟩
  | k + 1 => by
    obtain ⟨y, h1, h2⟩ := passes_le h k
    obtain ⟨z, h3, h4⟩ := pass_le (es := es) h1
    exact ⟨z, h3, by omega⟩
/-! ### an edge more -/
/-- the sums from one number -/
def from1 (o : Nat) : Sm := fun v => if v = o then some 0 else none
theorem longer_pot {es : List Ed} {s : Sm} {p : Nat → Int} {one other : Nat} {back : Int} (hp : Pot es p) (st : Stable es s) (h1 : ∃ y, s one = some y ∧ y ≤ 0) (h2 : s other = some back) : ∃ q, Pot (es ++ [(other, one, 0 - back)]) q := by
  -- high enough
  have big : ∀ r : List Ed, ∃ c : Int, ∀ e ∈ r, ∀ y, s e.2.1 = some y → y ≤ p e.1 + c + e.2.2 := fun r => by
    induction r with
    | nil => exact ⟨0, fun e he => by cases he⟩
    | cons e r ih =>
      obtain ⟨c, hc⟩ := ih
      cases hy : s e.2.1 with
      | none =>
        refine ⟨c, fun e' he => ?_⟩
        rcases List.mem_cons.mp he with rfl | he
        · intro y h; rw [hy] at h; cases h
        · exact hc e' he
      | some y =>
        refine ⟨max c (y - p e.1 - e.2.2), fun e' he y' h => ?_⟩
        rcases List.mem_cons.mp he with rfl | he
        · rw [hy] at h; cases h; have := Int.le_max_right c (y - p e'.1 - e'.2.2); omega
        · have := hc e' he y' h
          have := Int.le_max_left c (y - p e.1 - e.2.2)
          omega
  obtain ⟨c, hc⟩ := big es
  refine ⟨fun v => match s v with | some x => x | none => p v + c, fun e he => ?_⟩
  rcases List.mem_append.mp he with he | he
  · have hs := sat_iff.mp (st e he)
    have hpe := hp e he
    cases hx : s e.1 with
    | some x =>
      obtain ⟨y, hy, hle⟩ := hs x hx
      simp only [hx, hy]
      exact hle
    | none =>
      cases hy : s e.2.1 with
      | some y =>
        simp only [hx, hy]
        exact hc e he y hy
      | none =>
        simp only [hx, hy]
        omega
  · have e1 := List.mem_singleton.mp he
    subst e1
    obtain ⟨y, hy, hle⟩ := h1
    simp only [hy, h2]
    omega
theorem shorter_none {es : List Ed} {s : Sm} {one other : Nat} {back : Int} {k : Nat} (hs : s = passes es (from1 one) k) (h2 : s other = some back) (q : Nat → Int) : ¬ Pot (es ++ [(other, one, -1 - back)]) q := fun hq => by
  have hp : Pot es q := fun e he => hq e (List.mem_append_left _ he)
  have lb := passes_lb (c := 0 - q one) (f := from1 one) hp (fun v x h => by
    unfold from1 at h
    split at h
    · rename_i e; subst e; cases h; omega
    · cases h) k other back (by rw [← hs]; exact h2)
  have := hq (other, one, -1 - back) (List.mem_append_right _ (List.mem_singleton.mpr rfl))
  simp only at this
  omega
/-! ### bounds -/
def Bnd (f : Sm) (b : Int) : Prop := ∀ v x, f v = some x → -b ≤ x ∧ x ≤ b
theorem stp_bnd {f : Sm} {e : Ed} {b w : Int} (h : Bnd f b) (hw : -w ≤ e.2.2 ∧ e.2.2 ≤ w) : Bnd (stp f e) (b + w) := fun v x hx => by
  unfold stp at hx
  cases hl : lowv f e with
  | none => rw [hl] at hx; have := h v x hx; omega
  | some z =>
    rw [hl] at hx
    have hx : fset f e.2.1 (some z) v = some x := hx
    by_cases q : v = e.2.1
    · subst q
      rw [fset_same] at hx
      cases hx
      obtain ⟨y, h1, h2, _⟩ := lowv_some hl
      have := h _ y h1
      omega
    · rw [fset_ne q] at hx; have := h v x hx; omega
theorem pass_bnd {w : Int} : ∀ {es : List Ed} {f : Sm} {b : Int}, Bnd f b → (∀ e ∈ es, -w ≤ e.2.2 ∧ e.2.2 ≤ w) → Bnd (pass es f) (b + es.length * w)
  | [], f, b, h, _ => by rw [show b + (([] : List Ed).length : Int) * w = b by simp]; exact h
  | e :: es, f, b, h, hw => by
    have := pass_bnd (es := es) (stp_bnd h (hw e List.mem_cons_self)) fun e' he => hw e' (List.mem_cons_of_mem _ he)
    rw [show b + ((e :: es).length : Int) * w = b + w + (es.length : Int) * w by rw [List.length_cons, Int.natCast_add, Int.add_mul]; omega]
    exact this
theorem passes_bnd {w : Int} {es : List Ed} {f : Sm} {b : Int} (h : Bnd f b) (hw : ∀ e ∈ es, -w ≤ e.2.2 ∧ e.2.2 ≤ w) : ∀ k : Nat, Bnd (passes es f k) (b + k * (es.length * w))
  | 0 => by rw [show b + ((0 : Nat) : Int) * (es.length * w) = b by simp]; exact h
  | k + 1 => by
    have := pass_bnd (passes_bnd h hw k) hw
    rw [show b + ((k + 1 : Nat) : Int) * (es.length * w) = b + k * (es.length * w) + es.length * w by rw [Int.natCast_add, Int.add_mul]; omega]
    exact this
/-! ### the dict of what was lowered -/
def lput (l : List (Nat × Nat)) (b i : Nat) : List (Nat × Nat) := if (l.any fun q => q.1 == b) = true then l.map fun q => if q.1 = b then (b, i) else q else l ++ [(b, i)]
def lk (l : List (Nat × Nat)) (v : Nat) : Option Nat := (l.find? fun q => q.1 == v).map (·.2)
theorem lk_put (b i v : Nat) : ∀ l : List (Nat × Nat), lk (lput l b i) v = if v = b then some i else lk l v := fun l => by
  have mp : ∀ l : List (Nat × Nat), lk (l.map fun q => if q.1 = b then (b, i) else q) v = if v = b then (if (l.any fun q => q.1 == b) = true then some i else none) else lk l v := fun l => by
    induction l with
    | nil => by_cases z : v = b <;> simp [lk, z]
    | cons q l ih =>
      obtain ⟨a, c⟩ := q
      unfold lk at ih ⊢
      by_cases hab : a = b
      · subst hab
        by_cases hv : v = a
        · subst hv; simp
        · have : ¬ a = v := fun z => hv z.symm
          simp only [List.map_cons, if_true, List.find?_cons, beq_iff_eq, this, hv, if_false, beq_eq_false_iff_ne.mpr this] at ih ⊢
          exact ih
      · by_cases hv : v = b
        · subst hv
          simp only [List.map_cons, hab, if_false, List.find?_cons, beq_eq_false_iff_ne.mpr hab, List.any_cons, Bool.false_or, if_true] at ih ⊢
          exact ih
        · simp only [List.map_cons, hab, if_false, List.find?_cons, hv] at ih ⊢
          cases hav : (a == v) with
          | true => rfl
          | false => exact ih
  have ap : lk (l ++ [(b, i)]) v = match lk l v with | some x => some x | none => if v = b then some i else none := by
    unfold lk
    rw [List.find?_append]
    cases l.find? fun q => q.1 == v with
    | some x => rfl
    | none =>
      by_cases hv : v = b
      · subst hv; simp
      · have : ¬ b = v := fun z => hv z.symm
        simp [hv, this]
  unfold lput
  by_cases hany : (l.any fun q => q.1 == b) = true
  · rw [if_pos hany, mp, hany]
    simp
  · rw [if_neg hany, ap]
    by_cases hv : v = b
    · subst hv
      have : lk l v = none := by
        unfold lk
        rw [List.find?_eq_none.mpr fun q hq z => hany (List.any_eq_true.mpr ⟨q, hq, z⟩)]
        rfl
      rw [this]
    · cases lk l v <;> simp [hv]
/-- what a pass lowers, with the places -/
def lowl : Nat → List Ed → Sm → List (Nat × Nat) → List (Nat × Nat)
  | _, [], _, l => l
  | i, e :: es, f, l => lowl (i + 1) es (stp f e) (match lowv f e with | some _ => lput l e.2.1 i | none => l)
theorem lowl_gpass {j : Nat} : ∀ (r : List Ed) (i : Nat) (g : G) (l : List (Nat × Nat)), (∀ v, lk l v = if g.ps v = j then g.ah v else none) → (∀ v, g.ps v = j → g.ah v ≠ none) →
    (∀ v, lk (lowl i r g.f l) v = if (gpass j i r g).ps v = j then (gpass j i r g).ah v else none) ∧ (∀ v, (gpass j i r g).ps v = j → (gpass j i r g).ah v ≠ none) ∧ ∀ v, (gpass j i r g).ps v ≠ j → (gpass j i r g).ah v = g.ah v
  | [], _, g, l, h, h2 => ⟨h, h2, fun _ _ => rfl⟩
  | e :: r, i, g, l, h, h2 => by
    have h1 : (∀ v, lk (match lowv g.f e with | some _ => lput l e.2.1 i | none => l) v = if (gst g j i e).ps v = j then (gst g j i e).ah v else none) ∧ (∀ v, (gst g j i e).ps v = j → (gst g j i e).ah v ≠ none) ∧ ∀ v, (gst g j i e).ps v ≠ j → (gst g j i e).ah v = g.ah v := by
      unfold gst
      cases lowv g.f e with
      | none => exact ⟨h, h2, fun _ _ => rfl⟩
      | some z =>
        refine ⟨fun v => ?_, fun v => ?_, fun v => ?_⟩
        · simp only
          rw [lk_put]
          by_cases q : v = e.2.1
          · rw [if_pos q, q, fset_same, fset_same, if_pos rfl]
          · rw [if_neg q, fset_ne q, fset_ne q]; exact h v
        · simp only
          by_cases q : v = e.2.1
          · rw [q, fset_same, fset_same]; intro _ z; cases z
          · rw [fset_ne q, fset_ne q]; exact h2 v
        · simp only
          by_cases q : v = e.2.1
          · rw [q, fset_same]; intro z; exact absurd rfl z
          · rw [fset_ne q, fset_ne q]; exact fun _ => rfl
    have ih := lowl_gpass r (i + 1) (gst g j i e) _ h1.1 h1.2.1
    rw [gst_f] at ih
    refine ⟨ih.1, ih.2.1, fun v hv => ?_⟩
    have e1 := ih.2.2 v hv
    show (gpass j (i + 1) r (gst g j i e)).ah v = g.ah v
    rw [e1]
    refine h1.2.2 v fun q => hv ?_
    -- once j, it stays j
    have keep : ∀ (r : List Ed) (i : Nat) (g : G) (v : Nat), g.ps v = j → (gpass j i r g).ps v = j := fun r => by
      induction r with
      | nil => intro i g v h; exact h
      | cons e r ih =>
        intro i g v h
        refine ih (i + 1) _ v ?_
        unfold gst
        cases lowv g.f e with
        | none => exact h
        | some z =>
          by_cases q : v = e.2.1
          · rw [q]; exact fset_same
          · show fset g.ps e.2.1 j v = j; rw [fset_ne q]; exact h
    exact keep r (i + 1) _ v q
/-- the pass k + 1, from the beginning -/
theorem low_run (es : List Ed) (f : Sm) (k : Nat) : (∀ v, lk (lowl 0 es (passes es f k) []) v = if (grun es f (k + 1)).ps v = k + 1 then (grun es f (k + 1)).ah v else none) ∧ ∀ v, (grun es f (k + 1)).ah v = match lk (lowl 0 es (passes es f k) []) v with | some i => some i | none => (grun es f k).ah v := by
  have p := ps_start es f k
  have le : ∀ v, (grun es f k).ps v < k + 1 := fun v => by
    cases k with
    | zero => exact Nat.zero_lt_one
    | succ k =>
      have q : Ps es (k + 1) es.length (grun es f (k + 1)) := ps_gpass (Nat.succ_ne_zero k) es 0 (ps_start es f k) rfl
      exact Nat.lt_succ_of_le (q.le v)
  have h := lowl_gpass (j := k + 1) es 0 (grun es f k) [] (fun v => by rw [if_neg (Nat.ne_of_lt (le v))]; rfl) fun v q => absurd q (Nat.ne_of_lt (le v))
  rw [grun_f] at h
  refine ⟨h.1, fun v => ?_⟩
  have h1 := h.1 v
  show (gpass (k + 1) 0 es (grun es f k)).ah v = _
  rw [h1]
  by_cases q : (gpass (k + 1) 0 es (grun es f k)).ps v = k + 1
  · rw [if_pos q]
    cases e : (gpass (k + 1) 0 es (grun es f k)).ah v with
    | none => exact absurd e (h.2.1 v q)
    | some i => rfl
  · rw [if_neg q]
    exact h.2.2 v q
/-- something is lowered unless all is kept to -/
theorem lput_ne (l : List (Nat × Nat)) (b i : Nat) : lput l b i ≠ [] := by
  unfold lput
  split
  · rename_i h
    intro z
    have : l = [] := by simpa using z
    subst this
    simp at h
  · simp
theorem lowl_keep : ∀ (r : List Ed) (i : Nat) (f : Sm) (l : List (Nat × Nat)), l ≠ [] → lowl i r f l ≠ []
  | [], _, _, _, h => h
  | e :: r, i, f, l, h => by
    refine lowl_keep r (i + 1) (stp f e) _ ?_
    cases lowv f e with
    | none => exact h
    | some z => exact lput_ne _ _ _
theorem lowl_nil : ∀ (r : List Ed) (i : Nat) (f : Sm), lowl i r f [] = [] ↔ Stable r f
  | [], _, f => ⟨fun _ e he => (by cases he), fun _ => rfl⟩
  | e :: r, i, f => by
    show lowl (i + 1) r (stp f e) (match lowv f e with | some _ => lput [] e.2.1 i | none => []) = [] ↔ _
    cases hl : lowv f e with
    | none =>
      have es : stp f e = f := stp_sat hl
      rw [es]
      simp only
      rw [lowl_nil r (i + 1) f]
      exact ⟨fun h e' he => by
        rcases List.mem_cons.mp he with rfl | he
        · exact hl
        · exact h e' he, fun h e' he => h e' (List.mem_cons_of_mem _ he)⟩
    | some z =>
      simp only
      refine ⟨fun h => absurd h (lowl_keep r (i + 1) _ _ (lput_ne _ _ _)), fun h => ?_⟩
      have := h e List.mem_cons_self
      unfold sat at this
      rw [hl] at this
      cases this
end L3.KW

set_option linter.all false
set_option maxHeartbeats 1000000
namespace L3.KW
/-- a falling round of places, as the law looks at it -/
structure FallR (es : List Ed) (res : List Nat) : Prop where
  pos : 0 < res.length
  nd : res.Nodup
  lt : ∀ p ∈ res, p < es.length
  con : ∀ k p q, res[k]? = some p → res[if k = 0 then res.length - 1 else k - 1]? = some q → ∃ e e', es[p]? = some e ∧ es[q]? = some e' ∧ e'.2.1 = e.1
  sum : (res.map (wt es)).sum < 0
def rl (es : List Ed) (ah : Nat → Option Nat) (u m : Nat) : List Nat := ((List.range m).map fun t => pl ah (itr (prn es ah) t u)).reverse
theorem sum_rev : ∀ l : List Int, l.reverse.sum = l.sum
  | [] => rfl
  | x :: l => by
    rw [List.reverse_cons, List.sum_append, sum_rev l, List.sum_cons]
    simp only [List.sum_cons, List.sum_nil]
    omega
theorem sum_range (F : Nat → Int) : ∀ m, ((List.range m).map F).sum = (List.range m).foldl (fun a t => a + F t) 0
  | 0 => rfl
  | m + 1 => by
    rw [List.range_succ, List.map_append, List.sum_append, List.foldl_append, sum_range F m]
    simp
theorem fall_of {es : List Ed} {ah : Nat → Option Nat} {u m : Nat} (c : Cyc es ah u m) (hw : wsum es ah u m < 0) : FallR es (rl es ah u m) := by
  have hl : (rl es ah u m).length = m := by unfold rl; rw [List.length_reverse, List.length_map, List.length_range]
  have gt : ∀ k, k < m → (rl es ah u m)[k]? = some (pl ah (itr (prn es ah) (m - 1 - k) u)) := fun k hk => by
    unfold rl
    rw [List.getElem?_reverse (by rw [List.length_map, List.length_range]; exact hk), List.length_map, List.length_range, List.getElem?_map, List.getElem?_range (by omega)]
    rfl
  have inj : ∀ s t, s < t → t < m → pl ah (itr (prn es ah) s u) ≠ pl ah (itr (prn es ah) t u) := fun s t hst ht e => by
    obtain ⟨i, h1, h2, h3⟩ := c.wt (t := s) (by omega)
    obtain ⟨j, k1, k2, k3⟩ := c.wt (t := t) ht
    rw [h2, k2] at e
    subst e
    rw [h3] at k3
    have ee := Option.some.inj k3
    simp only [Prod.mk.injEq] at ee
    have hv := ee.2.1
    have e1 : itr (prn es ah) (s + (m - t)) u = u := by
      rw [itr_add, hv, ← itr_add, show t + (m - t) = m by omega]
      exact c.back
    exact c.new (s + (m - t)) (by omega) (by omega) e1
  refine ⟨by rw [hl]; exact c.pos, ?_, fun p hp => ?_, fun k p q hp hq => ?_, ?_⟩
  · unfold rl
    refine List.pairwise_reverse.mpr (List.pairwise_map.mpr ?_)
    exact List.Pairwise.imp_of_mem (R := fun a b => a < b) (fun {a b} ha hb hab => (inj a b hab (List.mem_range.mp hb)).symm) List.pairwise_lt_range
  · unfold rl at hp
    obtain ⟨t, ht, rfl⟩ := List.mem_map.mp (List.mem_reverse.mp hp)
    obtain ⟨i, h1, h2, h3⟩ := c.wt (t := t) (List.mem_range.mp ht)
    rw [h2]
    exact (List.getElem?_eq_some_iff.mp h3).1
  · have hk : k < m := by rw [← hl]; exact (List.getElem?_eq_some_iff.mp hp).1
    have hm := c.pos
    rw [gt k hk] at hp
    cases hp
    obtain ⟨i, h1, h2, h3⟩ := c.wt (t := m - 1 - k) (by omega)
    by_cases z : k = 0
    · subst z
      rw [if_pos rfl, hl, gt (m - 1) (by omega)] at hq
      cases hq
      obtain ⟨j, k1, k2, k3⟩ := c.wt (t := m - 1 - (m - 1)) (by omega)
      rw [h2, k2]
      refine ⟨_, _, by rw [← h2] at h3 ⊢; exact h3, by rw [← k2] at k3 ⊢; exact k3, ?_⟩
      show itr (prn es ah) (m - 1 - (m - 1)) u = itr (prn es ah) (m - 1 - 0 + 1) u
      rw [show m - 1 - (m - 1) = 0 by omega, show m - 1 - 0 + 1 = m by omega, c.back]
      rfl
    · rw [if_neg z, gt (k - 1) (by omega)] at hq
      cases hq
      obtain ⟨j, k1, k2, k3⟩ := c.wt (t := m - 1 - (k - 1)) (by omega)
      rw [h2, k2]
      refine ⟨_, _, by rw [← h2] at h3 ⊢; exact h3, by rw [← k2] at k3 ⊢; exact k3, ?_⟩
      show itr (prn es ah) (m - 1 - (k - 1)) u = itr (prn es ah) (m - 1 - k + 1) u
      rw [show m - 1 - (k - 1) = m - 1 - k + 1 by omega]
  · unfold rl
    rw [List.map_reverse, sum_rev, List.map_map]
    show ((List.range m).map fun t => wt es (pl ah (itr (prn es ah) t u))).sum < 0
    rw [sum_range]
    exact hw
/-- a round put in -/
theorem round_pot {r : List Ed} {p : Nat → Int} (hz : (r.map fun e => p e.1 - p e.2.1).sum = 0) (hs : (r.map fun e => e.2.2).sum < 0) {es : List Ed} (h : ∀ e ∈ r, e ∈ es) : ¬ Pot es p := fun hp => by
  have a : ∀ r : List Ed, (∀ e ∈ r, e ∈ es) → 0 ≤ (r.map fun e => p e.1 - p e.2.1).sum + (r.map fun e => e.2.2).sum := fun r => by
    induction r with
    | nil => intro _; simp
    | cons e r ih =>
      intro h
      have h1 := ih fun e' he => h e' (List.mem_cons_of_mem _ he)
      have h2 := hp e (h e List.mem_cons_self)
      simp only [List.map_cons, List.sum_cons]
      omega
  have := a r h
  omega
end L3.KW

set_option Elab.async false
set_option maxRecDepth 100000
set_option linter.all false
set_option maxHeartbeats 4000000
namespace L3
open PySem L2 L3.KW
theorem sizeLine_v : sizeLine = 16777216 := sizeLine_val
local macro_rules | `(tactic| walk_at "cond") => `(tactic| first | omega | (simp only [List.length_append, List.length_cons, List.length_nil, List.length_take, List.length_drop, List.length_map, List.length_reverse]; omega) | rfl | decide)
local macro_rules | `(tactic| walk_at "side") => `(tactic| first | assumption | omega | (simp only [List.length_append, List.length_cons, List.length_nil, List.length_take, List.length_drop, List.length_map, List.length_reverse, sizeLine_val]; omega) | decide)
local macro_rules | `(tactic| walk_at "st") => `(tactic| first
  | with_reducible refine st_ix0 ?_ | with_reducible refine st_ix1 ?_ | with_reducible refine st_ix2 ?_ | with_reducible refine st_ix3 ?_ | with_reducible refine st_ix4 ?_
  | with_reducible refine st_add_pp (by walk_at "side") ?_ | with_reducible refine st_add_p1 (by walk_at "side") ?_ | with_reducible refine st_add_1p (by walk_at "side") ?_
  | with_reducible refine st_add ?_ | with_reducible refine st_sub ?_ | with_reducible refine st_iadd ?_ | with_reducible refine st_neg ?_
  | with_reducible refine st_len_p ?_ | with_reducible refine st_len_lp ?_ | with_reducible refine st_len_rp ?_ | with_reducible refine st_len_t ?_ | with_reducible refine st_len_l ?_
  | with_reducible refine st_add_t (by walk_at "side") ?_ | with_reducible refine st_add_l (by walk_at "side") ?_ | with_reducible refine st_add_s (by walk_at "side") ?_
  | with_reducible refine st_tru_bl ?_ | with_reducible refine st_tru_int ?_ | with_reducible refine st_tru_tup ?_ | with_reducible refine st_tru_lst ?_ | with_reducible refine st_tru_non ?_
  | with_reducible refine st_at (by assumption) ?_ | with_reducible refine st_atl (by assumption) ?_
  | with_reducible refine st_iteT ?_ | with_reducible refine st_iteF ?_ | with_reducible refine st_not ?_
  | with_reducible refine st_lt ?_ | with_reducible refine st_le ?_ | with_reducible refine st_gt ?_ | with_reducible refine st_ge ?_ | with_reducible refine st_eqi ?_ | with_reducible refine st_nei ?_ | with_reducible refine st_eqs ?_ | with_reducible refine st_nes ?_ | with_reducible refine st_eqb ?_
  | with_reducible refine st_isn_non ?_ | with_reducible refine st_isn_int ?_ | with_reducible refine st_isn_tup ?_ | with_reducible refine st_isn_str ?_ | with_reducible refine st_isn_bl ?_
  | with_reducible refine st_isnt_non ?_ | with_reducible refine st_isnt_int ?_ | with_reducible refine st_isnt_tup ?_ | with_reducible refine st_isnt_str ?_
  | with_reducible refine st_int ?_ | with_reducible refine st_intb ?_ | with_reducible refine st_abs ?_ | with_reducible refine st_min2 ?_ | with_reducible refine st_max2 ?_
  | with_reducible refine st_tup_l ?_ | with_reducible refine st_tup_t ?_ | with_reducible refine st_lst_t ?_ | with_reducible refine st_lst_l ?_
  | with_reducible refine st_sl_from ?_ | with_reducible refine st_sl_to ?_
  | with_reducible refine st_lx0 ?_ | with_reducible refine st_lx1 ?_ | with_reducible refine st_lx2 ?_ | with_reducible refine st_lx3 ?_
  | with_reducible refine st_mod (by walk_at "side") ?_ | with_reducible refine st_div (by walk_at "side") ?_ | with_reducible refine st_mul (by walk_at "side") ?_ | with_reducible refine st_mul' (by walk_at "side") ?_
  | with_reducible refine st_isi rfl ?_
  | (with_reducible refine And.intro (Nat.le_of_ble_eq_true rfl) ?_)
  | (refine And.intro (rfl : (_ : Nat) = _) ?_)
  | with_reducible refine st_dT (by walk_at "cond") ?_ | with_reducible refine st_dF (by walk_at "cond") ?_)
local macro_rules | `(tactic| walk_at "hd") => `(tactic| (with_reducible conv => whnf))
local macro_rules | `(tactic| walk_at "run") => `(tactic| ((with_reducible conv => whnf); repeat (walk_at "st"; (with_reducible conv => whnf))))
/-! ### sums and edges as data -/
abbrev edD (e : Ed) : D := .tup [iD e.1, iD e.2.1, .int e.2.2]
abbrev esD (es : List Ed) : D := .tup (es.map edD)
def oI : Option Int → D
  | none => .non
  | some x => .int x
def lD (n : Nat) (f : Sm) : List D := (List.range n).map fun v => oI (f v)
theorem lD_len (n : Nat) (f : Sm) : (lD n f).length = n := by simp [lD]
theorem lD_get {n v : Nat} {f : Sm} (h : v < n) : (lD n f)[v]? = some (oI (f v)) := by
  unfold lD
  rw [List.getElem?_map, List.getElem?_range h]
  rfl
theorem lD_set {n v : Nat} {f : Sm} {o : Option Int} : (lD n f).set v (oI o) = lD n (fset f v o) := by
  apply List.ext_getElem?
  intro u
  rw [List.getElem?_set, lD_len]
  by_cases e : v = u
  · subst e
    rw [if_pos rfl]
    by_cases h : v < n
    · rw [if_pos h, lD_get h, fset_same]
    · rw [if_neg h, List.getElem?_eq_none (by rw [lD_len]; omega)]
  · rw [if_neg e]
    by_cases h : u < n
    · rw [lD_get h, lD_get h, fset_ne (Ne.symm e)]
    · rw [List.getElem?_eq_none (by rw [lD_len]; omega), List.getElem?_eq_none (by rw [lD_len]; omega)]
abbrev kvD (q : Nat × Nat) : Key × D := (Sum.inl (q.1 : Int), iD q.2)
abbrev kvsD (l : List (Nat × Nat)) : List (Key × D) := l.map kvD
theorem inl_nat {a b : Nat} : ((Sum.inl (a : Int) : Key) = Sum.inl (b : Int)) ↔ a = b := by
  rw [Sum.inl.injEq]
  omega
theorem val_kvs (v : Nat) : ∀ l : List (Nat × Nat), valD (kvsD l) (Sum.inl (v : Int)) = (lk l v).map iD
  | [] => rfl
  | (a, i) :: l => by
    have ih := val_kvs v l
    unfold valD lk at ih ⊢
    rw [show kvsD ((a, i) :: l) = (Sum.inl (a : Int), iD i) :: kvsD l from rfl, List.find?_cons, List.find?_cons]
    by_cases h : a = v
    · subst h
      simp
    · rw [decide_eq_false fun z => h (inl_nat.mp z), show (a == v) = false from beq_eq_false_iff_ne.mpr h]
      exact ih
theorem any_kvs (b : Nat) (l : List (Nat × Nat)) : ((kvsD l).any fun kv => decide (kv.1 = (Sum.inl (b : Int) : Key))) = l.any fun q => q.1 == b := by
  induction l with
  | nil => rfl
  | cons q l ih =>
    rw [show kvsD (q :: l) = kvD q :: kvsD l from rfl, List.any_cons, List.any_cons, ih]
    by_cases h : q.1 = b
    · rw [decide_eq_true (show (kvD q).1 = Sum.inl (b : Int) from inl_nat.mpr h), show (q.1 == b) = true from by simpa using h]
    · rw [decide_eq_false fun z => h (inl_nat.mp z), show (q.1 == b) = false from beq_eq_false_iff_ne.mpr h]
theorem put_kvs (b i : Nat) (l : List (Nat × Nat)) : putD (kvsD l) (Sum.inl (b : Int)) (iD i) = kvsD (lput l b i) := by
  unfold putD lput
  rw [any_kvs]
  by_cases h : (l.any fun q => q.1 == b) = true
  · rw [if_pos h, if_pos h, List.map_map, show kvsD (l.map fun q => if q.1 = b then (b, i) else q) = (l.map fun q => if q.1 = b then (b, i) else q).map kvD from rfl, List.map_map]
    apply List.map_congr_left
    intro q _
    show (if (Sum.inl (q.1 : Int) : Key) = Sum.inl (b : Int) then ((Sum.inl (q.1 : Int) : Key), iD i) else kvD q) = kvD (if q.1 = b then (b, i) else q)
    by_cases e : q.1 = b
    · rw [if_pos (inl_nat.mpr e), if_pos e, ← e]
    · rw [if_neg fun z => e (inl_nat.mp z), if_neg e]
  · rw [if_neg h, if_neg h, show kvsD (l ++ [(b, i)]) = (l ++ [(b, i)]).map kvD from rfl, List.map_append]
    rfl
theorem lput_len (l : List (Nat × Nat)) (b i : Nat) : (lput l b i).length ≤ l.length + 1 := by
  unfold lput
  split <;> simp
theorem dput_k {S : Sto} {P : Addr} {l : List (Nat × Nat)} {b i : Nat} (e : S P = some (.dK (kvsD l))) (h : l.length < sizeLine) : dPutD S (iD i) (.ref P) (iD b) = some (sup S P (.dK (kvsD (lput l b i)))) := by
  simp only [dPutD, e, keyOf]
  rw [if_pos (by rw [List.length_map]; exact h), put_kvs]
theorem dget_k {S : Sto} {P : Addr} {l : List (Nat × Nat)} {b i : Nat} (e : S P = some (.dK (kvsD l))) (h : lk l b = some i) : dGetD S (.ref P) (iD b) = some (some (iD i)) := by
  simp only [dGetD, e, keyOf, Option.map_some]
  rw [val_kvs, h]
  rfl
theorem sup_over {S : Sto} {b p : Addr} {so so' r : SO} (h : p ≠ b) : sup (sup (sup S b so) p r) b so' = sup (sup S b so') p r := by
  funext a
  unfold sup
  by_cases e : a = b
  · subst e
    rw [if_pos rfl, if_neg (Ne.symm h), if_pos rfl]
  · rw [if_neg e]
    by_cases e2 : a = p
    · rw [if_pos e2, if_pos e2]
    · rw [if_neg e2, if_neg e2, if_neg e, if_neg e]
theorem sup_self {S : Sto} {b : Addr} {so : SO} (h : S b = some so) : sup S b so = S := by
  funext a
  unfold sup
  split
  · rename_i e; rw [e, h]
  · rfl
theorem enumD_at {ds : List D} : ∀ {j k : Nat} {d : D}, (enumD k ds)[j]? = some d → ∃ x, ds[j]? = some x ∧ d = .tup [iD (k + j), x] := by
  induction ds with
  | nil => intro j k d e; simp [enumD] at e
  | cons x r ih =>
    intro j k d e
    cases j with
    | zero => simp [enumD] at e; subst e; exact ⟨x, rfl, rfl⟩
    | succ j =>
      obtain ⟨y, h1, h2⟩ := ih (by simpa [enumD] using e)
      exact ⟨y, by simpa using h1, by rw [h2, show k + 1 + j = k + (j + 1) by omega]⟩
theorem st_setr {A : Addr} {d : D} {ds : List D} {b : Nat} {S : Sto} {Q : Sto → Prop} (e : S A = some (.lst ds)) (h : b < ds.length) (q : Q (sup S A (.lst (ds.set b d)))) : vSet (.ref A) (.int (b : Int)) d S Q := by
  have i : ixN ds.length (b : Int) = some b := by
    unfold ixN
    rw [if_pos (by omega), if_pos (by omega)]
    simp
  simp only [vSet, e, i]
  exact q
/-! ### settle -/
def sp_settle (x y : D) (S : Sto) (Q : DK) : Prop := ∃ A es n f, x = .ref A ∧ y = esD es ∧ Below n es ∧ es.length ≤ 100000 ∧ S A = some (.lst (lD n f)) ∧ ∀ p, S p = none → Q (.ref p) (sup (sup S A (.lst (lD n (pass es f)))) p (.dK (kvsD (lowl 0 es f []))))
-- settle : 0=sums 1=edges 2=lowered 3=place 4=edge 5=one 6=other 7=weight
def rd_settle : DTS :=
    (dSeq (dAsg dNewK (dTg (.nm 2)))
    (dSeq (dFor (iEnumD (dVar 1)) (dTg (.tp [3, 4])) (dSeq (dAsg (dVar 4) (dTg (.tp [5, 6, 7])))
    (dIf (dAnd (dTest (dOp vIsNot (dOp vIx (dVar 0) (dVar 5)) (dC .non))) (dOr (dTest (dOp vIs (dOp vIx (dVar 0) (dVar 6)) (dC .non))) (dTest (dOp vLt (dOp vAdd (dOp vIx (dVar 0) (dVar 5)) (dVar 7)) (dOp vIx (dVar 0) (dVar 6)))))) (dSeq (dAsg (dOp vAdd (dOp vIx (dVar 0) (dVar 5)) (dVar 7)) (dgSub (dVar 0) (dVar 6)))
    (dDPut (dVar 2) (dVar 6) (dVar 3))) dNext)))
    (dRet (dVar 2))))
theorem rd_settle_ok : ∀ ds S P, (a2 sp_settle) ds S P → rd_settle (DEnds.of P) (dstart ["sums", "edges", "lowered", "place", "edge", "one", "other", "weight"] ds) S := by
  intro ds S P hsp
  rcases ds with _ | ⟨x, _ | ⟨y, _ | ⟨z, ds⟩⟩⟩ <;> first | exact (hsp : False).elim | skip
  obtain ⟨A, es, n, f, rfl, rfl, bl, hl, hA, q⟩ := (hsp : sp_settle x y S P)
  unfold rd_settle
  walk_at "run"
  intro p hp
  have hpA : p ≠ A := fun z => by subst z; rw [hp] at hA; cases hA
  walk_at "run"
  refine forL_inv (fun i δ S' => ∃ (f' : Sm) (l : List (Nat × Nat)) (x3 x4 x5 x6 x7 : Option D), S' = sup (sup S A (.lst (lD n f'))) p (.dK (kvsD l)) ∧ pass (es.drop i) f' = pass es f ∧ lowl i (es.drop i) f' l = lowl 0 es f [] ∧ l.length ≤ i ∧
    δ = [some (.ref A), some (esD es), some (.ref p), x3, x4, x5, x6, x7]) (fun _ _ _ _ => True.intro) _ 0 _ _ ⟨f, [], none, none, none, none, none, by rw [sup_self hA]; rfl, rfl, rfl, Nat.le_refl _, rfl⟩ ?_ ?_
  · rintro j d _ _ hj ⟨f', l, x3, x4, x5, x6, x7, rfl, hp1, hp2, hll, rfl⟩ D2 hrt _ hnx _
    obtain ⟨x, e0, rfl⟩ := enumD_at hj
    rw [List.getElem?_map] at e0
    obtain ⟨e, e1, rfl⟩ := Option.map_eq_some_iff.mp e0
    obtain ⟨ha, hb⟩ := bl e (List.mem_of_getElem? e1)
    have hjl : j < es.length := (List.getElem?_eq_some_iff.mp e1).1
    have ed : es.drop j = e :: es.drop (j + 1) := by
      rw [List.drop_eq_getElem_cons hjl]
      rw [List.getElem?_eq_getElem hjl] at e1
      rw [Option.some.inj e1]
    rw [Nat.zero_add] at hp1 hp2 hll hnx ⊢
    rw [ed] at hp1 hp2
    obtain ⟨a, b, w⟩ := e
    simp only at ha hb
    have eA : ∀ X Y, (sup (sup S A X) p Y) A = some X := fun X Y => by rw [sup_ne (Ne.symm hpA), sup_same]
    walk_at "run"
    refine st_atr (eA _ _) (lD_get ha) ?_
    have skip : lowv f' (a, b, w) = none → ∀ y3 y4 y5 y6 y7, D2.nx [some (.ref A), some (esD es), some (.ref p), y3, y4, y5, y6, y7] (sup (sup S A (.lst (lD n f'))) p (.dK (kvsD l))) := fun h y3 y4 y5 y6 y7 => by
      refine hnx _ _ ⟨f', l, _, _, _, _, _, rfl, ?_, ?_, by omega, rfl⟩
      · rw [← hp1]; show _ = pass (es.drop (j + 1)) (stp f' (a, b, w)); rw [stp_sat h]
      · rw [← hp2]; show _ = lowl (j + 1) (es.drop (j + 1)) (stp f' (a, b, w)) (match lowv f' (a, b, w) with | some _ => lput l b j | none => l); rw [stp_sat h, h]
    have put : ∀ z, lowv f' (a, b, w) = some z → ∀ y3 y4 y5 y6 y7, D2.nx [some (.ref A), some (esD es), some (.ref p), y3, y4, y5, y6, y7] (sup (sup S A (.lst (lD n (fset f' b (some z))))) p (.dK (kvsD (lput l b j)))) := fun z h y3 y4 y5 y6 y7 => by
      have hs : stp f' (a, b, w) = fset f' b (some z) := by unfold stp; rw [h]
      refine hnx _ _ ⟨_, _, _, _, _, _, _, rfl, ?_, ?_, by have := lput_len l b j; omega, rfl⟩
      · rw [← hp1, ← hs]; rfl
      · rw [← hp2, ← hs]; show _ = lowl (j + 1) (es.drop (j + 1)) (stp f' (a, b, w)) (match lowv f' (a, b, w) with | some _ => lput l b j | none => l); rw [h]
    cases hx : f' a with
    | none =>
      have hl0 : lowv f' (a, b, w) = none := by unfold lowv; simp only [hx]
      simp only [oI]
      walk_at "run"
      exact skip hl0 _ _ _ _ _
    | some x =>
      simp only [oI]
      walk_at "run"
      refine st_atr (eA _ _) (lD_get hb) ?_
      -- the sum is put in
      cases hy : f' b with
      | none =>
        have hl1 : lowv f' (a, b, w) = some (x + w) := by unfold lowv; simp only [hx, hy]
        simp only [oI]
        walk_at "run"
        rw [if_pos trivial]
        walk_at "run"
        refine st_atr (eA _ _) (lD_get ha) ?_
        rw [hx]
        simp only [oI]
        walk_at "run"
        refine st_setr (eA _ _) (by rw [lD_len]; exact hb) ?_
        rw [sup_over hpA, show (D.int (x + w)) = oI (some (x + w)) from rfl, lD_set]
        walk_at "run"
        refine ⟨_, dput_k sup_same (by rw [sizeLine_v]; omega), ?_⟩
        rw [sup_sup]
        exact put _ hl1 _ _ _ _ _
      | some y =>
        simp only [oI]
        walk_at "run"
        refine st_atr (eA _ _) (lD_get ha) ?_
        rw [hx]
        simp only [oI]
        walk_at "run"
        refine st_atr (eA _ _) (lD_get hb) ?_
        rw [hy]
        simp only [oI]
        walk_at "run"
        by_cases hlt : x + w < y
        · have hl1 : lowv f' (a, b, w) = some (x + w) := by unfold lowv; simp only [hx, hy]; exact if_pos hlt
          rw [decide_eq_true hlt]
          walk_at "run"
          refine st_atr (eA _ _) (lD_get ha) ?_
          rw [hx]
          simp only [oI]
          walk_at "run"
          refine st_setr (eA _ _) (by rw [lD_len]; exact hb) ?_
          rw [sup_over hpA, show (D.int (x + w)) = oI (some (x + w)) from rfl, lD_set]
          walk_at "run"
          refine ⟨_, dput_k sup_same (by rw [sizeLine_v]; omega), ?_⟩
          rw [sup_sup]
          exact put _ hl1 _ _ _ _ _
        · have hl0 : lowv f' (a, b, w) = none := by unfold lowv; simp only [hx, hy]; exact if_neg hlt
          rw [decide_eq_false hlt]
          walk_at "run"
          exact skip hl0 _ _ _ _ _
  · rintro _ _ ⟨f', l, x3, x4, x5, x6, x7, rfl, hp1, hp2, hll, rfl⟩
    rw [enumD_length, List.length_map, Nat.zero_add, List.drop_length] at hp1 hp2
    walk_at "run"
    have e1 : f' = pass es f := hp1
    have e2 : l = lowl 0 es f [] := hp2
    rw [e1, e2]
    exact .of (q p hp)
theorem use_settle {A : Addr} {es : List Ed} {n : Nat} {f : Sm} {S : Sto} {Q : DK} (bl : Below n es) (hl : es.length ≤ 100000) (hA : S A = some (.lst (lD n f))) (q : ∀ p, S p = none → Q (.ref p) (sup (sup S A (.lst (lD n (pass es f)))) p (.dK (kvsD (lowl 0 es f []))))) : sp_settle (.ref A) (esD es) S Q := ⟨A, es, n, f, rfl, rfl, bl, hl, hA, q⟩
end L3

set_option Elab.async false
set_option maxRecDepth 100000
set_option linter.all false
set_option maxHeartbeats 4000000
namespace L3
open PySem L2 L3.KW
local macro_rules | `(tactic| walk_at "cond") => `(tactic| first | omega | (simp only [List.length_append, List.length_cons, List.length_nil, List.length_take, List.length_drop, List.length_map, List.length_reverse]; omega) | rfl | decide)
local macro_rules | `(tactic| walk_at "side") => `(tactic| first | assumption | omega | (simp only [List.length_append, List.length_cons, List.length_nil, List.length_take, List.length_drop, List.length_map, List.length_reverse, sizeLine_val]; omega) | decide)
local macro_rules | `(tactic| walk_at "st") => `(tactic| first
  | with_reducible refine st_ix0 ?_ | with_reducible refine st_ix1 ?_ | with_reducible refine st_ix2 ?_ | with_reducible refine st_ix3 ?_ | with_reducible refine st_ix4 ?_
  | with_reducible refine st_add_pp (by walk_at "side") ?_ | with_reducible refine st_add_p1 (by walk_at "side") ?_ | with_reducible refine st_add_1p (by walk_at "side") ?_
  | with_reducible refine st_add ?_ | with_reducible refine st_sub ?_ | with_reducible refine st_iadd ?_ | with_reducible refine st_neg ?_
  | with_reducible refine st_len_p ?_ | with_reducible refine st_len_lp ?_ | with_reducible refine st_len_rp ?_ | with_reducible refine st_len_t ?_ | with_reducible refine st_len_l ?_
  | with_reducible refine st_add_t (by walk_at "side") ?_ | with_reducible refine st_add_l (by walk_at "side") ?_ | with_reducible refine st_add_s (by walk_at "side") ?_
  | with_reducible refine st_tru_bl ?_ | with_reducible refine st_tru_int ?_ | with_reducible refine st_tru_tup ?_ | with_reducible refine st_tru_lst ?_ | with_reducible refine st_tru_non ?_
  | with_reducible refine st_at (by assumption) ?_ | with_reducible refine st_atl (by assumption) ?_
  | with_reducible refine st_iteT ?_ | with_reducible refine st_iteF ?_ | with_reducible refine st_not ?_
  | with_reducible refine st_lt ?_ | with_reducible refine st_le ?_ | with_reducible refine st_gt ?_ | with_reducible refine st_ge ?_ | with_reducible refine st_eqi ?_ | with_reducible refine st_nei ?_ | with_reducible refine st_eqs ?_ | with_reducible refine st_nes ?_ | with_reducible refine st_eqb ?_
  | with_reducible refine st_isn_non ?_ | with_reducible refine st_isn_int ?_ | with_reducible refine st_isn_tup ?_ | with_reducible refine st_isn_str ?_ | with_reducible refine st_isn_bl ?_
  | with_reducible refine st_isnt_non ?_ | with_reducible refine st_isnt_int ?_ | with_reducible refine st_isnt_tup ?_ | with_reducible refine st_isnt_str ?_
  | with_reducible refine st_int ?_ | with_reducible refine st_intb ?_ | with_reducible refine st_abs ?_ | with_reducible refine st_min2 ?_ | with_reducible refine st_max2 ?_
  | with_reducible refine st_tup_l ?_ | with_reducible refine st_tup_t ?_ | with_reducible refine st_lst_t ?_ | with_reducible refine st_lst_l ?_
  | with_reducible refine st_sl_from ?_ | with_reducible refine st_sl_to ?_
  | with_reducible refine st_lx0 ?_ | with_reducible refine st_lx1 ?_ | with_reducible refine st_lx2 ?_ | with_reducible refine st_lx3 ?_
  | with_reducible refine st_mod (by walk_at "side") ?_ | with_reducible refine st_div (by walk_at "side") ?_ | with_reducible refine st_mul (by walk_at "side") ?_ | with_reducible refine st_mul' (by walk_at "side") ?_
  | with_reducible refine st_isi rfl ?_
  | (with_reducible refine And.intro (Nat.le_of_ble_eq_true rfl) ?_)
  | (refine And.intro (rfl : (_ : Nat) = _) ?_)
  | with_reducible refine st_dT (by walk_at "cond") ?_ | with_reducible refine st_dF (by walk_at "cond") ?_)
local macro_rules | `(tactic| walk_at "hd") => `(tactic| (with_reducible conv => whnf))
local macro_rules | `(tactic| walk_at "run") => `(tactic| ((with_reducible conv => whnf); repeat (walk_at "st"; (with_reducible conv => whnf))))
/-! ### round_through -/
theorem sup_new {S : Sto} {p a : Addr} {o u : SO} (hp : S p = none) (h : S a = some o) : sup S p u a = some o := by
  rw [sup_ne fun z => by subst z; rw [hp] at h; cases h]
  exact h
def sp_round_through (x y z : D) (S : Sto) (Q : DK) : Prop := ∃ es A n v0 ah l, x = esD es ∧ y = .ref A ∧ z = iD v0 ∧ S A = some (.dK (kvsD l)) ∧ (∀ v, lk l v = ah v) ∧ Chn es ah n v0 ∧ n ≤ 100000 ∧ ∀ u m, Cyc es ah u m → Q (.tup ((rl es ah u m).map iD)) S
-- round_through : 0=edges 1=ahead 2=number 3=met 4=first 5=found
def rd_round_through : DTS :=
    (dSeq (dAsg (dLstM dNil) (dTg (.nm 3)))
    (dSeq (dWhile (dTest (dOp (vIn true) (dVar 2) (dVar 3))) (dSeq (dDrop (dLM vAppend (dVar 3) (dCons (dVar 2) dNil)))
    (dAsg (dOp vIx (dOp vIx (dVar 0) (dDGet (dVar 1) (dVar 2))) (dC (.int 0))) (dTg (.nm 2)))))
    (dSeq (dAsg (dVar 2) (dTg (.nm 4)))
    (dSeq (dAsg (dLstM (dCons (dDGet (dVar 1) (dVar 2)) dNil)) (dTg (.nm 5)))
    (dSeq (dAsg (dOp vIx (dOp vIx (dVar 0) (dDGet (dVar 1) (dVar 2))) (dC (.int 0))) (dTg (.nm 2)))
    (dSeq (dWhile (dTest (dOp vNe (dVar 2) (dVar 4))) (dSeq (dDrop (dLM vAppend (dVar 5) (dCons (dDGet (dVar 1) (dVar 2)) dNil)))
    (dAsg (dOp vIx (dOp vIx (dVar 0) (dDGet (dVar 1) (dVar 2))) (dC (.int 0))) (dTg (.nm 2)))))
    (dRet (dTupRev (dVar 5)))))))))
theorem rd_round_through_ok : ∀ ds S P, (a3 sp_round_through) ds S P → rd_round_through (DEnds.of P) (dstart ["edges", "ahead", "number", "met", "first", "found"] ds) S := by
  intro ds S P hsp
  rcases ds with _ | ⟨x, _ | ⟨y, _ | ⟨z, _ | ⟨w, ds⟩⟩⟩⟩ <;> first | exact (hsp : False).elim | skip
  obtain ⟨es, A, n, v0, ah, l, rfl, rfl, rfl, hA, hl, cn, hn, q⟩ := (hsp : sp_round_through x y z S P)
  unfold rd_round_through
  walk_at "run"
  intro p hp
  walk_at "run"
  refine ⟨n + 1, whileN_inv (fun k δ S' => ∃ (t : Nat), k + t = n ∧ (∀ i j, i < j → j < t → itr (prn es ah) i v0 ≠ itr (prn es ah) j v0) ∧ S' = sup S p (.lst (((List.range t).map fun i => itr (prn es ah) i v0).map iD)) ∧
    δ = [some (esD es), some (.ref A), some (iD (itr (prn es ah) t v0)), some (.ref p), none, none]) ?_ _ _ _ ⟨0, by omega, fun i j _ h => absurd h (Nat.not_lt_zero _), rfl, rfl⟩⟩
  rintro k _ _ ⟨t, hk, hd, rfl, rfl⟩ D2 hrt _ hnx _
  have eA : ∀ u, (sup S p u) A = some (.dK (kvsD l)) := fun u => sup_new hp hA
  obtain ⟨hvn, i0, w0, hi0, he0⟩ := cn t (by omega)
  generalize hv : itr (prn es ah) t v0 = v at hvn hi0 he0
  walk_at "run"
  refine st_notin_r sup_same ?_
  walk_at "run"
  by_cases m : v ∈ (List.range t).map fun i => itr (prn es ah) i v0
  · rw [decide_eq_false fun z => z m]
    walk_at "run"
    obtain ⟨i, hi, ei⟩ := List.mem_map.mp m
    have hit := List.mem_range.mp hi
    obtain ⟨M, hM, cy⟩ := chn_cyc cn (i := i) (d := t - i) (by omega) (by omega) (by rw [show i + (t - i) = t by omega, hv]; exact ei.symm)
    rw [ei] at cy
    refine ⟨_, dget_k (eA _) ((hl v).trans hi0), ?_⟩
    walk_at "run"
    intro p2 hp2
    have hp2S : S p2 = none := by
      cases e : S p2 with
      | none => rfl
      | some o => rw [sup_new hp e] at hp2; cases hp2
    have eA2 : ∀ u w, (sup (sup S p u) p2 w) A = some (.dK (kvsD l)) := fun u w => by
      rw [sup_ne fun z => by subst z; rw [hp2S] at hA; cases hA]
      exact eA u
    walk_at "run"
    refine ⟨_, dget_k (eA2 _ _) ((hl v).trans hi0), ?_⟩
    walk_at "run"
    have g : (es.map edD)[i0]? = some (edD (itr (prn es ah) (t + 1) v0, v, w0)) := by rw [List.getElem?_map, he0]; rfl
    refine st_at g ?_
    walk_at "run"
    have hpr : itr (prn es ah) (t + 1) v0 = itr (prn es ah) 1 v := by rw [itr_succ, hv]; rfl
    rw [hpr]
    obtain ⟨_, hpl0, _⟩ := cy.wt (t := 0) cy.pos
    have e0 : pl ah v = i0 := by unfold pl; rw [hi0]; rfl
    refine ⟨M + 1, whileN_inv (fun k δ S' => ∃ (s : Nat), k + s = M + 1 ∧ 1 ≤ s ∧ s ≤ M ∧ S' = sup (sup S p (.lst (((List.range t).map fun i => itr (prn es ah) i v0).map iD))) p2 (.lst (((List.range s).map fun i => pl ah (itr (prn es ah) i v)).map iD)) ∧
      δ = [some (esD es), some (.ref A), some (iD (itr (prn es ah) s v)), some (.ref p), some (iD v), some (.ref p2)]) ?_ _ _ _ ⟨1, rfl, Nat.le_refl _, cy.pos, by rw [show (List.range 1).map (fun i => pl ah (itr (prn es ah) i v)) = [pl ah v] from rfl, e0]; rfl, rfl⟩⟩
    rintro k2 _ _ ⟨s, hk2, hs1, hs2, rfl, rfl⟩ D3 hrt3 _ hnx3 _
    walk_at "run"
    by_cases zs : s = M
    · subst zs
      rw [cy.back, decide_eq_true rfl]
      walk_at "run"
      show match seqOf (sup (sup S p _) p2 _) (.ref p2) with | some ds => _ | none => False
      simp only [seqOf, sup_same]
      refine ⟨_, S, fun a o ha => ?_, .refl _, ?_⟩
      · rw [sup_ne fun z => by subst z; rw [hp2S] at ha; cases ha]
        exact sup_new hp ha
      · have := q v s cy
        unfold rl at this
        rw [List.map_reverse] at this
        exact this
    · have hsM : s < M := by omega
      have hne : (itr (prn es ah) s v : Int) ≠ (v : Int) := fun z => cy.new s hs1 hsM (by omega)
      rw [decide_eq_false hne]
      obtain ⟨j, w1, w2, w3⟩ := cy.wt hsM
      walk_at "run"
      rw [isSeq_ref]
      refine ⟨⟨_, sup_same⟩, ?_⟩
      walk_at "run"
      refine ⟨_, dget_k (eA2 _ _) ((hl _).trans w1), ?_⟩
      walk_at "run"
      refine st_append sup_same (by rw [List.length_map, List.length_map, List.length_range, sizeLine_v]; omega) ?_
      walk_at "run"
      rw [sup_sup]
      refine ⟨_, dget_k (eA2 _ _) ((hl _).trans w1), ?_⟩
      walk_at "run"
      have g3 : (es.map edD)[j]? = some (edD (itr (prn es ah) (s + 1) v, itr (prn es ah) s v, wt es (pl ah (itr (prn es ah) s v)))) := by rw [List.getElem?_map, w3]; rfl
      refine st_at g3 ?_
      walk_at "run"
      obtain ⟨k2', rfl⟩ : ∃ k2', k2 = k2' + 1 := ⟨k2 - 1, by omega⟩
      refine hnx3 k2' _ _ rfl ⟨s + 1, by omega, by omega, by omega, ?_, rfl⟩
      rw [List.range_succ, List.map_append, List.map_append, ← w2]
      rfl
  · rw [decide_eq_true m]
    walk_at "run"
    rw [isSeq_ref]
    refine ⟨⟨_, sup_same⟩, ?_⟩
    walk_at "run"
    refine st_append sup_same (by rw [List.length_map, List.length_map, List.length_range, sizeLine_v]; omega) ?_
    walk_at "run"
    rw [sup_sup]
    refine ⟨_, dget_k (eA _) ((hl v).trans hi0), ?_⟩
    walk_at "run"
    have g : (es.map edD)[i0]? = some (edD (itr (prn es ah) (t + 1) v0, v, w0)) := by rw [List.getElem?_map, he0]; rfl
    refine st_at g ?_
    walk_at "run"
    have hd2 : ∀ i j, i < j → j < t + 1 → itr (prn es ah) i v0 ≠ itr (prn es ah) j v0 := fun i j hij hj e => by
      by_cases z : j = t
      · subst z
        exact m (List.mem_map.mpr ⟨i, List.mem_range.mpr hij, by rw [e, hv]⟩)
      · exact hd i j hij (by omega) e
    have ht1 : t + 1 ≤ n := by
      have nd : ((List.range (t + 1)).map fun i => itr (prn es ah) i v0).Nodup := by
        refine List.pairwise_map.mpr ?_
        exact List.Pairwise.imp_of_mem (R := fun a b => a < b) (fun {a b} ha hb hab => hd2 a b hab (List.mem_range.mp hb)) List.pairwise_lt_range
      have := KW.nodup_le n nd fun x hx => by
        obtain ⟨i, hi, rfl⟩ := List.mem_map.mp hx
        exact (cn i (by have := List.mem_range.mp hi; omega)).1
      rw [List.length_map, List.length_range] at this
      exact this
    obtain ⟨k', rfl⟩ : ∃ k', k = k' + 1 := ⟨k - 1, by omega⟩
    refine hnx k' _ _ rfl ⟨t + 1, by omega, hd2, ?_, rfl⟩
    rw [List.range_succ, List.map_append, List.map_append, ← hv]
    rfl
theorem use_round_through {es : List Ed} {A : Addr} {n v0 : Nat} {ah : Nat → Option Nat} {l : List (Nat × Nat)} {S : Sto} {Q : DK} (hA : S A = some (.dK (kvsD l))) (hl : ∀ v, lk l v = ah v) (cn : Chn es ah n v0) (hn : n ≤ 100000) (q : ∀ u m, Cyc es ah u m → Q (.tup ((rl es ah u m).map iD)) S) : sp_round_through (esD es) (.ref A) (iD v0) S Q := ⟨es, A, n, v0, ah, l, rfl, rfl, rfl, hA, hl, cn, hn, q⟩
end L3

set_option Elab.async false
set_option maxRecDepth 100000
set_option linter.all false
set_option maxHeartbeats 4000000
namespace L3
open PySem L2 L3.KW
local macro_rules | `(tactic| walk_at "cond") => `(tactic| first | omega | (simp only [List.length_append, List.length_cons, List.length_nil, List.length_take, List.length_drop, List.length_map, List.length_reverse]; omega) | rfl | decide)
local macro_rules | `(tactic| walk_at "side") => `(tactic| first | assumption | omega | (simp only [List.length_append, List.length_cons, List.length_nil, List.length_take, List.length_drop, List.length_map, List.length_reverse, sizeLine_val]; omega) | decide)
local macro_rules | `(tactic| walk_at "st") => `(tactic| first
  | with_reducible refine st_ix0 ?_ | with_reducible refine st_ix1 ?_ | with_reducible refine st_ix2 ?_ | with_reducible refine st_ix3 ?_ | with_reducible refine st_ix4 ?_
  | with_reducible refine st_add_pp (by walk_at "side") ?_ | with_reducible refine st_add_p1 (by walk_at "side") ?_ | with_reducible refine st_add_1p (by walk_at "side") ?_
  | with_reducible refine st_add ?_ | with_reducible refine st_sub ?_ | with_reducible refine st_iadd ?_ | with_reducible refine st_neg ?_
  | with_reducible refine st_len_p ?_ | with_reducible refine st_len_lp ?_ | with_reducible refine st_len_rp ?_ | with_reducible refine st_len_t ?_ | with_reducible refine st_len_l ?_
  | with_reducible refine st_add_t (by walk_at "side") ?_ | with_reducible refine st_add_l (by walk_at "side") ?_ | with_reducible refine st_add_s (by walk_at "side") ?_
  | with_reducible refine st_tru_bl ?_ | with_reducible refine st_tru_int ?_ | with_reducible refine st_tru_tup ?_ | with_reducible refine st_tru_lst ?_ | with_reducible refine st_tru_non ?_
  | with_reducible refine st_at (by assumption) ?_ | with_reducible refine st_atl (by assumption) ?_
  | with_reducible refine st_iteT ?_ | with_reducible refine st_iteF ?_ | with_reducible refine st_not ?_
  | with_reducible refine st_lt ?_ | with_reducible refine st_le ?_ | with_reducible refine st_gt ?_ | with_reducible refine st_ge ?_ | with_reducible refine st_eqi ?_ | with_reducible refine st_nei ?_ | with_reducible refine st_eqs ?_ | with_reducible refine st_nes ?_ | with_reducible refine st_eqb ?_
  | with_reducible refine st_isn_non ?_ | with_reducible refine st_isn_int ?_ | with_reducible refine st_isn_tup ?_ | with_reducible refine st_isn_str ?_ | with_reducible refine st_isn_bl ?_
  | with_reducible refine st_isnt_non ?_ | with_reducible refine st_isnt_int ?_ | with_reducible refine st_isnt_tup ?_ | with_reducible refine st_isnt_str ?_
  | with_reducible refine st_int ?_ | with_reducible refine st_intb ?_ | with_reducible refine st_abs ?_ | with_reducible refine st_min2 ?_ | with_reducible refine st_max2 ?_
  | with_reducible refine st_tup_l ?_ | with_reducible refine st_tup_t ?_ | with_reducible refine st_lst_t ?_ | with_reducible refine st_lst_l ?_
  | with_reducible refine st_sl_from ?_ | with_reducible refine st_sl_to ?_
  | with_reducible refine st_lx0 ?_ | with_reducible refine st_lx1 ?_ | with_reducible refine st_lx2 ?_ | with_reducible refine st_lx3 ?_
  | with_reducible refine st_mod (by walk_at "side") ?_ | with_reducible refine st_div (by walk_at "side") ?_ | with_reducible refine st_mul (by walk_at "side") ?_ | with_reducible refine st_mul' (by walk_at "side") ?_
  | with_reducible refine st_isi rfl ?_
  | (with_reducible refine And.intro (Nat.le_of_ble_eq_true rfl) ?_)
  | (refine And.intro (rfl : (_ : Nat) = _) ?_)
  | with_reducible refine st_dT (by walk_at "cond") ?_ | with_reducible refine st_dF (by walk_at "cond") ?_)
local macro_rules | `(tactic| walk_at "hd") => `(tactic| (with_reducible conv => whnf))
local macro_rules | `(tactic| walk_at "run") => `(tactic| ((with_reducible conv => whnf); repeat (walk_at "st"; (with_reducible conv => whnf))))
/-! ### falling_round -/
def zF : Sm := fun _ => some 0
theorem rng_at {n j : Nat} {d : D} (h : (rngD 0 n)[j]? = some d) : j < n ∧ d = iD j := by
  unfold rngD at h
  rw [List.getElem?_map] at h
  obtain ⟨i, e, rfl⟩ := Option.map_eq_some_iff.mp h
  obtain ⟨hl, e⟩ := List.getElem?_eq_some_iff.mp e
  rw [List.getElem_range] at e
  subst e
  rw [List.length_range] at hl
  exact ⟨hl, by rw [Int.zero_add]⟩
theorem rng_len (n : Nat) : (rngD 0 n).length = n := by simp [rngD]
theorem lowl_len : ∀ (r : List Ed) (i : Nat) (f : Sm) (l : List (Nat × Nat)), (lowl i r f l).length ≤ l.length + r.length
  | [], _, _, l => Nat.le_refl _
  | e :: r, i, f, l => by
    refine Nat.le_trans (lowl_len r (i + 1) (stp f e) _) ?_
    rw [List.length_cons]
    cases lowv f e with
    | none => show l.length + r.length ≤ _; omega
    | some z => have := lput_len l e.2.1 i; show (lput l e.2.1 i).length + r.length ≤ _; omega
theorem zip_parts {κ : Type} {β : Type} : ∀ l : List (κ × β), (l.map (·.1)).zip (l.map (·.2)) = l
  | [] => rfl
  | (a, b) :: l => by rw [List.map_cons, List.map_cons, List.zip_cons_cons, zip_parts l]
theorem dget_c {S : Sto} {l : List (Nat × Nat)} {b i : Nat} (h : lk l b = some i) : dGetD S (dctOf (kvsD l)) (iD b) = some (some (iD i)) := by
  simp only [dGetD, dctOf, keyOf, Option.map_some]
  rw [zip_parts, val_kvs, h]
  rfl
theorem keys_at {l : List (Nat × Nat)} {t : Nat} {d : D} (h : (((kvsD l).map (·.1)).map keyD)[t]? = some d) : ∃ q, l[t]? = some q ∧ d = iD q.1 := by
  rw [List.getElem?_map, List.getElem?_map, List.getElem?_map] at h
  cases e : l[t]? with
  | none => rw [e] at h; cases h
  | some q => rw [e] at h; cases h; exact ⟨q, rfl, rfl⟩
theorem lk_mem {l : List (Nat × Nat)} {q : Nat × Nat} (h : q ∈ l) : ∃ i, lk l q.1 = some i := by
  unfold lk
  cases e : l.find? fun r => r.1 == q.1 with
  | none => have := List.find?_eq_none.mp e q h; simp at this
  | some r => exact ⟨_, rfl⟩
def sp_falling_round (x y : D) (S : Sto) (Q : DK) : Prop := ∃ n es, x = iD n ∧ y = esD es ∧ Below n es ∧ n ≤ 100 ∧ es.length ≤ 1000 ∧ (Stable es (passes es zF n) → Q .non S) ∧ (¬ Stable es (passes es zF n) → ∀ res, FallR es res → Q (.tup (res.map iD)) S)
-- falling_round : 0=many 1=edges 2=sums 3=_ 4=ahead 5=lowered 6=number
def rd_falling_round : DTS :=
    (dSeq (dAsg (dLcM (iRange1 (dVar 0)) (dTg (.nm 3)) dYes (dC (.int 0)) [3]) (dTg (.nm 2)))
    (dSeq (dAsg dNewK (dTg (.nm 4)))
    (dSeq (dAsg dNewK (dTg (.nm 5)))
    (dSeq (dFor (iRange1 (dOp vAdd (dVar 0) (dC (.int 1)))) (dTg (.nm 3)) (dSeq (dAsg (dCall (a2 sp_settle) (dCons (dVar 2) (dCons (dVar 1) dNil))) (dTg (.nm 5)))
    (dFrzD 5 (dFor (iKeysD (dVar 5)) (dTg (.nm 6)) (dDPut (dVar 4) (dVar 6) (dDGet (dVar 5) (dVar 6)))))))
    (dSeq (dFor (iKeysD (dVar 5)) (dTg (.nm 6)) (dRet (dCall (a3 sp_round_through) (dCons (dVar 1) (dCons (dVar 4) (dCons (dVar 6) dNil))))))
    (dRet (dC .non)))))))
theorem rd_falling_round_ok : ∀ ds S P, (a2 sp_falling_round) ds S P → rd_falling_round (DEnds.of P) (dstart ["many", "edges", "sums", "_", "ahead", "lowered", "number"] ds) S := by
  intro ds S P hsp
  rcases ds with _ | ⟨x, _ | ⟨y, _ | ⟨z, ds⟩⟩⟩ <;> first | exact (hsp : False).elim | skip
  obtain ⟨n, es, rfl, rfl, bl, hn, hel, q0, q1⟩ := (hsp : sp_falling_round x y S P)
  unfold rd_falling_round
  walk_at "run"
  refine ⟨by omega, by omega, ?_⟩
  rw [Int.toNat_natCast]
  refine lcL_0 trivial (fun _ => some (.int 0)) (by rw [rng_len, sizeLine_v]; omega) (fun j d e P' N zz => ?_) ?_
  · walk_at "run"
    exact zz
  rw [rng_len, fm_all (o := fun _ => some (.int 0)) (f := fun v => oI (zF v)) fun j _ => rfl]
  intro A hA
  walk_at "run"
  intro B hB
  have hBA : B ≠ A := fun z => by subst z; rw [sup_same] at hB; cases hB
  have hBS : S B = none := by rw [sup_ne hBA] at hB; exact hB
  walk_at "run"
  intro C hC
  have hCB : C ≠ B := fun z => by subst z; rw [sup_same] at hC; cases hC
  have hCA : C ≠ A := fun z => by rw [z, sup_ne (Ne.symm hBA), sup_same] at hC; cases hC
  have hCS : S C = none := by rw [sup_ne hCB, sup_ne hCA] at hC; exact hC
  walk_at "run"
  refine ⟨by omega, by omega, ?_⟩
  rw [show ((n : Int) + 1).toNat = n + 1 by omega]
  refine forL_inv (fun k δ S' => ∃ (la : List (Nat × Nat)) (x3 x5 x6 : Option D), S' A = some (.lst (lD n (passes es zF k))) ∧ S' B = some (.dK (kvsD la)) ∧ (∀ v, lk la v = (grun es zF k).ah v) ∧ la.length ≤ k * es.length ∧ (∀ a o, S a = some o → S' a = some o) ∧
    (∀ k', k = k' + 1 → x5 = some (dctOf (kvsD (lowl 0 es (passes es zF k') [])))) ∧
    δ = [some (iD n), some (esD es), some (.ref A), x3, some (.ref B), x5, x6]) (fun _ _ _ _ => True.intro) _ 0 _ _
    ⟨[], none, some (.ref C), none, ?_, ?_, fun v => rfl, Nat.zero_le _, ?_, fun k' h => by omega, rfl⟩ ?_ ?_
  · rw [sup_ne (Ne.symm hCA), sup_ne (Ne.symm hBA), sup_same]; rfl
  · rw [sup_ne (Ne.symm hCB), sup_same]; rfl
  · intro a o ha
    rw [sup_ne fun z => by subst z; rw [hCS] at ha; cases ha]
    rw [sup_ne fun z => by subst z; rw [hBS] at ha; cases ha]
    rw [sup_ne fun z => by subst z; rw [hA] at ha; cases ha]
    exact ha
  · rintro k d _ S' hj ⟨la, x3, x5, x6, eA, eB, hla, hlen, kp, _, rfl⟩ D2 hrt _ hnx _
    obtain ⟨hk, rfl⟩ := rng_at hj
    rw [Nat.zero_add] at eA hla hlen hnx
    walk_at "run"
    refine use_settle bl (by omega) eA fun p hp => ?_
    have hpA : p ≠ A := fun z => by subst z; rw [eA] at hp; cases hp
    have hpB : p ≠ B := fun z => by subst z; rw [eB] at hp; cases hp
    walk_at "run"
    refine ⟨p, _, rfl, sup_same, ?_⟩
    rw [sdel_sup (by rw [sup_ne hpA]; exact hp)]
    have lr := low_run es zF k
    have hlw := lowl_len es 0 (passes es zF k) []
    generalize hlw0 : lowl 0 es (passes es zF k) [] = lw at lr hlw
    walk_at "run"
    have mul : (k + 1) * es.length = k * es.length + es.length := Nat.succ_mul k es.length
    have small : k * es.length ≤ 100 * 1000 := Nat.mul_le_mul (by omega) hel
    rw [List.length_nil, Nat.zero_add] at hlw
    refine forL_inv (fun t δ S'' => ∃ (la' : List (Nat × Nat)) (x6 : Option D), S'' A = some (.lst (lD n (pass es (passes es zF k)))) ∧ S'' B = some (.dK (kvsD la')) ∧ (∀ v, lk la' v = if (∃ q ∈ lw.take t, q.1 = v) then lk lw v else lk la v) ∧ la'.length ≤ la.length + t ∧ (∀ a o, S a = some o → S'' a = some o) ∧
      δ = [some (iD n), some (esD es), some (.ref A), some (iD k), some (.ref B), some (dctOf (kvsD lw)), x6]) (fun _ _ _ _ => True.intro) _ 0 _ _
      ⟨la, x6, sup_same, by rw [sup_ne hBA]; exact eB, fun v => by simp, Nat.le_refl _, fun a o ha => ?_, rfl⟩ ?_ ?_
    · rw [sup_ne fun z => by subst z; rw [hA] at ha; cases ha]
      exact kp a o ha
    · rintro t d _ S'' hj2 ⟨la', x6, eA2, eB2, hla2, hlen2, kp2, rfl⟩ D3 hrt3 _ hnx3 _
      obtain ⟨qq, hq, rfl⟩ := keys_at hj2
      rw [Nat.zero_add] at hla2 hlen2 hnx3
      have htl : t < lw.length := (List.getElem?_eq_some_iff.mp hq).1
      obtain ⟨i, hi⟩ := lk_mem (List.mem_of_getElem? hq)
      walk_at "run"
      refine ⟨_, dget_c hi, ?_⟩
      walk_at "run"
      refine ⟨_, dput_k eB2 (by rw [sizeLine_v]; omega), ?_⟩
      refine hnx3 _ _ ⟨lput la' qq.1 i, _, ?_, sup_same, fun v => ?_, by have := lput_len la' qq.1 i; omega, fun a o ha => ?_, rfl⟩
      · rw [sup_ne (Ne.symm hBA)]; exact eA2
      · rw [lk_put, hla2 v, List.take_add_one, hq]
        by_cases hv : v = qq.1
        · subst hv
          rw [if_pos rfl, if_pos ⟨qq, by simp, rfl⟩, hi]
        · rw [if_neg hv]
          by_cases hx : ∃ q ∈ lw.take t, q.1 = v
          · rw [if_pos hx, if_pos (by obtain ⟨q, h1, h2⟩ := hx; exact ⟨q, List.mem_append_left _ h1, h2⟩)]
          · rw [if_neg hx, if_neg]
            rintro ⟨q, h1, h2⟩
            rcases List.mem_append.mp h1 with h1 | h1
            · exact hx ⟨q, h1, h2⟩
            · have : q = qq := by simpa using h1
              subst this
              exact hv h2.symm
      · rw [sup_ne fun z => by subst z; rw [hBS] at ha; cases ha]
        exact kp2 a o ha
    · rintro _ S'' ⟨la', x6, eA2, eB2, hla2, hlen2, kp2, rfl⟩
      have hkl : (((kvsD lw).map (·.1)).map keyD).length = lw.length := by simp
      rw [hkl, Nat.zero_add] at hlen2 hla2
      rw [List.take_length] at hla2
      refine hnx _ _ ⟨la', _, _, _, eA2, eB2, fun v => ?_, by omega, kp2, fun k' h => ?_, rfl⟩
      · rw [hla2 v, lr.2 v, hla v]
        by_cases hx : ∃ q ∈ lw, q.1 = v
        · rw [if_pos hx]
          obtain ⟨q, h1, h2⟩ := hx
          obtain ⟨i, hi⟩ := lk_mem h1
          rw [h2] at hi
          rw [hi]
        · rw [if_neg hx]
          have : lk lw v = none := by
            unfold lk
            rw [List.find?_eq_none.mpr fun q hq z => hx ⟨q, hq, by simpa using z⟩]
            rfl
          rw [this]
      · obtain rfl : k = k' := by omega
        rw [hlw0]
  · rintro _ S' ⟨la, x3, x5, x6, eA, eB, hla, hlen, kp, hx5, rfl⟩
    rw [rng_len, Nat.zero_add] at eA hla hx5
    have hx := hx5 n rfl
    subst hx
    have lr := low_run es zF n
    have ln := lowl_nil es 0 (passes es zF n)
    generalize lowl 0 es (passes es zF n) [] = lw at lr ln
    cases lw with
    | nil =>
      walk_at "run"
      refine ⟨trivial, ?_⟩
      walk_at "run"
      exact ⟨_, S, kp, .refl _, q0 (ln.mp rfl)⟩
    | cons q0' lw =>
      have hns : ¬ Stable es (passes es zF n) := fun z => by have := ln.mpr z; cases this
      have ps : Ps es (n + 1) es.length (grun es zF (n + 1)) := ps_gpass (Nat.succ_ne_zero n) es 0 (ps_start es zF n) rfl
      obtain ⟨i, hi⟩ := lk_mem (l := q0' :: lw) List.mem_cons_self
      have hps : (grun es zF (n + 1)).ps q0'.1 = n + 1 := by
        have := lr.1 q0'.1
        rw [hi] at this
        by_cases z : (grun es zF (n + 1)).ps q0'.1 = n + 1
        · exact z
        · rw [if_neg z] at this; cases this
      have cn := chn_of bl ps.ok ps.lk hps
      walk_at "run"
      refine ⟨trivial, ?_⟩
      walk_at "run"
      refine use_round_through eB hla cn (by omega) fun u m cy => ?_
      exact ⟨_, S, kp, .refl _, q1 hns _ (fall_of cy (cyc_falls ps.ok cy))⟩
theorem use_falling {n : Nat} {es : List Ed} {S : Sto} {Q : DK} (bl : Below n es) (hn : n ≤ 100) (hel : es.length ≤ 1000) (q0 : Stable es (passes es zF n) → Q .non S) (q1 : ¬ Stable es (passes es zF n) → ∀ res, FallR es res → Q (.tup (res.map iD)) S) : sp_falling_round (iD n) (esD es) S Q := ⟨n, es, rfl, rfl, bl, hn, hel, q0, q1⟩
end L3

set_option Elab.async false
set_option maxRecDepth 100000
set_option linter.all false
set_option maxHeartbeats 4000000
namespace L3
open PySem L2 L3.KW
local macro_rules | `(tactic| walk_at "cond") => `(tactic| first | omega | (simp only [List.length_append, List.length_cons, List.length_nil, List.length_take, List.length_drop, List.length_map, List.length_reverse]; omega) | rfl | decide)
local macro_rules | `(tactic| walk_at "side") => `(tactic| first | assumption | omega | (simp only [List.length_append, List.length_cons, List.length_nil, List.length_take, List.length_drop, List.length_map, List.length_reverse, sizeLine_val]; omega) | decide)
local macro_rules | `(tactic| walk_at "st") => `(tactic| first
  | with_reducible refine st_ix0 ?_ | with_reducible refine st_ix1 ?_ | with_reducible refine st_ix2 ?_ | with_reducible refine st_ix3 ?_ | with_reducible refine st_ix4 ?_
  | with_reducible refine st_add_pp (by walk_at "side") ?_ | with_reducible refine st_add_p1 (by walk_at "side") ?_ | with_reducible refine st_add_1p (by walk_at "side") ?_
  | with_reducible refine st_add ?_ | with_reducible refine st_sub ?_ | with_reducible refine st_iadd ?_ | with_reducible refine st_neg ?_
  | with_reducible refine st_len_p ?_ | with_reducible refine st_len_lp ?_ | with_reducible refine st_len_rp ?_ | with_reducible refine st_len_t ?_ | with_reducible refine st_len_l ?_
  | with_reducible refine st_add_t (by walk_at "side") ?_ | with_reducible refine st_add_l (by walk_at "side") ?_ | with_reducible refine st_add_s (by walk_at "side") ?_
  | with_reducible refine st_tru_bl ?_ | with_reducible refine st_tru_int ?_ | with_reducible refine st_tru_tup ?_ | with_reducible refine st_tru_lst ?_ | with_reducible refine st_tru_non ?_
  | with_reducible refine st_at (by assumption) ?_ | with_reducible refine st_atl (by assumption) ?_
  | with_reducible refine st_iteT ?_ | with_reducible refine st_iteF ?_ | with_reducible refine st_not ?_
  | with_reducible refine st_lt ?_ | with_reducible refine st_le ?_ | with_reducible refine st_gt ?_ | with_reducible refine st_ge ?_ | with_reducible refine st_eqi ?_ | with_reducible refine st_nei ?_ | with_reducible refine st_eqs ?_ | with_reducible refine st_nes ?_ | with_reducible refine st_eqb ?_
  | with_reducible refine st_isn_non ?_ | with_reducible refine st_isn_int ?_ | with_reducible refine st_isn_tup ?_ | with_reducible refine st_isn_str ?_ | with_reducible refine st_isn_bl ?_
  | with_reducible refine st_isnt_non ?_ | with_reducible refine st_isnt_int ?_ | with_reducible refine st_isnt_tup ?_ | with_reducible refine st_isnt_str ?_
  | with_reducible refine st_int ?_ | with_reducible refine st_intb ?_ | with_reducible refine st_abs ?_ | with_reducible refine st_min2 ?_ | with_reducible refine st_max2 ?_
  | with_reducible refine st_tup_l ?_ | with_reducible refine st_tup_t ?_ | with_reducible refine st_lst_t ?_ | with_reducible refine st_lst_l ?_
  | with_reducible refine st_sl_from ?_ | with_reducible refine st_sl_to ?_
  | with_reducible refine st_lx0 ?_ | with_reducible refine st_lx1 ?_ | with_reducible refine st_lx2 ?_ | with_reducible refine st_lx3 ?_
  | with_reducible refine st_mod (by walk_at "side") ?_ | with_reducible refine st_div (by walk_at "side") ?_ | with_reducible refine st_mul (by walk_at "side") ?_ | with_reducible refine st_mul' (by walk_at "side") ?_
  | with_reducible refine st_isi rfl ?_
  | (with_reducible refine And.intro (Nat.le_of_ble_eq_true rfl) ?_)
  | (refine And.intro (rfl : (_ : Nat) = _) ?_)
  | with_reducible refine st_dT (by walk_at "cond") ?_ | with_reducible refine st_dF (by walk_at "cond") ?_)
local macro_rules | `(tactic| walk_at "hd") => `(tactic| (with_reducible conv => whnf))
local macro_rules | `(tactic| walk_at "run") => `(tactic| ((with_reducible conv => whnf); repeat (walk_at "st"; (with_reducible conv => whnf))))
/-! ### least_ways -/
theorem stable_stay {es : List Ed} {f : Sm} {j : Nat} (h : Stable es (passes es f j)) : ∀ m, j ≤ m → passes es f m = passes es f j
  | 0, hm => by rw [show j = 0 by omega]
  | m + 1, hm => by
    by_cases z : j = m + 1
    · rw [z]
    · have ih := stable_stay h m (by omega)
      show pass es (passes es f m) = _
      rw [ih]
      exact pass_stable h
def sp_least_ways (x y z : D) (S : Sto) (Q : DK) : Prop := ∃ n es o, x = iD n ∧ y = esD es ∧ z = iD o ∧ o < n ∧ Below n es ∧ n ≤ 100 ∧ es.length ≤ 1000 ∧ Stable es (passes es (from1 o) n) ∧ Q (.tup (lD n (passes es (from1 o) n))) S
-- least_ways : 0=many 1=edges 2=start 3=sums 4=_ 5=changed
def rd_least_ways : DTS :=
    (dSeq (dAsg (dLcM (iRange1 (dVar 0)) (dTg (.nm 4)) dYes (dC .non) [4]) (dTg (.nm 3)))
    (dSeq (dAsg (dC (.int 0)) (dgSub (dVar 3) (dVar 2)))
    (dSeq (dAsg (dC (.bl true)) (dTg (.nm 5)))
    (dSeq (dWhile (dTru (dVar 5)) (dAsg (dOp vGt (dCB vLen (dCons (dCall (a2 sp_settle) (dCons (dVar 3) (dCons (dVar 1) dNil))) dNil)) (dC (.int 0))) (dTg (.nm 5))))
    (dRet (dCB vTuple (dCons (dVar 3) dNil)))))))
theorem rd_least_ways_ok : ∀ ds S P, (a3 sp_least_ways) ds S P → rd_least_ways (DEnds.of P) (dstart ["many", "edges", "start", "sums", "_", "changed"] ds) S := by
  intro ds S P hsp
  rcases ds with _ | ⟨x, _ | ⟨y, _ | ⟨z, _ | ⟨w, ds⟩⟩⟩⟩ <;> first | exact (hsp : False).elim | skip
  obtain ⟨n, es, o, rfl, rfl, rfl, ho, bl, hn, hel, st, q⟩ := (hsp : sp_least_ways x y z S P)
  unfold rd_least_ways
  walk_at "run"
  refine ⟨by omega, by omega, ?_⟩
  rw [Int.toNat_natCast]
  refine lcL_0 trivial (fun _ => some .non) (by rw [rng_len, sizeLine_v]; omega) (fun j d e P' N zz => ?_) ?_
  · walk_at "run"
    exact zz
  rw [rng_len, fm_all (o := fun _ => some .non) (f := fun v => oI ((fun _ => none : Sm) v)) fun j _ => rfl]
  intro A hA
  walk_at "run"
  refine st_setr sup_same (by rw [List.length_map, List.length_range]; exact ho) ?_
  rw [sup_sup, show ((List.range n).map fun v => oI ((fun _ => none : Sm) v)).set o (.int 0) = lD n (from1 o) from lD_set (f := fun _ => none) (o := some 0)]
  walk_at "run"
  refine ⟨n + 2, whileN_inv (fun m δ S' => ∃ (k : Nat) (c : Bool), m + k = n + 1 ∧ S' A = some (.lst (lD n (passes es (from1 o) k))) ∧ (∀ a o, S a = some o → S' a = some o) ∧
    (c = true → ∀ j, k = j + 1 → ¬ Stable es (passes es (from1 o) j)) ∧ (c = false → ∃ j, k = j + 1 ∧ Stable es (passes es (from1 o) j)) ∧
    δ = [some (iD n), some (esD es), some (iD o), some (.ref A), none, some (.bl c)]) ?_ _ _ _ ⟨0, true, rfl, sup_same, fun a u ha => sup_new hA ha, fun _ j h => by omega, (by intro h; cases h), rfl⟩⟩
  rintro m _ S' ⟨k, c, hm, eA, kp, c1, c2, rfl⟩ D2 hrt _ hnx _
  walk_at "run"
  cases c with
  | true =>
    walk_at "run"
    refine use_settle bl (by omega) eA fun p hp => ?_
    have hpA : p ≠ A := fun z => by subst z; rw [eA] at hp; cases hp
    have hm1 : k ≤ n := by
      apply Classical.byContradiction
      intro z
      exact c1 rfl n (by omega) st
    have ln := lowl_nil es 0 (passes es (from1 o) k)
    generalize lowl 0 es (passes es (from1 o) k) [] = lw at ln
    walk_at "run"
    refine (show ∀ {S : Sto} {p : Addr} {kvs : List (Key × D)} {Q : DK}, S p = some (.dK kvs) → Q (.int kvs.length) S → vLen [.ref p] S Q from fun e h => by simp only [vLen, e]; exact h) sup_same ?_
    rw [List.length_map]
    walk_at "run"
    obtain ⟨m', rfl⟩ : ∃ m', m = m' + 1 := ⟨m - 1, by omega⟩
    refine hnx m' _ _ rfl ⟨k + 1, decide ((lw.length : Int) > 0), by omega, by rw [sup_ne (Ne.symm hpA), sup_same]; rfl, fun a u ha => ?_, fun h j hj => ?_, fun h => ⟨k, rfl, ?_⟩, rfl⟩
    · rw [sup_ne fun z => by subst z; rw [kp _ _ ha] at hp; cases hp]
      rw [sup_ne fun z => by subst z; rw [hA] at ha; cases ha]
      exact kp a u ha
    · obtain rfl : k = j := by omega
      intro z
      have := ln.mpr z
      subst this
      simp at h
    · refine ln.mp ?_
      cases lw with
      | nil => rfl
      | cons a b => simp at h
  | false =>
    obtain ⟨j, rfl, hst⟩ := c2 rfl
    walk_at "run"
    refine st_tup_r eA ?_
    have e1 := stable_stay hst (j + 1) (Nat.le_succ _)
    have e2 := stable_stay hst n (by omega)
    rw [e1, ← e2]
    exact ⟨_, S, kp, .refl _, q⟩
theorem use_least {n o : Nat} {es : List Ed} {S : Sto} {Q : DK} (ho : o < n) (bl : Below n es) (hn : n ≤ 100) (hel : es.length ≤ 1000) (st : Stable es (passes es (from1 o) n)) (q : Q (.tup (lD n (passes es (from1 o) n))) S) : sp_least_ways (iD n) (esD es) (iD o) S Q := ⟨n, es, o, rfl, rfl, rfl, ho, bl, hn, hel, st, q⟩
/-! ### the law's own settling -/
def sp_law_settled (x y z : D) (S : Sto) (Q : DK) : Prop := ∃ n es f, x = iD n ∧ y = esD es ∧ seqOf S z = some (lD n f) ∧ Below n es ∧ n ≤ 100 ∧ es.length ≤ 1000 ∧ (Stable es (passes es f n) → Q (.tup (lD n (passes es f n))) S) ∧ (¬ Stable es (passes es f n) → Q .non S)
-- _law_settled : 0=many 1=edges 2=begins 3=least 4=lap 5=moved 6=one 7=other 8=weight
def rd_law_settled : DTS :=
    (dSeq (dAsg (dCB vListM (dCons (dVar 2) dNil)) (dTg (.nm 3)))
    (dSeq (dFor (iRange1 (dOp vAdd (dVar 0) (dC (.int 1)))) (dTg (.nm 4)) (dSeq (dAsg (dC (.bl false)) (dTg (.nm 5)))
    (dSeq (dFor (iTupD (dVar 1)) (dTg (.tp [6, 7, 8])) (dIf (dAnd (dTest (dOp vIsNot (dOp vIx (dVar 3) (dVar 6)) (dC .non))) (dOr (dTest (dOp vIs (dOp vIx (dVar 3) (dVar 7)) (dC .non))) (dTest (dOp vLt (dOp vAdd (dOp vIx (dVar 3) (dVar 6)) (dVar 8)) (dOp vIx (dVar 3) (dVar 7)))))) (dSeq (dAsg (dOp vAdd (dOp vIx (dVar 3) (dVar 6)) (dVar 8)) (dgSub (dVar 3) (dVar 7)))
    (dAsg (dC (.bl true)) (dTg (.nm 5)))) dNext))
    (dIf (dNot (dTru (dVar 5))) (dRet (dCB vTuple (dCons (dVar 3) dNil))) dNext))))
    (dRet (dC .non))))
theorem rd_law_settled_ok : ∀ ds S P, (a3 sp_law_settled) ds S P → rd_law_settled (DEnds.of P) (dstart ["many", "edges", "begins", "least", "lap", "moved", "one", "other", "weight"] ds) S := by
  intro ds S P hsp
  rcases ds with _ | ⟨x, _ | ⟨y, _ | ⟨z, _ | ⟨w, ds⟩⟩⟩⟩ <;> first | exact (hsp : False).elim | skip
  obtain ⟨n, es, f, rfl, rfl, hz, bl, hn, hel, q0, q1⟩ := (hsp : sp_law_settled x y z S P)
  unfold rd_law_settled
  walk_at "run"
  refine (show ∀ {z : D} {ds : List D} {S : Sto} {Q : DK}, seqOf S z = some ds → (∀ p, S p = none → Q (.ref p) (sup S p (.lst ds))) → vListM [z] S Q from fun e h => by simp only [vListM, e]; exact h) hz fun A hA => ?_
  walk_at "run"
  refine ⟨by omega, by omega, ?_⟩
  rw [show ((n : Int) + 1).toNat = n + 1 by omega]
  refine forL_inv (fun k δ S' => S' = sup S A (.lst (lD n (passes es f k))) ∧ (∀ j, j < k → ¬ Stable es (passes es f j)) ∧ ∃ (x4 x5 x6 x7 x8 : Option D), δ = [some (iD n), some (esD es), some z, some (.ref A), x4, x5, x6, x7, x8]) (fun _ _ _ _ => True.intro) _ 0 _ _ ⟨rfl, fun j h => absurd h (Nat.not_lt_zero _), none, none, none, none, none, rfl⟩ ?_ ?_
  · rintro k d _ _ hj ⟨rfl, hns, x4, x5, x6, x7, x8, rfl⟩ D2 hrt _ hnx _
    obtain ⟨hk, rfl⟩ := rng_at hj
    rw [Nat.zero_add] at hns hnx ⊢
    generalize hpk : passes es f k = fk
    walk_at "run"
    refine forL_inv (fun i δ S' => ∃ (f' : Sm) (l : List (Nat × Nat)) (x6 x7 x8 : Option D), S' = sup S A (.lst (lD n f')) ∧ pass (es.drop i) f' = pass es fk ∧ lowl i (es.drop i) f' l = lowl 0 es fk [] ∧
      δ = [some (iD n), some (esD es), some z, some (.ref A), some (iD k), some (.bl (!l.isEmpty)), x6, x7, x8]) (fun _ _ _ _ => True.intro) _ 0 _ _ ⟨fk, [], x6, x7, x8, rfl, rfl, rfl, rfl⟩ ?_ ?_
    · rintro j d _ _ hj2 ⟨f', l, x6, x7, x8, rfl, hp1, hp2, rfl⟩ D3 hrt3 _ hnx3 _
      rw [List.getElem?_map] at hj2
      obtain ⟨e, e1, rfl⟩ := Option.map_eq_some_iff.mp hj2
      obtain ⟨ha, hb⟩ := bl e (List.mem_of_getElem? e1)
      have hjl : j < es.length := (List.getElem?_eq_some_iff.mp e1).1
      have ed : es.drop j = e :: es.drop (j + 1) := by
        rw [List.drop_eq_getElem_cons hjl]
        rw [List.getElem?_eq_getElem hjl] at e1
        rw [Option.some.inj e1]
      rw [Nat.zero_add] at hp1 hp2 hnx3
      rw [ed] at hp1 hp2
      obtain ⟨a, b, w⟩ := e
      simp only at ha hb
      walk_at "run"
      refine st_atr sup_same (lD_get ha) ?_
      have skip : lowv f' (a, b, w) = none → ∀ y6 y7 y8, D3.nx [some (iD n), some (esD es), some z, some (.ref A), some (iD k), some (.bl (!l.isEmpty)), y6, y7, y8] (sup S A (.lst (lD n f'))) := fun h y6 y7 y8 => by
        refine hnx3 _ _ ⟨f', l, _, _, _, rfl, ?_, ?_, rfl⟩
        · rw [← hp1]; show _ = pass (es.drop (j + 1)) (stp f' (a, b, w)); rw [stp_sat h]
        · rw [← hp2]; show _ = lowl (j + 1) (es.drop (j + 1)) (stp f' (a, b, w)) (match lowv f' (a, b, w) with | some _ => lput l b j | none => l); rw [stp_sat h, h]
      have put : ∀ z', lowv f' (a, b, w) = some z' → ∀ y6 y7 y8, D3.nx [some (iD n), some (esD es), some z, some (.ref A), some (iD k), some (.bl true), y6, y7, y8] (sup S A (.lst (lD n (fset f' b (some z'))))) := fun z' h y6 y7 y8 => by
        have hs : stp f' (a, b, w) = fset f' b (some z') := by unfold stp; rw [h]
        have ne : (!(lput l b j).isEmpty) = true := by
          cases e : lput l b j with
          | nil => exact absurd e (lput_ne _ _ _)
          | cons _ _ => rfl
        refine hnx3 _ _ ⟨_, lput l b j, _, _, _, rfl, ?_, ?_, by rw [ne]⟩
        · rw [← hp1, ← hs]; rfl
        · rw [← hp2, ← hs]; show _ = lowl (j + 1) (es.drop (j + 1)) (stp f' (a, b, w)) (match lowv f' (a, b, w) with | some _ => lput l b j | none => l); rw [h]
      cases hx : f' a with
      | none =>
        have hl0 : lowv f' (a, b, w) = none := by unfold lowv; simp only [hx]
        simp only [oI]
        walk_at "run"
        exact skip hl0 _ _ _
      | some x =>
        simp only [oI]
        walk_at "run"
        refine st_atr sup_same (lD_get hb) ?_
        cases hy : f' b with
        | none =>
          have hl1 : lowv f' (a, b, w) = some (x + w) := by unfold lowv; simp only [hx, hy]
          simp only [oI]
          walk_at "run"
          rw [if_pos trivial]
          walk_at "run"
          refine st_atr sup_same (lD_get ha) ?_
          rw [hx]
          simp only [oI]
          walk_at "run"
          refine st_setr sup_same (by rw [lD_len]; exact hb) ?_
          rw [sup_sup, show (D.int (x + w)) = oI (some (x + w)) from rfl, lD_set]
          walk_at "run"
          exact put _ hl1 _ _ _
        | some y =>
          simp only [oI]
          walk_at "run"
          refine st_atr sup_same (lD_get ha) ?_
          rw [hx]
          simp only [oI]
          walk_at "run"
          refine st_atr sup_same (lD_get hb) ?_
          rw [hy]
          simp only [oI]
          walk_at "run"
          by_cases hlt : x + w < y
          · have hl1 : lowv f' (a, b, w) = some (x + w) := by unfold lowv; simp only [hx, hy]; exact if_pos hlt
            rw [decide_eq_true hlt]
            walk_at "run"
            refine st_atr sup_same (lD_get ha) ?_
            rw [hx]
            simp only [oI]
            walk_at "run"
            refine st_setr sup_same (by rw [lD_len]; exact hb) ?_
            rw [sup_sup, show (D.int (x + w)) = oI (some (x + w)) from rfl, lD_set]
            walk_at "run"
            exact put _ hl1 _ _ _
          · have hl0 : lowv f' (a, b, w) = none := by unfold lowv; simp only [hx, hy]; exact if_neg hlt
            rw [decide_eq_false hlt]
            walk_at "run"
            exact skip hl0 _ _ _
    · rintro _ _ ⟨f', l, x6, x7, x8, rfl, hp1, hp2, rfl⟩
      rw [List.length_map, Nat.zero_add, List.drop_length] at hp1 hp2
      have e1 : f' = pass es fk := hp1
      have e2 : l = lowl 0 es fk [] := hp2
      have ln := lowl_nil es 0 fk
      rw [← e2] at ln
      subst e1
      walk_at "run"
      cases l with
      | nil =>
        have st : Stable es fk := ln.mp rfl
        rw [show (!([] : List (Nat × Nat)).isEmpty) = false from rfl]
        walk_at "run"
        refine st_tup_r sup_same ?_
        rw [pass_stable st, ← hpk]
        rw [← hpk] at st
        have e3 := stable_stay st n (by omega)
        rw [← e3]
        show D2.rt _ _
        rw [hrt]
        exact ⟨_, S, fun a u ha => sup_new hA ha, .refl _, q0 (by rw [e3]; exact st)⟩
      | cons c l =>
        have ns : ¬ Stable es fk := fun z => by have := ln.mpr z; cases this
        rw [show (!(c :: l).isEmpty) = true from rfl]
        walk_at "run"
        refine hnx _ _ ⟨by rw [← hpk]; rfl, fun j hj => ?_, _, _, _, _, _, rfl⟩
        by_cases z : j = k
        · subst z; rw [hpk]; exact ns
        · exact hns j (by omega)
  · rintro _ _ ⟨rfl, hns, x4, x5, x6, x7, x8, rfl⟩
    rw [rng_len, Nat.zero_add] at hns
    walk_at "run"
    exact ⟨_, S, fun a u ha => sup_new hA ha, .refl _, q1 (hns n (by omega))⟩
theorem use_settled {n : Nat} {es : List Ed} {f : Sm} {z : D} {S : Sto} {Q : DK} (hz : seqOf S z = some (lD n f)) (bl : Below n es) (hn : n ≤ 100) (hel : es.length ≤ 1000) (q0 : Stable es (passes es f n) → Q (.tup (lD n (passes es f n))) S) (q1 : ¬ Stable es (passes es f n) → Q .non S) : sp_law_settled (iD n) (esD es) z S Q := ⟨n, es, f, rfl, rfl, hz, bl, hn, hel, q0, q1⟩
end L3

set_option Elab.async false
set_option maxRecDepth 100000
set_option linter.all false
set_option maxHeartbeats 4000000
namespace L3
open PySem L2 L3.KW
local macro_rules | `(tactic| walk_at "cond") => `(tactic| first | omega | (simp only [List.length_append, List.length_cons, List.length_nil, List.length_take, List.length_drop, List.length_map, List.length_reverse]; omega) | rfl | decide)
local macro_rules | `(tactic| walk_at "side") => `(tactic| first | assumption | omega | (simp only [List.length_append, List.length_cons, List.length_nil, List.length_take, List.length_drop, List.length_map, List.length_reverse, sizeLine_val]; omega) | decide)
local macro_rules | `(tactic| walk_at "st") => `(tactic| first
  | with_reducible refine st_ix0 ?_ | with_reducible refine st_ix1 ?_ | with_reducible refine st_ix2 ?_ | with_reducible refine st_ix3 ?_ | with_reducible refine st_ix4 ?_
  | with_reducible refine st_add_pp (by walk_at "side") ?_ | with_reducible refine st_add_p1 (by walk_at "side") ?_ | with_reducible refine st_add_1p (by walk_at "side") ?_
  | with_reducible refine st_add ?_ | with_reducible refine st_sub ?_ | with_reducible refine st_iadd ?_ | with_reducible refine st_neg ?_
  | with_reducible refine st_len_p ?_ | with_reducible refine st_len_lp ?_ | with_reducible refine st_len_rp ?_ | with_reducible refine st_len_t ?_ | with_reducible refine st_len_l ?_
  | with_reducible refine st_add_t (by walk_at "side") ?_ | with_reducible refine st_add_l (by walk_at "side") ?_ | with_reducible refine st_add_s (by walk_at "side") ?_
  | with_reducible refine st_tru_bl ?_ | with_reducible refine st_tru_int ?_ | with_reducible refine st_tru_tup ?_ | with_reducible refine st_tru_lst ?_ | with_reducible refine st_tru_non ?_
  | with_reducible refine st_at (by assumption) ?_ | with_reducible refine st_atl (by assumption) ?_
  | with_reducible refine st_iteT ?_ | with_reducible refine st_iteF ?_ | with_reducible refine st_not ?_
  | with_reducible refine st_lt ?_ | with_reducible refine st_le ?_ | with_reducible refine st_gt ?_ | with_reducible refine st_ge ?_ | with_reducible refine st_eqi ?_ | with_reducible refine st_nei ?_ | with_reducible refine st_eqs ?_ | with_reducible refine st_nes ?_ | with_reducible refine st_eqb ?_
  | with_reducible refine st_isn_non ?_ | with_reducible refine st_isn_int ?_ | with_reducible refine st_isn_tup ?_ | with_reducible refine st_isn_str ?_ | with_reducible refine st_isn_bl ?_
  | with_reducible refine st_isnt_non ?_ | with_reducible refine st_isnt_int ?_ | with_reducible refine st_isnt_tup ?_ | with_reducible refine st_isnt_str ?_
  | with_reducible refine st_int ?_ | with_reducible refine st_intb ?_ | with_reducible refine st_abs ?_ | with_reducible refine st_min2 ?_ | with_reducible refine st_max2 ?_
  | with_reducible refine st_tup_l ?_ | with_reducible refine st_tup_t ?_ | with_reducible refine st_lst_t ?_ | with_reducible refine st_lst_l ?_
  | with_reducible refine st_sl_from ?_ | with_reducible refine st_sl_to ?_
  | with_reducible refine st_lx0 ?_ | with_reducible refine st_lx1 ?_ | with_reducible refine st_lx2 ?_ | with_reducible refine st_lx3 ?_
  | with_reducible refine st_mod (by walk_at "side") ?_ | with_reducible refine st_div (by walk_at "side") ?_ | with_reducible refine st_mul (by walk_at "side") ?_ | with_reducible refine st_mul' (by walk_at "side") ?_
  | with_reducible refine st_isi rfl ?_
  | (with_reducible refine And.intro (Nat.le_of_ble_eq_true rfl) ?_)
  | (refine And.intro (rfl : (_ : Nat) = _) ?_)
  | with_reducible refine st_dT (by walk_at "cond") ?_ | with_reducible refine st_dF (by walk_at "cond") ?_)
local macro_rules | `(tactic| walk_at "hd") => `(tactic| (with_reducible conv => whnf))
local macro_rules | `(tactic| walk_at "run") => `(tactic| ((with_reducible conv => whnf); repeat (walk_at "st"; (with_reducible conv => whnf))))
/-! ### potentials asked of anything -/
def Gd : D → Bool
  | .non => true
  | .bl _ => true
  | .int _ => true
  | .str _ => true
  | .tup _ => true
  | .lst _ => true
  | _ => false
def isI : D → Bool
  | .int _ => true
  | _ => false
def sp_is_integer (x : D) (S : Sto) (Q : DK) : Prop := Gd x = true ∧ Q (.bl (isI x)) S
-- is_integer : 0=thing
def rd_is_integer : DTS :=
    (dRet (dAndV (dCB vIsi (dCons (dVar 0) (dCons (dC (.ty "int")) dNil))) (dNotV (dCB vIsi (dCons (dVar 0) (dCons (dC (.ty "bool")) dNil))))))
theorem rd_is_integer_ok : ∀ ds S P, (a1 sp_is_integer) ds S P → rd_is_integer (DEnds.of P) (dstart ["thing"] ds) S := by
  intro ds S P hsp
  rcases ds with _ | ⟨x, _ | ⟨y, ds⟩⟩ <;> first | exact (hsp : False).elim | skip
  obtain ⟨g, q⟩ := (hsp : sp_is_integer x S P)
  unfold rd_is_integer
  cases x <;> first | cases g | skip
  all_goals (walk_at "run"; exact .of q)
theorem use_integer {x : D} {S : Sto} {Q : DK} (g : Gd x = true) (q : Q (.bl (isI x)) S) : sp_is_integer x S Q := ⟨g, q⟩
def isT : D → Nat → Bool
  | .tup ds, n => decide ((ds.length : Int) = (n : Int))
  | _, _ => false
def sp_is_tuple (x y : D) (S : Sto) (Q : DK) : Prop := ∃ n : Nat, y = iD n ∧ Gd x = true ∧ Q (.bl (isT x n)) S
-- is_tuple : 0=thing 1=many
def rd_is_tuple : DTS :=
    (dRet (dAndV (dCB vIsi (dCons (dVar 0) (dCons (dC (.ty "tuple")) dNil))) (dOp vEq (dCB vLen (dCons (dVar 0) dNil)) (dVar 1))))
theorem rd_is_tuple_ok : ∀ ds S P, (a2 sp_is_tuple) ds S P → rd_is_tuple (DEnds.of P) (dstart ["thing", "many"] ds) S := by
  intro ds S P hsp
  rcases ds with _ | ⟨x, _ | ⟨y, _ | ⟨z, ds⟩⟩⟩ <;> first | exact (hsp : False).elim | skip
  obtain ⟨n, rfl, g, q⟩ := (hsp : sp_is_tuple x y S P)
  unfold rd_is_tuple
  cases x <;> first | cases g | skip
  all_goals (walk_at "run"; exact .of q)
theorem use_tuple {x : D} {n : Nat} {S : Sto} {Q : DK} (g : Gd x = true) (q : Q (.bl (isT x n)) S) : sp_is_tuple x (iD n) S Q := ⟨n, rfl, g, q⟩
def gi (ds : List D) (v : Nat) : Int := match ds[v]? with
  | some (.int i) => i
  | _ => 0
def potB (n : Nat) (es : List Ed) : D → Bool
  | .tup ds => decide (ds.length = n) && ds.all isI && es.all fun e => decide (gi ds e.2.1 ≤ gi ds e.1 + e.2.2)
  | _ => false
def GdT : D → Prop
  | .tup ds => ∀ d ∈ ds, Gd d = true
  | _ => True
theorem gi_at {ds : List D} {n v : Nat} (hl : ds.length = n) (ha : ds.all isI = true) (hv : v < n) : ds[v]? = some (.int (gi ds v)) := by
  have h := List.getElem?_eq_getElem (by omega : v < ds.length)
  have hi := List.all_eq_true.mp ha _ (List.getElem_mem (by omega : v < ds.length))
  unfold gi
  rw [h]
  cases e : ds[v] <;> rw [e] at hi <;> first | cases hi | rfl
def sp_is_potentials (x y z : D) (S : Sto) (Q : DK) : Prop := ∃ n es, x = iD n ∧ y = esD es ∧ Gd z = true ∧ GdT z ∧ Below n es ∧ n ≤ 100 ∧ es.length ≤ 1000 ∧ Q (.bl (potB n es z)) S
-- is_potentials : 0=many 1=edges 2=thing 3=number 4=one 5=other 6=weight
def rd_is_potentials : DTS :=
    (dSeq (dIf (dOr (dNot (dTest (dCall (a2 sp_is_tuple) (dCons (dVar 2) (dCons (dVar 0) dNil))))) (dNot (dTest (dCB vAll (dCons (dLc (iTupD (dVar 2)) (dTg (.nm 3)) dYes (dCall (a1 sp_is_integer) (dCons (dVar 3) dNil)) [3]) dNil))))) (dRet (dC (.bl false))) dNext)
    (dRet (dCB vAll (dCons (dLc (iTupD (dVar 1)) (dTg (.tp [4, 5, 6])) dYes (dOp vGe (dOp vAdd (dOp vIx (dVar 2) (dVar 4)) (dVar 6)) (dOp vIx (dVar 2) (dVar 5))) [4, 5, 6]) dNil))))
theorem rd_is_potentials_ok : ∀ ds S P, (a3 sp_is_potentials) ds S P → rd_is_potentials (DEnds.of P) (dstart ["many", "edges", "thing", "number", "one", "other", "weight"] ds) S := by
  intro ds S P hsp
  rcases ds with _ | ⟨x, _ | ⟨y, _ | ⟨z, _ | ⟨w, ds⟩⟩⟩⟩ <;> first | exact (hsp : False).elim | skip
  obtain ⟨n, es, rfl, rfl, g, gt, bl, hn, hel, q⟩ := (hsp : sp_is_potentials x y z S P)
  unfold rd_is_potentials
  walk_at "run"
  refine use_tuple g ?_
  walk_at "run"
  by_cases hT : isT z n = true
  · rw [hT]
    cases z <;> first | cases hT | skip
    rename_i ds
    have hl : ds.length = n := by have := of_decide_eq_true hT; omega
    walk_at "run"
    refine lcL_0 trivial (fun j => (ds[j]?).map fun d => .bl (isI d)) (by rw [sizeLine_v]; omega) (fun j d e P' N zz => ?_) ?_
    · rw [e] at zz
      walk_at "run"
      refine use_integer (gt d (List.mem_of_getElem? e)) ?_
      walk_at "run"
      exact zz
    rw [fm_list, show (ds.map fun d => D.bl (isI d)) = (ds.map isI).map .bl by rw [List.map_map]; rfl]
    refine st_all ?_
    have hall : (ds.map isI).all id = ds.all isI := by rw [List.all_map]; rfl
    rw [hall]
    cases ha : ds.all isI with
    | false =>
      walk_at "run"
      refine .of ?_
      have : potB n es (.tup ds) = false := by simp [potB, ha]
      rw [← this]
      exact q
    | true =>
      walk_at "run"
      refine lcL_0 trivial (fun j => (es[j]?).map fun e => .bl (decide (gi ds e.1 + e.2.2 ≥ gi ds e.2.1))) (by rw [List.length_map, sizeLine_v]; omega) (fun j d e P' N zz => ?_) ?_
      · rw [List.getElem?_map] at e
        obtain ⟨e', e1, rfl⟩ := Option.map_eq_some_iff.mp e
        rw [e1] at zz
        obtain ⟨h1, h2⟩ := bl e' (List.mem_of_getElem? e1)
        have g1 := gi_at hl ha h1
        have g2 := gi_at hl ha h2
        obtain ⟨a, b, w⟩ := e'
        simp only at g1 g2 zz
        walk_at "run"
        exact zz
      rw [List.length_map, fm_list, show (es.map fun e => D.bl (decide (gi ds e.1 + e.2.2 ≥ gi ds e.2.1))) = (es.map fun e => decide (gi ds e.1 + e.2.2 ≥ gi ds e.2.1)).map .bl by rw [List.map_map]; rfl]
      refine st_all ?_
      refine .of ?_
      have : (es.map fun e => decide (gi ds e.1 + e.2.2 ≥ gi ds e.2.1)).all id = potB n es (.tup ds) := by
        simp only [potB, hl, ha, decide_true, Bool.true_and, List.all_map]
        rfl
      rw [this]
      exact q
  · rw [Bool.eq_false_iff.mpr hT]
    walk_at "run"
    refine .of ?_
    have : potB n es z = false := by
      cases z <;> first | rfl | skip
      rename_i ds
      have : ¬ ds.length = n := fun h => hT (decide_eq_true (by omega))
      simp [potB, this]
    rw [← this]
    exact q
theorem use_potentials {n : Nat} {es : List Ed} {z : D} {S : Sto} {Q : DK} (g : Gd z = true) (gt : GdT z) (bl : Below n es) (hn : n ≤ 100) (hel : es.length ≤ 1000) (q : Q (.bl (potB n es z)) S) : sp_is_potentials (iD n) (esD es) z S Q := ⟨n, es, rfl, rfl, g, gt, bl, hn, hel, q⟩
end L3

set_option Elab.async false
set_option maxRecDepth 100000
set_option linter.all false
set_option maxHeartbeats 4000000
namespace L3
open PySem L2 L3.KW
local macro_rules | `(tactic| walk_at "cond") => `(tactic| first | omega | (simp only [List.length_append, List.length_cons, List.length_nil, List.length_take, List.length_drop, List.length_map, List.length_reverse]; omega) | rfl | decide)
local macro_rules | `(tactic| walk_at "side") => `(tactic| first | assumption | omega | (simp only [List.length_append, List.length_cons, List.length_nil, List.length_take, List.length_drop, List.length_map, List.length_reverse, sizeLine_val]; omega) | decide)
local macro_rules | `(tactic| walk_at "st") => `(tactic| first
  | with_reducible refine st_ix0 ?_ | with_reducible refine st_ix1 ?_ | with_reducible refine st_ix2 ?_ | with_reducible refine st_ix3 ?_ | with_reducible refine st_ix4 ?_
  | with_reducible refine st_add_pp (by walk_at "side") ?_ | with_reducible refine st_add_p1 (by walk_at "side") ?_ | with_reducible refine st_add_1p (by walk_at "side") ?_
  | with_reducible refine st_add ?_ | with_reducible refine st_sub ?_ | with_reducible refine st_iadd ?_ | with_reducible refine st_neg ?_
  | with_reducible refine st_len_p ?_ | with_reducible refine st_len_lp ?_ | with_reducible refine st_len_rp ?_ | with_reducible refine st_len_t ?_ | with_reducible refine st_len_l ?_
  | with_reducible refine st_add_t (by walk_at "side") ?_ | with_reducible refine st_add_l (by walk_at "side") ?_ | with_reducible refine st_add_s (by walk_at "side") ?_
  | with_reducible refine st_tru_bl ?_ | with_reducible refine st_tru_int ?_ | with_reducible refine st_tru_tup ?_ | with_reducible refine st_tru_lst ?_ | with_reducible refine st_tru_non ?_
  | with_reducible refine st_at (by assumption) ?_ | with_reducible refine st_atl (by assumption) ?_
  | with_reducible refine st_iteT ?_ | with_reducible refine st_iteF ?_ | with_reducible refine st_not ?_
  | with_reducible refine st_lt ?_ | with_reducible refine st_le ?_ | with_reducible refine st_gt ?_ | with_reducible refine st_ge ?_ | with_reducible refine st_eqi ?_ | with_reducible refine st_nei ?_ | with_reducible refine st_eqs ?_ | with_reducible refine st_nes ?_ | with_reducible refine st_eqb ?_
  | with_reducible refine st_isn_non ?_ | with_reducible refine st_isn_int ?_ | with_reducible refine st_isn_tup ?_ | with_reducible refine st_isn_str ?_ | with_reducible refine st_isn_bl ?_
  | with_reducible refine st_isnt_non ?_ | with_reducible refine st_isnt_int ?_ | with_reducible refine st_isnt_tup ?_ | with_reducible refine st_isnt_str ?_
  | with_reducible refine st_int ?_ | with_reducible refine st_intb ?_ | with_reducible refine st_abs ?_ | with_reducible refine st_min2 ?_ | with_reducible refine st_max2 ?_
  | with_reducible refine st_tup_l ?_ | with_reducible refine st_tup_t ?_ | with_reducible refine st_lst_t ?_ | with_reducible refine st_lst_l ?_
  | with_reducible refine st_sl_from ?_ | with_reducible refine st_sl_to ?_
  | with_reducible refine st_lx0 ?_ | with_reducible refine st_lx1 ?_ | with_reducible refine st_lx2 ?_ | with_reducible refine st_lx3 ?_
  | with_reducible refine st_mod (by walk_at "side") ?_ | with_reducible refine st_div (by walk_at "side") ?_ | with_reducible refine st_mul (by walk_at "side") ?_ | with_reducible refine st_mul' (by walk_at "side") ?_
  | with_reducible refine st_isi rfl ?_
  | (with_reducible refine And.intro (Nat.le_of_ble_eq_true rfl) ?_)
  | (refine And.intro (rfl : (_ : Nat) = _) ?_)
  | with_reducible refine st_dT (by walk_at "cond") ?_ | with_reducible refine st_dF (by walk_at "cond") ?_)
local macro_rules | `(tactic| walk_at "hd") => `(tactic| (with_reducible conv => whnf))
local macro_rules | `(tactic| walk_at "run") => `(tactic| ((with_reducible conv => whnf); repeat (walk_at "st"; (with_reducible conv => whnf))))
/-! ### the law's own looks -/
theorem fm_zero {n : Nat} {o : Nat → Option D} : ((((List.range n).filterMap o).length : Nat) : Int) = 0 ↔ ∀ j, j < n → o j = none := by
  have h : ((((List.range n).filterMap o).length : Nat) : Int) = 0 ↔ (List.range n).filterMap o = [] := by
    rw [← List.length_eq_zero_iff]
    omega
  rw [h, List.filterMap_eq_nil_iff]
  exact ⟨fun h j hj => h j (List.mem_range.mpr hj), fun h j hj => h j (List.mem_range.mp hj)⟩
def sp_law_are_potentials (x y z : D) (S : Sto) (Q : DK) : Prop := ∃ n es, x = iD n ∧ y = esD es ∧ Gd z = true ∧ GdT z ∧ Below n es ∧ n ≤ 100 ∧ es.length ≤ 1000 ∧ Q (.bl (potB n es z)) S
-- _law_are_potentials : 0=many 1=edges 2=thing 3=one 4=other 5=weight
def rd_law_are_potentials : DTS :=
    (dSeq (dIf (dOr (dNot (dTest (dCB vIsi (dCons (dVar 2) (dCons (dC (.ty "tuple")) dNil))))) (dTest (dOp vNe (dCB vLen (dCons (dVar 2) dNil)) (dVar 0)))) (dRet (dC (.bl false))) dNext)
    (dSeq (dIf (dTest (dOp vGt (dCB vLen (dCons (dLc (iTupD (dVar 2)) (dTg (.nm 3)) (dOr (dNot (dTest (dCB vIsi (dCons (dVar 3) (dCons (dC (.ty "int")) dNil))))) (dTest (dCB vIsi (dCons (dVar 3) (dCons (dC (.ty "bool")) dNil))))) (dVar 3) [3]) dNil)) (dC (.int 0)))) (dRet (dC (.bl false))) dNext)
    (dRet (dOp vEq (dCB vLen (dCons (dLc (iTupD (dVar 1)) (dTg (.tp [3, 4, 5])) (dTest (dOp vLt (dOp vAdd (dVar 5) (dOp vIx (dVar 2) (dVar 3))) (dOp vIx (dVar 2) (dVar 4)))) (dC (.int 1)) [3, 4, 5]) dNil)) (dC (.int 0))))))
theorem rd_law_are_potentials_ok : ∀ ds S P, (a3 sp_law_are_potentials) ds S P → rd_law_are_potentials (DEnds.of P) (dstart ["many", "edges", "thing", "one", "other", "weight"] ds) S := by
  intro ds S P hsp
  rcases ds with _ | ⟨x, _ | ⟨y, _ | ⟨z, _ | ⟨w, ds⟩⟩⟩⟩ <;> first | exact (hsp : False).elim | skip
  obtain ⟨n, es, rfl, rfl, g, gt, bl, hn, hel, q⟩ := (hsp : sp_law_are_potentials x y z S P)
  unfold rd_law_are_potentials
  cases z <;> first | cases g | skip
  case cons.cons.cons.nil.tup.refl =>
    rename_i ds
    walk_at "run"
    by_cases hl : (ds.length : Int) = (n : Int)
    · rw [decide_eq_true hl]
      have hl' : ds.length = n := by omega
      walk_at "run"
      refine lcL_0 trivial (fun j => (ds[j]?).bind fun d => if isI d = true then none else some d) (by rw [sizeLine_v]; omega) (fun j d e P' N zz => ?_) ?_
      · have gd := gt d (List.mem_of_getElem? e)
        rw [e] at zz
        simp only [Option.bind_some] at zz
        cases d <;> first | cases gd | skip
        all_goals (walk_at "run"; exact zz)
      walk_at "run"
      by_cases ha : ds.all isI = true
      · have z0 : ((((List.range ds.length).filterMap fun j => (ds[j]?).bind fun d => if isI d = true then none else some d).length : Nat) : Int) = 0 := fm_zero.mpr fun j hj => by
          have h := List.getElem?_eq_getElem hj
          have := List.all_eq_true.mp ha _ (List.getElem_mem hj)
          rw [h]
          simp only [Option.bind_some, this, if_true]
        rw [z0]
        walk_at "run"
        refine lcL_0 trivial (fun j => (es[j]?).bind fun e => if e.2.2 + gi ds e.1 < gi ds e.2.1 then some (.int 1) else none) (by rw [List.length_map, sizeLine_v]; omega) (fun j d e P' N zz => ?_) ?_
        · rw [List.getElem?_map] at e
          obtain ⟨e', e1, rfl⟩ := Option.map_eq_some_iff.mp e
          rw [e1] at zz
          obtain ⟨h1, h2⟩ := bl e' (List.mem_of_getElem? e1)
          have g1 := gi_at hl' ha h1
          have g2 := gi_at hl' ha h2
          obtain ⟨a, b, w⟩ := e'
          simp only [Option.bind_some] at g1 g2 zz
          walk_at "run"
          by_cases hlt : w + gi ds a < gi ds b
          · rw [if_pos hlt] at zz
            walk_at "run"
            exact zz
          · rw [if_neg hlt] at zz
            walk_at "run"
            exact zz
        rw [List.length_map]
        walk_at "run"
        refine .of ?_
        have : decide (((((List.range es.length).filterMap fun j => (es[j]?).bind fun e => if e.2.2 + gi ds e.1 < gi ds e.2.1 then some (D.int 1) else none).length : Nat) : Int) = 0) = potB n es (.tup ds) := by
          have e : potB n es (.tup ds) = es.all fun e => decide (gi ds e.2.1 ≤ gi ds e.1 + e.2.2) := by simp [potB, hl', ha]
          rw [e, Bool.eq_iff_iff, decide_eq_true_eq, List.all_eq_true, fm_zero]
          constructor
          · intro h e he
            obtain ⟨j, hj⟩ := List.getElem?_of_mem he
            have := h j (List.getElem?_eq_some_iff.mp hj).1
            rw [hj] at this
            simp only [Option.bind_some] at this
            by_cases z : e.2.2 + gi ds e.1 < gi ds e.2.1
            · rw [if_pos z] at this; cases this
            · exact decide_eq_true (by omega)
          · intro h j hj
            have e1 := List.getElem?_eq_getElem hj
            have := of_decide_eq_true (h _ (List.getElem_mem hj))
            rw [e1]
            simp only [Option.bind_some]
            exact if_neg (by omega)
        rw [this]
        exact q
      · have z0 : ¬ ((((List.range ds.length).filterMap fun j => (ds[j]?).bind fun d => if isI d = true then none else some d).length : Nat) : Int) = 0 := fun z => by
          rw [fm_zero] at z
          refine ha (List.all_eq_true.mpr fun d hd => ?_)
          obtain ⟨j, hj⟩ := List.getElem?_of_mem hd
          have := z j (List.getElem?_eq_some_iff.mp hj).1
          rw [hj] at this
          simp only [Option.bind_some] at this
          by_cases w : isI d = true
          · exact w
          · rw [if_neg w] at this; cases this
        generalize ((List.range ds.length).filterMap fun j => (ds[j]?).bind fun d => if isI d = true then none else some d).length = N at z0
        rw [decide_eq_true (show (N : Int) > 0 by omega)]
        walk_at "run"
        refine .of ?_
        have : potB n es (.tup ds) = false := by simp [potB, Bool.eq_false_iff.mpr ha]
        rw [← this]
        exact q
    · rw [decide_eq_false hl]
      walk_at "run"
      refine .of ?_
      have h2 : ¬ ds.length = n := by omega
      have : potB n es (.tup ds) = false := by simp [potB, h2]
      rw [← this]
      exact q
  all_goals (walk_at "run"; exact .of q)
theorem use_are {n : Nat} {es : List Ed} {z : D} {S : Sto} {Q : DK} (g : Gd z = true) (gt : GdT z) (bl : Below n es) (hn : n ≤ 100) (hel : es.length ≤ 1000) (q : Q (.bl (potB n es z)) S) : sp_law_are_potentials (iD n) (esD es) z S Q := ⟨n, es, rfl, rfl, g, gt, bl, hn, hel, q⟩
def sp_law_bool (x y : D) (S : Sto) (Q : DK) : Prop := ∃ b, x = .bl b ∧ y = .bl b ∧ Q (.bl true) S
-- _law_bool : 0=told 1=due
def rd_law_bool : DTS :=
    (dRet (dAndV (dCB vIsi (dCons (dVar 0) (dCons (dC (.ty "bool")) dNil))) (dOp vEq (dVar 0) (dVar 1))))
theorem rd_law_bool_ok : ∀ ds S P, (a2 sp_law_bool) ds S P → rd_law_bool (DEnds.of P) (dstart ["told", "due"] ds) S := by
  intro ds S P hsp
  rcases ds with _ | ⟨x, _ | ⟨y, _ | ⟨z, ds⟩⟩⟩ <;> first | exact (hsp : False).elim | skip
  obtain ⟨b, rfl, rfl, q⟩ := (hsp : sp_law_bool x y S P)
  unfold rd_law_bool
  walk_at "run"
  try rw [decide_eq_true rfl]
  exact .of q
theorem use_bool {b c : Bool} {S : Sto} {Q : DK} (h : b = c) (q : Q (.bl true) S) : sp_law_bool (.bl b) (.bl c) S Q := ⟨b, rfl, by rw [h], q⟩
def sp_law_same (x y : D) (S : Sto) (Q : DK) : Prop := ∃ l : List (Option Int), x = .tup (l.map oI) ∧ y = .tup (l.map oI) ∧ l.length ≤ 1000 ∧ Q (.bl true) S
-- _law_same : 0=told 1=due 2=k
def rd_law_same : DTS :=
    (dSeq (dIf (dOr (dNot (dTest (dCB vIsi (dCons (dVar 0) (dCons (dC (.ty "tuple")) dNil))))) (dTest (dOp vNe (dCB vLen (dCons (dVar 0) dNil)) (dCB vLen (dCons (dVar 1) dNil))))) (dRet (dC (.bl false))) dNext)
    (dSeq (dFor (iRange1 (dCB vLen (dCons (dVar 1) dNil))) (dTg (.nm 2)) (dIf (dTest (dOp vIs (dOp vIx (dVar 1) (dVar 2)) (dC .non))) (dIf (dTest (dOp vIsNot (dOp vIx (dVar 0) (dVar 2)) (dC .non))) (dRet (dC (.bl false))) dNext) (dIf (dOr (dNot (dTest (dCB vIsi (dCons (dOp vIx (dVar 0) (dVar 2)) (dCons (dC (.ty "int")) dNil))))) (dOr (dTest (dCB vIsi (dCons (dOp vIx (dVar 0) (dVar 2)) (dCons (dC (.ty "bool")) dNil)))) (dTest (dOp vNe (dOp vIx (dVar 0) (dVar 2)) (dOp vIx (dVar 1) (dVar 2)))))) (dRet (dC (.bl false))) dNext)))
    (dRet (dC (.bl true)))))
theorem rd_law_same_ok : ∀ ds S P, (a2 sp_law_same) ds S P → rd_law_same (DEnds.of P) (dstart ["told", "due", "k"] ds) S := by
  intro ds S P hsp
  rcases ds with _ | ⟨x, _ | ⟨y, _ | ⟨z, ds⟩⟩⟩ <;> first | exact (hsp : False).elim | skip
  obtain ⟨l, rfl, rfl, hl, q⟩ := (hsp : sp_law_same x y S P)
  unfold rd_law_same
  walk_at "run"
  rw [List.length_map]
  refine ⟨by omega, by omega, ?_⟩
  rw [Int.toNat_natCast]
  refine forL_inv (fun i δ S' => S = S' ∧ ∃ x2, δ = [some (.tup (l.map oI)), some (.tup (l.map oI)), x2]) (fun _ _ _ _ => True.intro) _ 0 _ _ ⟨rfl, none, rfl⟩ ?_ ?_
  · rintro j d _ _ hj ⟨rfl, x2, rfl⟩ D2 hrt _ hnx _
    obtain ⟨hjl, rfl⟩ := rng_at hj
    have g : (l.map oI)[j]? = some (oI l[j]) := by rw [List.getElem?_map, List.getElem?_eq_getElem hjl]; rfl
    walk_at "run"
    cases e : l[j] with
    | none =>
      rw [e] at g
      simp only [oI]
      walk_at "run"
      exact hnx _ _ ⟨rfl, _, rfl⟩
    | some i =>
      rw [e] at g
      have g2 : (l.map oI)[j]? = some (.int i) := g
      clear g
      simp only [oI]
      walk_at "run"
      exact hnx _ _ ⟨rfl, _, rfl⟩
  · rintro _ _ ⟨rfl, x2, rfl⟩
    walk_at "run"
    exact .of q
theorem use_same {l : List (Option Int)} {S : Sto} {Q : DK} (hl : l.length ≤ 1000) (q : Q (.bl true) S) : sp_law_same (.tup (l.map oI)) (.tup (l.map oI)) S Q := ⟨l, rfl, rfl, hl, q⟩
end L3

set_option Elab.async false
set_option maxRecDepth 100000
set_option linter.all false
set_option maxHeartbeats 4000000
namespace L3
open PySem L2 L3.KW
local macro_rules | `(tactic| walk_at "cond") => `(tactic| first | omega | (simp only [List.length_append, List.length_cons, List.length_nil, List.length_take, List.length_drop, List.length_map, List.length_reverse]; omega) | rfl | decide)
local macro_rules | `(tactic| walk_at "side") => `(tactic| first | assumption | omega | (simp only [List.length_append, List.length_cons, List.length_nil, List.length_take, List.length_drop, List.length_map, List.length_reverse, sizeLine_val]; omega) | decide)
local macro_rules | `(tactic| walk_at "st") => `(tactic| first
  | with_reducible refine st_ix0 ?_ | with_reducible refine st_ix1 ?_ | with_reducible refine st_ix2 ?_ | with_reducible refine st_ix3 ?_ | with_reducible refine st_ix4 ?_
  | with_reducible refine st_add_pp (by walk_at "side") ?_ | with_reducible refine st_add_p1 (by walk_at "side") ?_ | with_reducible refine st_add_1p (by walk_at "side") ?_
  | with_reducible refine st_add ?_ | with_reducible refine st_sub ?_ | with_reducible refine st_iadd ?_ | with_reducible refine st_neg ?_
  | with_reducible refine st_len_p ?_ | with_reducible refine st_len_lp ?_ | with_reducible refine st_len_rp ?_ | with_reducible refine st_len_t ?_ | with_reducible refine st_len_l ?_
  | with_reducible refine st_add_t (by walk_at "side") ?_ | with_reducible refine st_add_l (by walk_at "side") ?_ | with_reducible refine st_add_s (by walk_at "side") ?_
  | with_reducible refine st_tru_bl ?_ | with_reducible refine st_tru_int ?_ | with_reducible refine st_tru_tup ?_ | with_reducible refine st_tru_lst ?_ | with_reducible refine st_tru_non ?_
  | with_reducible refine st_at (by assumption) ?_ | with_reducible refine st_atl (by assumption) ?_
  | with_reducible refine st_iteT ?_ | with_reducible refine st_iteF ?_ | with_reducible refine st_not ?_
  | with_reducible refine st_lt ?_ | with_reducible refine st_le ?_ | with_reducible refine st_gt ?_ | with_reducible refine st_ge ?_ | with_reducible refine st_eqi ?_ | with_reducible refine st_nei ?_ | with_reducible refine st_eqs ?_ | with_reducible refine st_nes ?_ | with_reducible refine st_eqb ?_
  | with_reducible refine st_isn_non ?_ | with_reducible refine st_isn_int ?_ | with_reducible refine st_isn_tup ?_ | with_reducible refine st_isn_str ?_ | with_reducible refine st_isn_bl ?_
  | with_reducible refine st_isnt_non ?_ | with_reducible refine st_isnt_int ?_ | with_reducible refine st_isnt_tup ?_ | with_reducible refine st_isnt_str ?_
  | with_reducible refine st_int ?_ | with_reducible refine st_intb ?_ | with_reducible refine st_abs ?_ | with_reducible refine st_min2 ?_ | with_reducible refine st_max2 ?_
  | with_reducible refine st_tup_l ?_ | with_reducible refine st_tup_t ?_ | with_reducible refine st_lst_t ?_ | with_reducible refine st_lst_l ?_
  | with_reducible refine st_sl_from ?_ | with_reducible refine st_sl_to ?_
  | with_reducible refine st_lx0 ?_ | with_reducible refine st_lx1 ?_ | with_reducible refine st_lx2 ?_ | with_reducible refine st_lx3 ?_
  | with_reducible refine st_mod (by walk_at "side") ?_ | with_reducible refine st_div (by walk_at "side") ?_ | with_reducible refine st_mul (by walk_at "side") ?_ | with_reducible refine st_mul' (by walk_at "side") ?_
  | with_reducible refine st_isi rfl ?_
  | (with_reducible refine And.intro (Nat.le_of_ble_eq_true rfl) ?_)
  | (refine And.intro (rfl : (_ : Nat) = _) ?_)
  | with_reducible refine st_dT (by walk_at "cond") ?_ | with_reducible refine st_dF (by walk_at "cond") ?_)
local macro_rules | `(tactic| walk_at "hd") => `(tactic| (with_reducible conv => whnf))
local macro_rules | `(tactic| walk_at "run") => `(tactic| ((with_reducible conv => whnf); repeat (walk_at "st"; (with_reducible conv => whnf))))
/-! ### the law's look at a round -/
theorem len_le : ∀ {a b : List Int}, a.Nodup → (∀ k ∈ a, k ∈ b) → a.length ≤ b.length
  | [], _, _, _ => Nat.zero_le _
  | x :: a, b, hn, h => by
    obtain ⟨h1, h2⟩ := List.nodup_cons.mp hn
    have hx := h x List.mem_cons_self
    have ih := len_le (b := b.erase x) h2 fun k hk => (List.mem_erase_of_ne fun z => by subst z; exact h1 hk).mpr (h k (List.mem_cons_of_mem _ hk))
    rw [List.length_erase_of_mem hx] at ih
    have := List.length_pos_of_mem hx
    rw [List.length_cons]
    omega
theorem ints_iD (l : List Nat) : (l.map iD) = (l.map fun n : Nat => (n : Int)).map .int := by rw [List.map_map]; rfl
theorem st_prev {ds : List D} {k : Nat} {d : D} {S : Sto} {Q : DK} (e : ds[if k = 0 then ds.length - 1 else k - 1]? = some d) (h : Q d S) : vIx (.tup ds) (.int ((k : Int) - 1)) S Q := by
  have hl : 0 < ds.length := by have := (List.getElem?_eq_some_iff.mp e).1; omega
  have a : atI ds ((k : Int) - 1) = some d := by
    by_cases z : k = 0
    · subst z
      rw [if_pos rfl] at e
      unfold atI ixN
      rw [if_neg (by omega), if_pos (by omega)]
      show (ds[(((0 : Nat) : Int) - 1 + ds.length).toNat]?) = some d
      rw [show (((0 : Nat) : Int) - 1 + (ds.length : Int)).toNat = ds.length - 1 by omega]
      exact e
    · rw [if_neg z] at e
      rw [show (k : Int) - 1 = ((k - 1 : Nat) : Int) by omega, atI_nat]
      exact e
  simp only [vIx, a]
  exact h
theorem asI_nat (res : List Nat) : asInts (res.map iD) = some (res.map fun n : Nat => (n : Int)) := by rw [ints_iD, asInts_map]
theorem out_len {res : List Nat} {out : List Int} (nd : res.Nodup) (on : out.Nodup) (om : ∀ k, k ∈ out ↔ k ∈ res.map fun n : Nat => (n : Int)) : out.length = res.length := by
  have nd2 : (res.map fun n : Nat => (n : Int)).Nodup := List.pairwise_map.mpr (nd.imp fun {a b} hab z => hab (by omega))
  have h1 := len_le on fun k hk => (om k).mp hk
  have h2 := len_le nd2 fun k hk => (om k).mpr hk
  rw [List.length_map] at h1 h2
  omega
theorem st_sumL {l : List Int} {S : Sto} {Q : DK} (h : Q (.int l.sum) S) : vSum [.lst (l.map .int)] S Q := by
  show match (seqOf S (.lst (l.map .int))).bind asInts with | some bs => Q (.int bs.sum) S | none => False
  simp only [seqOf_lst, Option.bind_some, asInts_map]
  exact h
def sp_law_is_falling (x y : D) (S : Sto) (Q : DK) : Prop := ∃ es res, x = esD es ∧ y = .tup (res.map iD) ∧ FallR es res ∧ es.length ≤ 1000 ∧ Q (.bl true) S
-- _law_is_falling : 0=edges 1=thing 2=at 3=k
def rd_law_is_falling : DTS :=
    (dSeq (dIf (dOr (dNot (dTest (dCB vIsi (dCons (dVar 1) (dCons (dC (.ty "tuple")) dNil))))) (dOr (dTest (dOp vEq (dCB vLen (dCons (dVar 1) dNil)) (dC (.int 0)))) (dTest (dOp vGt (dCB vLen (dCons (dVar 1) dNil)) (dCB vLen (dCons (dVar 0) dNil)))))) (dRet (dC (.bl false))) dNext)
    (dSeq (dIf (dTest (dOp vGt (dCB vLen (dCons (dLc (iTupD (dVar 1)) (dTg (.nm 2)) (dOr (dNot (dTest (dCB vIsi (dCons (dVar 2) (dCons (dC (.ty "int")) dNil))))) (dOr (dTest (dCB vIsi (dCons (dVar 2) (dCons (dC (.ty "bool")) dNil)))) (dNot (dTest (dChain vLe vLt (dC (.int 0)) (dVar 2) (dCB vLen (dCons (dVar 0) dNil))))))) (dVar 2) [2]) dNil)) (dC (.int 0)))) (dRet (dC (.bl false))) dNext)
    (dSeq (dIf (dTest (dOp vLt (dLenSet (dVar 1)) (dCB vLen (dCons (dVar 1) dNil)))) (dRet (dC (.bl false))) dNext)
    (dSeq (dFor (iRange1 (dCB vLen (dCons (dVar 1) dNil))) (dTg (.nm 3)) (dIf (dTest (dOp vNe (dOp vIx (dOp vIx (dVar 0) (dOp vIx (dVar 1) (dOp vSub (dVar 3) (dC (.int 1))))) (dC (.int 1))) (dOp vIx (dOp vIx (dVar 0) (dOp vIx (dVar 1) (dVar 3))) (dC (.int 0))))) (dRet (dC (.bl false))) dNext))
    (dRet (dOp vLt (dCB vSum (dCons (dLc (iTupD (dVar 1)) (dTg (.nm 2)) dYes (dOp vIx (dOp vIx (dVar 0) (dVar 2)) (dC (.int 2))) [2]) dNil)) (dC (.int 0))))))))
theorem rd_law_is_falling_ok : ∀ ds S P, (a2 sp_law_is_falling) ds S P → rd_law_is_falling (DEnds.of P) (dstart ["edges", "thing", "at", "k"] ds) S := by
  intro ds S P hsp
  rcases ds with _ | ⟨x, _ | ⟨y, _ | ⟨z, ds⟩⟩⟩ <;> first | exact (hsp : False).elim | skip
  obtain ⟨es, res, rfl, rfl, fr, hel, q⟩ := (hsp : sp_law_is_falling x y S P)
  unfold rd_law_is_falling
  have hrl : res.length ≤ es.length := KW.nodup_le es.length fr.nd fr.lt
  have hpos := fr.pos
  walk_at "run"
  refine lcL_0 trivial (fun j => none) (by rw [List.length_map, sizeLine_v]; omega) (fun j d e P' N zz => ?_) ?_
  · rw [List.getElem?_map] at e
    obtain ⟨p, e1, rfl⟩ := Option.map_eq_some_iff.mp e
    have hp := fr.lt p (List.mem_of_getElem? e1)
    walk_at "run"
    exact zz
  rw [show (List.range (res.map iD).length).filterMap (fun _ => (none : Option D)) = [] from List.filterMap_eq_nil_iff.mpr fun _ _ => rfl]
  walk_at "run"
  rw [asI_nat]
  refine ⟨by rw [List.length_map]; omega, fun out on om => ?_⟩
  rw [out_len fr.nd on om]
  walk_at "run"
  rw [List.length_map]
  refine ⟨by omega, by omega, ?_⟩
  rw [Int.toNat_natCast]
  refine forL_inv (fun i δ S' => S = S' ∧ ∃ x2 x3, δ = [some (esD es), some (.tup (res.map iD)), x2, x3]) (fun _ _ _ _ => True.intro) _ 0 _ _ ⟨rfl, none, none, rfl⟩ ?_ ?_
  · rintro k d _ _ hj ⟨rfl, x2, x3, rfl⟩ D2 hrt _ hnx _
    obtain ⟨hk, rfl⟩ := rng_at hj
    have e1 := List.getElem?_eq_getElem hk
    have hk2 : (if k = 0 then res.length - 1 else k - 1) < res.length := by split <;> omega
    have e2 := List.getElem?_eq_getElem hk2
    obtain ⟨e, e', g1, g2, g3⟩ := fr.con k _ _ e1 e2
    generalize res[k] = p at e1 g1
    generalize res[if k = 0 then res.length - 1 else k - 1] = p' at e2 g2
    have f1 : (res.map iD)[k]? = some (iD p) := by rw [List.getElem?_map, e1]; rfl
    have f2 : (res.map iD)[if k = 0 then (res.map iD).length - 1 else k - 1]? = some (iD p') := by rw [List.getElem?_map, List.length_map, e2]; rfl
    have k1 : (es.map edD)[p]? = some (edD e) := by rw [List.getElem?_map, g1]; rfl
    have k2 : (es.map edD)[p']? = some (edD e') := by rw [List.getElem?_map, g2]; rfl
    walk_at "run"
    refine st_prev f2 ?_
    walk_at "run"
    exact hnx _ _ ⟨rfl, _, _, rfl⟩
  · rintro _ _ ⟨rfl, x2, x3, rfl⟩
    walk_at "run"
    refine lcL_0 trivial (fun j => (res[j]?).map fun p => .int (wt es p)) (by rw [List.length_map, sizeLine_v]; omega) (fun j d e P' N zz => ?_) ?_
    · rw [List.getElem?_map] at e
      obtain ⟨p, e1, rfl⟩ := Option.map_eq_some_iff.mp e
      have hp := fr.lt p (List.mem_of_getElem? e1)
      rw [e1] at zz
      have g1 := List.getElem?_eq_getElem hp
      have hw : wt es p = es[p].2.2 := by unfold wt; rw [g1]
      simp only [Option.map_some, hw] at zz
      generalize es[p] = e' at g1 zz
      have k1 : (es.map edD)[p]? = some (edD e') := by rw [List.getElem?_map, g1]; rfl
      walk_at "run"
      exact zz
    rw [List.length_map, fm_list, show (res.map fun p => D.int (wt es p)) = (res.map (wt es)).map .int by rw [List.map_map]; rfl]
    refine st_sumL ?_
    walk_at "run"
    rw [decide_eq_true fr.sum]
    exact .of q
theorem use_is_falling {es : List Ed} {res : List Nat} {S : Sto} {Q : DK} (fr : FallR es res) (hel : es.length ≤ 1000) (q : Q (.bl true) S) : sp_law_is_falling (esD es) (.tup (res.map iD)) S Q := ⟨es, res, rfl, rfl, fr, hel, q⟩
end L3

set_option Elab.async false
set_option maxRecDepth 100000
set_option linter.all false
set_option maxHeartbeats 4000000
namespace L3
open PySem L2 L3.KW
local macro_rules | `(tactic| walk_at "cond") => `(tactic| first | omega | (simp only [List.length_append, List.length_cons, List.length_nil, List.length_take, List.length_drop, List.length_map, List.length_reverse]; omega) | rfl | decide)
local macro_rules | `(tactic| walk_at "side") => `(tactic| first | assumption | omega | (simp only [List.length_append, List.length_cons, List.length_nil, List.length_take, List.length_drop, List.length_map, List.length_reverse, sizeLine_val]; omega) | decide)
local macro_rules | `(tactic| walk_at "st") => `(tactic| first
  | with_reducible refine st_ix0 ?_ | with_reducible refine st_ix1 ?_ | with_reducible refine st_ix2 ?_ | with_reducible refine st_ix3 ?_ | with_reducible refine st_ix4 ?_
  | with_reducible refine st_add_pp (by walk_at "side") ?_ | with_reducible refine st_add_p1 (by walk_at "side") ?_ | with_reducible refine st_add_1p (by walk_at "side") ?_
  | with_reducible refine st_add ?_ | with_reducible refine st_sub ?_ | with_reducible refine st_iadd ?_ | with_reducible refine st_neg ?_
  | with_reducible refine st_len_p ?_ | with_reducible refine st_len_lp ?_ | with_reducible refine st_len_rp ?_ | with_reducible refine st_len_t ?_ | with_reducible refine st_len_l ?_
  | with_reducible refine st_add_t (by walk_at "side") ?_ | with_reducible refine st_add_l (by walk_at "side") ?_ | with_reducible refine st_add_s (by walk_at "side") ?_
  | with_reducible refine st_tru_bl ?_ | with_reducible refine st_tru_int ?_ | with_reducible refine st_tru_tup ?_ | with_reducible refine st_tru_lst ?_ | with_reducible refine st_tru_non ?_
  | with_reducible refine st_at (by assumption) ?_ | with_reducible refine st_atl (by assumption) ?_
  | with_reducible refine st_iteT ?_ | with_reducible refine st_iteF ?_ | with_reducible refine st_not ?_
  | with_reducible refine st_lt ?_ | with_reducible refine st_le ?_ | with_reducible refine st_gt ?_ | with_reducible refine st_ge ?_ | with_reducible refine st_eqi ?_ | with_reducible refine st_nei ?_ | with_reducible refine st_eqs ?_ | with_reducible refine st_nes ?_ | with_reducible refine st_eqb ?_
  | with_reducible refine st_isn_non ?_ | with_reducible refine st_isn_int ?_ | with_reducible refine st_isn_tup ?_ | with_reducible refine st_isn_str ?_ | with_reducible refine st_isn_bl ?_
  | with_reducible refine st_isnt_non ?_ | with_reducible refine st_isnt_int ?_ | with_reducible refine st_isnt_tup ?_ | with_reducible refine st_isnt_str ?_
  | with_reducible refine st_int ?_ | with_reducible refine st_intb ?_ | with_reducible refine st_abs ?_ | with_reducible refine st_min2 ?_ | with_reducible refine st_max2 ?_
  | with_reducible refine st_tup_l ?_ | with_reducible refine st_tup_t ?_ | with_reducible refine st_lst_t ?_ | with_reducible refine st_lst_l ?_
  | with_reducible refine st_sl_from ?_ | with_reducible refine st_sl_to ?_
  | with_reducible refine st_lx0 ?_ | with_reducible refine st_lx1 ?_ | with_reducible refine st_lx2 ?_ | with_reducible refine st_lx3 ?_
  | with_reducible refine st_mod (by walk_at "side") ?_ | with_reducible refine st_div (by walk_at "side") ?_ | with_reducible refine st_mul (by walk_at "side") ?_ | with_reducible refine st_mul' (by walk_at "side") ?_
  | with_reducible refine st_isi rfl ?_
  | (with_reducible refine And.intro (Nat.le_of_ble_eq_true rfl) ?_)
  | (refine And.intro (rfl : (_ : Nat) = _) ?_)
  | with_reducible refine st_dT (by walk_at "cond") ?_ | with_reducible refine st_dF (by walk_at "cond") ?_)
local macro_rules | `(tactic| walk_at "hd") => `(tactic| (with_reducible conv => whnf))
local macro_rules | `(tactic| walk_at "run") => `(tactic| ((with_reducible conv => whnf); repeat (walk_at "st"; (with_reducible conv => whnf))))
/-! ### the numbers that are drawn -/
structure Sk (S : Sto) (a g l : Addr) : Prop where
  ag : a ≠ g
  al : a ≠ l
  gl : g ≠ l
  a_ : ∃ m k : Int, S a = some (.lst [.ref g, .int m, .int k, .ref l])
  g_ : ∃ ns : List Int, S g = some (.lst (ns.map .int)) ∧ ns.length ≤ 51
  l_ : ∃ ls : List Int, S l = some (.lst (ls.map .int)) ∧ ls.length = 8
theorem Sk.na {S : Sto} {a g l p : Addr} (k : Sk S a g l) (hp : S p = none) : p ≠ a := fun z => by obtain ⟨m, n, e⟩ := k.a_; subst z; rw [hp] at e; cases e
theorem Sk.ng {S : Sto} {a g l p : Addr} (k : Sk S a g l) (hp : S p = none) : p ≠ g := fun z => by obtain ⟨n, e, _⟩ := k.g_; subst z; rw [hp] at e; cases e
theorem Sk.nl {S : Sto} {a g l p : Addr} (k : Sk S a g l) (hp : S p = none) : p ≠ l := fun z => by obtain ⟨n, e, _⟩ := k.l_; subst z; rw [hp] at e; cases e
theorem Sk.sup {S : Sto} {a g l p : Addr} {o : SO} (k : Sk S a g l) (h1 : p ≠ a) (h2 : p ≠ g) (h3 : p ≠ l) : Sk (L3.sup S p o) a g l :=
  ⟨k.ag, k.al, k.gl, by rw [sup_ne (Ne.symm h1)]; exact k.a_, by rw [sup_ne (Ne.symm h2)]; exact k.g_, by rw [sup_ne (Ne.symm h3)]; exact k.l_⟩
theorem st_tru_r {A : Addr} {ds : List D} {S : Sto} {Q : Bool → Sto → Prop} (e : S A = some (.lst ds)) (h : Q (!ds.isEmpty) S) : vTru (.ref A) S Q := by
  simp only [vTru, e]
  exact h
def sp_law_load (x y z : D) (S : Sto) (Q : DK) : Prop := ∃ (a g l : Addr) (k : Nat) (n : Int), x = .ref a ∧ y = iD k ∧ z = .int n ∧ k < 8 ∧ 0 < n ∧ n < 1073741824 ∧ Sk S a g l ∧ ∀ r S', 0 ≤ r → r < n → Sk S' a g l → (∀ b, b ≠ a → b ≠ g → S' b = S b) → Q (.int r) S'
-- _law_load : 0=scale 1=place 2=many 3=size 4=lean
def rd_law_load : DTS :=
    (dSeq (dAsg (dOp vAdd (dOp vIx (dVar 0) (dC (.int 2))) (dC (.int 1))) (dgSub (dVar 0) (dC (.int 2))))
    (dSeq (dIf (dTru (dOp vIx (dVar 0) (dC (.int 0)))) (dSeq (dAsg (dCB vInt (dCons (dLM vPop (dOp vIx (dVar 0) (dC (.int 0))) dNil) dNil)) (dTg (.nm 3)))
    (dSeq (dIf (dTest (dOp vGe (dVar 3) (dVar 2))) (dDrop (dLM vAppend (dOp vIx (dVar 0) (dC (.int 0))) (dCons (dOp vDiv (dVar 3) (dVar 2)) dNil))) dNext)
    (dRet (dOp vMod (dVar 3) (dVar 2))))) dNext)
    (dSeq (dAsg (dOp vMod (dCB vInt (dCons (dOp vAdd (dOp vAdd (dOp vMul (dOp vIx (dVar 0) (dC (.int 1))) (dC (.int 24001))) (dOp vMul (dOp vIx (dVar 0) (dC (.int 2))) (dC (.int 167)))) (dVar 1)) dNil)) (dC (.int 2147482873))) (dgSub (dVar 0) (dC (.int 1))))
    (dSeq (dAsg (dOp vIx (dOp vIx (dVar 0) (dC (.int 3))) (dVar 1)) (dTg (.nm 4)))
    (dSeq (dIf (dTest (dOp vLt (dVar 4) (dC (.int 4)))) (dRet (dC (.int 0))) dNext)
    (dSeq (dIf (dTest (dOp vLt (dVar 4) (dC (.int 8)))) (dRet (dOp vSub (dVar 2) (dC (.int 1)))) dNext)
    (dSeq (dIf (dTest (dOp vLt (dVar 4) (dC (.int 12)))) (dRet (dOp vMod (dCB vInt (dCons (dOp vAdd (dOp vMul (dVar 4) (dC (.int 6))) (dC (.int 1))) dNil)) (dVar 2))) dNext)
    (dRet (dOp vMod (dCB vInt (dCons (dOp vDiv (dOp vIx (dVar 0) (dC (.int 1))) (dC (.int 401))) dNil)) (dVar 2))))))))))
theorem rd_law_load_ok : ∀ ds S P, (a3 sp_law_load) ds S P → rd_law_load (DEnds.of P) (dstart ["scale", "place", "many", "size", "lean"] ds) S := by
  intro ds S P hsp
  rcases ds with _ | ⟨x, _ | ⟨y, _ | ⟨z, _ | ⟨w, ds⟩⟩⟩⟩ <;> first | exact (hsp : False).elim | skip
  obtain ⟨a, g, l, pk, n, rfl, rfl, rfl, hpk, n0, n1, sk, q⟩ := (hsp : sp_law_load x y z S P)
  obtain ⟨ag, al, gl, ⟨m, k, ea⟩, ⟨ns, eg, hns⟩, ⟨ls, el, hl8⟩⟩ := sk
  unfold rd_law_load
  walk_at "run"
  refine st_atr (k := 2) ea (d := .int k) rfl ?_
  walk_at "run"
  refine st_setr (b := 2) ea (show 2 < 4 by decide) ?_
  walk_at "run"
  refine st_atr (k := 0) sup_same (d := .ref g) rfl ?_
  have eg2 : ∀ u, L3.sup S a u g = some (.lst (ns.map .int)) := fun u => by rw [sup_ne (Ne.symm ag)]; exact eg
  refine st_tru_r (eg2 _) ?_
  have done : ∀ (x : Int) (m' k' : Int) (ns' : List Int), ns'.length ≤ 51 → P (.int (x % n)) (L3.sup (L3.sup S a (.lst [.ref g, .int m', .int k', .ref l])) g (.lst (ns'.map .int))) := fun x m' k' ns' hn' =>
    q _ _ (Int.emod_nonneg _ (by omega)) (Int.emod_lt_of_pos _ n0) ⟨ag, al, gl, ⟨m', k', by rw [sup_ne ag, sup_same]⟩, ⟨ns', sup_same, hn'⟩, ⟨ls, by rw [sup_ne (Ne.symm gl), sup_ne (Ne.symm al)]; exact el, hl8⟩⟩ fun b h1 h2 => by rw [sup_ne h2, sup_ne h1]
  have fin : ∀ (r : Int) (m' k' : Int), 0 ≤ r → r < n → P (.int r) (L3.sup S a (.lst [.ref g, .int m', .int k', .ref l])) := fun r m' k' r0 r1 =>
    q _ _ r0 r1 ⟨ag, al, gl, ⟨m', k', sup_same⟩, ⟨ns, eg2 _, hns⟩, ⟨ls, by rw [sup_ne (Ne.symm al)]; exact el, hl8⟩⟩ fun b h1 h2 => sup_ne h1
  rcases List.eq_nil_or_concat ns with hnil | ⟨r, e, hcat⟩
  · rw [hnil, show (!(([] : List Int).map D.int).isEmpty) = false from rfl]
    walk_at "run"
    refine st_atr (k := 1) sup_same (d := .int m) rfl ?_
    walk_at "run"
    refine st_atr (k := 2) sup_same (d := .int (k + 1)) rfl ?_
    walk_at "run"
    refine st_setr (b := 1) sup_same (show 1 < 4 by decide) ?_
    rw [sup_sup]
    walk_at "run"
    refine st_atr (k := 3) sup_same (d := .ref l) rfl ?_
    have hls : pk < ls.length := by omega
    refine st_atr (k := pk) (ds := ls.map .int) (d := .int ls[pk]) (by rw [sup_ne (Ne.symm al)]; exact el) (by rw [List.getElem?_map, List.getElem?_eq_getElem hls]; rfl) ?_
    generalize ls[pk] = v
    walk_at "run"
    have sh := fun (r : Int) (m' k' : Int) (r0 : 0 ≤ r) (r1 : r < n) => fin r m' k' r0 r1
    by_cases v4 : v < 4
    · rw [decide_eq_true v4]
      walk_at "run"
      exact .of (fin 0 _ _ (by omega) (by omega))
    · rw [decide_eq_false v4]
      walk_at "run"
      by_cases v8 : v < 8
      · rw [decide_eq_true v8]
        walk_at "run"
        exact .of (fin _ _ _ (by omega) (by omega))
      · rw [decide_eq_false v8]
        walk_at "run"
        by_cases v12 : v < 12
        · rw [decide_eq_true v12]
          walk_at "run"
          exact .of (fin _ _ _ (Int.emod_nonneg _ (by omega)) (Int.emod_lt_of_pos _ n0))
        · rw [decide_eq_false v12]
          walk_at "run"
          refine st_atr (k := 1) sup_same rfl ?_
          walk_at "run"
          exact .of (fin _ _ _ (Int.emod_nonneg _ (by omega)) (Int.emod_lt_of_pos _ n0))
  · rw [show (!(ns.map D.int).isEmpty) = true by rw [hcat]; simp]
    walk_at "run"
    refine st_atr (k := 0) sup_same (d := .ref g) rfl ?_
    walk_at "run"
    rw [isSeq_ref]
    refine ⟨⟨_, eg2 _⟩, ?_⟩
    walk_at "run"
    have pop : ∀ {S0 : Sto} {Q : DK}, S0 g = some (.lst (ns.map .int)) → Q (.int e) (L3.sup S0 g (.lst (r.map .int))) → vPop (.ref g) [] S0 Q := fun {S0 Q} h1 h2 => by
      have e1 : (ns.map D.int)[(ns.map D.int).length - 1]? = some (.int e) := by rw [hcat]; simp
      have e2 : (ns.map D.int).dropLast = r.map .int := by rw [hcat]; simp
      simp only [vPop, h1, e1, e2]
      exact h2
    refine pop (eg2 _) ?_
    walk_at "run"
    by_cases he : e ≥ n
    · rw [decide_eq_true he]
      walk_at "run"
      refine st_atr (k := 0) (by rw [sup_ne ag]; exact sup_same) (d := .ref g) rfl ?_
      walk_at "run"
      rw [isSeq_ref]
      refine ⟨⟨_, sup_same⟩, ?_⟩
      walk_at "run"
      have hr : r.length + 1 ≤ 51 := by rw [hcat, List.length_concat] at hns; omega
      refine st_append sup_same (by rw [List.length_map, sizeLine_v]; omega) ?_
      walk_at "run"
      rw [sup_sup, show r.map D.int ++ [D.int (e / n)] = (r ++ [e / n]).map .int by rw [List.map_append]; rfl]
      exact .of (done e _ _ _ (by rw [List.length_append]; simpa using hr))
    · rw [decide_eq_false he]
      walk_at "run"
      exact .of (done e _ _ r (by rw [hcat, List.length_concat] at hns; omega))
theorem use_load {a g l : Addr} {k : Nat} {n : Int} {S : Sto} {Q : DK} (sk : Sk S a g l) (hk : k < 8) (hn : 0 < n ∧ n < 1073741824) (q : ∀ r S', 0 ≤ r → r < n → Sk S' a g l → (∀ b, b ≠ a → b ≠ g → S' b = S b) → Q (.int r) S') : sp_law_load (.ref a) (iD k) (.int n) S Q := ⟨a, g, l, k, n, rfl, rfl, rfl, hk, hn.1, hn.2, sk, q⟩
end L3

set_option Elab.async false
set_option maxRecDepth 100000
set_option linter.all false
set_option maxHeartbeats 4000000
namespace L3
open PySem L2 L3.KW
local macro_rules | `(tactic| walk_at "cond") => `(tactic| first | omega | (simp only [List.length_append, List.length_cons, List.length_nil, List.length_take, List.length_drop, List.length_map, List.length_reverse]; omega) | rfl | decide)
local macro_rules | `(tactic| walk_at "side") => `(tactic| first | assumption | omega | (simp only [List.length_append, List.length_cons, List.length_nil, List.length_take, List.length_drop, List.length_map, List.length_reverse, sizeLine_val]; omega) | decide)
local macro_rules | `(tactic| walk_at "st") => `(tactic| first
  | with_reducible refine st_ix0 ?_ | with_reducible refine st_ix1 ?_ | with_reducible refine st_ix2 ?_ | with_reducible refine st_ix3 ?_ | with_reducible refine st_ix4 ?_
  | with_reducible refine st_add_pp (by walk_at "side") ?_ | with_reducible refine st_add_p1 (by walk_at "side") ?_ | with_reducible refine st_add_1p (by walk_at "side") ?_
  | with_reducible refine st_add ?_ | with_reducible refine st_sub ?_ | with_reducible refine st_iadd ?_ | with_reducible refine st_neg ?_
  | with_reducible refine st_len_p ?_ | with_reducible refine st_len_lp ?_ | with_reducible refine st_len_rp ?_ | with_reducible refine st_len_t ?_ | with_reducible refine st_len_l ?_
  | with_reducible refine st_add_t (by walk_at "side") ?_ | with_reducible refine st_add_l (by walk_at "side") ?_ | with_reducible refine st_add_s (by walk_at "side") ?_
  | with_reducible refine st_tru_bl ?_ | with_reducible refine st_tru_int ?_ | with_reducible refine st_tru_tup ?_ | with_reducible refine st_tru_lst ?_ | with_reducible refine st_tru_non ?_
  | with_reducible refine st_at (by assumption) ?_ | with_reducible refine st_atl (by assumption) ?_
  | with_reducible refine st_iteT ?_ | with_reducible refine st_iteF ?_ | with_reducible refine st_not ?_
  | with_reducible refine st_lt ?_ | with_reducible refine st_le ?_ | with_reducible refine st_gt ?_ | with_reducible refine st_ge ?_ | with_reducible refine st_eqi ?_ | with_reducible refine st_nei ?_ | with_reducible refine st_eqs ?_ | with_reducible refine st_nes ?_ | with_reducible refine st_eqb ?_
  | with_reducible refine st_isn_non ?_ | with_reducible refine st_isn_int ?_ | with_reducible refine st_isn_tup ?_ | with_reducible refine st_isn_str ?_ | with_reducible refine st_isn_bl ?_
  | with_reducible refine st_isnt_non ?_ | with_reducible refine st_isnt_int ?_ | with_reducible refine st_isnt_tup ?_ | with_reducible refine st_isnt_str ?_
  | with_reducible refine st_int ?_ | with_reducible refine st_intb ?_ | with_reducible refine st_abs ?_ | with_reducible refine st_min2 ?_ | with_reducible refine st_max2 ?_
  | with_reducible refine st_tup_l ?_ | with_reducible refine st_tup_t ?_ | with_reducible refine st_lst_t ?_ | with_reducible refine st_lst_l ?_
  | with_reducible refine st_sl_from ?_ | with_reducible refine st_sl_to ?_
  | with_reducible refine st_lx0 ?_ | with_reducible refine st_lx1 ?_ | with_reducible refine st_lx2 ?_ | with_reducible refine st_lx3 ?_
  | with_reducible refine st_mod (by walk_at "side") ?_ | with_reducible refine st_div (by walk_at "side") ?_ | with_reducible refine st_mul (by walk_at "side") ?_ | with_reducible refine st_mul' (by walk_at "side") ?_
  | with_reducible refine st_isi rfl ?_
  | (with_reducible refine And.intro (Nat.le_of_ble_eq_true rfl) ?_)
  | (refine And.intro (rfl : (_ : Nat) = _) ?_)
  | with_reducible refine st_dT (by walk_at "cond") ?_ | with_reducible refine st_dF (by walk_at "cond") ?_)
local macro_rules | `(tactic| walk_at "hd") => `(tactic| (with_reducible conv => whnf))
local macro_rules | `(tactic| walk_at "run") => `(tactic| ((with_reducible conv => whnf); repeat (walk_at "st"; (with_reducible conv => whnf))))
/-! ### weights that are drawn -/
def W0 : Int := 22 * 10 ^ 40
theorem st_pow {i j : Int} {S : Sto} {Q : DK} (h1 : CPow i j) (h : Q (.int (i ^ j.toNat)) S) : vPow (.int i) (.int j) S Q := ⟨h1, h⟩
theorem st_shl {i j : Int} {S : Sto} {Q : DK} (h1 : CPow i j) (h : Q (.int (i * 2 ^ j.toNat)) S) : vShl (.int i) (.int j) S Q := ⟨h1, h⟩
theorem st_ix3i {x y z r : Int} {S : Sto} {Q : DK} (h0 : 0 ≤ r) (h1 : r < 3) (h : ∀ v, (v = x ∨ v = y ∨ v = z) → Q (.int v) S) : vIx (.tup [.int x, .int y, .int z]) (.int r) S Q := by
  have e : r = 0 ∨ r = 1 ∨ r = 2 := by omega
  rcases e with rfl | rfl | rfl
  · exact h x (.inl rfl)
  · exact h y (.inr (.inl rfl))
  · exact h z (.inr (.inr rfl))
def sp_law_weight (x y : D) (S : Sto) (Q : DK) : Prop := ∃ (a g l : Addr) (b : Bool), x = .ref a ∧ y = .bl b ∧ Sk S a g l ∧ ∀ w S', -W0 ≤ w → w ≤ W0 → Sk S' a g l → (∀ c, c ≠ a → c ≠ g → S' c = S c) → Q (.int w) S'
-- _law_weight : 0=scale 1=great 2=number
def rd_law_weight : DTS :=
    (dSeq (dAsg (dOp vIx (dTup (dCons (dOp vSub (dCall (a3 sp_law_load) (dCons (dVar 0) (dCons (dC (.int 0)) (dCons (dC (.int 9)) dNil)))) (dC (.int 2))) (dCons (dOp vSub (dCall (a3 sp_law_load) (dCons (dVar 0) (dCons (dC (.int 1)) (dCons (dC (.int 30)) dNil)))) (dC (.int 8))) (dCons (dC (.int 0)) dNil)))) (dCall (a3 sp_law_load) (dCons (dVar 0) (dCons (dC (.int 2)) (dCons (dC (.int 3)) dNil))))) (dTg (.nm 2)))
    (dRet (dIfE (dTru (dVar 1)) (dOp vAdd (dOp vMul (dVar 2) (dOp vPow (dC (.int 10)) (dC (.int 40)))) (dCall (a3 sp_law_load) (dCons (dVar 0) (dCons (dC (.int 3)) (dCons (dC (.int 3)) dNil))))) (dVar 2))))
theorem rd_law_weight_ok : ∀ ds S P, (a2 sp_law_weight) ds S P → rd_law_weight (DEnds.of P) (dstart ["scale", "great", "number"] ds) S := by
  intro ds S P hsp
  rcases ds with _ | ⟨x, _ | ⟨y, _ | ⟨z, ds⟩⟩⟩ <;> first | exact (hsp : False).elim | skip
  obtain ⟨a, g, l, b, rfl, rfl, sk, q⟩ := (hsp : sp_law_weight x y S P)
  unfold rd_law_weight
  walk_at "run"
  refine use_load (k := 0) sk (by omega) (by omega) fun r0 S0 h00 h01 sk0 s0 => ?_
  walk_at "run"
  refine use_load (k := 1) sk0 (by omega) (by omega) fun r1 S1 h10 h11 sk1 s1 => ?_
  walk_at "run"
  refine use_load (k := 2) sk1 (by omega) (by omega) fun r2 S2 h20 h21 sk2 s2 => ?_
  refine st_ix3i h20 h21 fun v hv => ?_
  have hv2 : -8 ≤ v ∧ v ≤ 21 := by rcases hv with rfl | rfl | rfl <;> omega
  have s02 : ∀ c, c ≠ a → c ≠ g → S2 c = S c := fun c h1 h2 => by rw [s2 c h1 h2, s1 c h1 h2, s0 c h1 h2]
  walk_at "run"
  cases b with
  | true =>
    walk_at "run"
    refine st_pow (by unfold CPow; decide) ?_
    refine st_mul (by omega) ?_
    refine use_load (k := 3) sk2 (by omega) (by omega) fun r3 S3 h30 h31 sk3 s3 => ?_
    walk_at "run"
    have hb : (10 : Int) ^ (40 : Int).toNat = 10 ^ 40 := rfl
    rw [hb]
    exact .of (q _ S3 (by unfold W0; omega) (by unfold W0; omega) sk3 fun c h1 h2 => by rw [s3 c h1 h2, s02 c h1 h2])
  | false =>
    walk_at "run"
    exact .of (q v S2 (by unfold W0; omega) (by unfold W0; omega) sk2 s02)
theorem use_weight {a g l : Addr} {b : Bool} {S : Sto} {Q : DK} (sk : Sk S a g l) (q : ∀ w S', -W0 ≤ w → w ≤ W0 → Sk S' a g l → (∀ c, c ≠ a → c ≠ g → S' c = S c) → Q (.int w) S') : sp_law_weight (.ref a) (.bl b) S Q := ⟨a, g, l, b, rfl, rfl, sk, q⟩
end L3

set_option Elab.async false
set_option maxRecDepth 100000
set_option linter.all false
set_option maxHeartbeats 4000000
namespace L3
open PySem L2 L3.KW
local macro_rules | `(tactic| walk_at "cond") => `(tactic| first | omega | (simp only [List.length_append, List.length_cons, List.length_nil, List.length_take, List.length_drop, List.length_map, List.length_reverse]; omega) | rfl | decide)
local macro_rules | `(tactic| walk_at "side") => `(tactic| first | assumption | omega | (simp only [List.length_append, List.length_cons, List.length_nil, List.length_take, List.length_drop, List.length_map, List.length_reverse, sizeLine_val]; omega) | decide)
local macro_rules | `(tactic| walk_at "st") => `(tactic| first
  | with_reducible refine st_ix0 ?_ | with_reducible refine st_ix1 ?_ | with_reducible refine st_ix2 ?_ | with_reducible refine st_ix3 ?_ | with_reducible refine st_ix4 ?_
  | with_reducible refine st_add_pp (by walk_at "side") ?_ | with_reducible refine st_add_p1 (by walk_at "side") ?_ | with_reducible refine st_add_1p (by walk_at "side") ?_
  | with_reducible refine st_add ?_ | with_reducible refine st_sub ?_ | with_reducible refine st_iadd ?_ | with_reducible refine st_neg ?_
  | with_reducible refine st_len_p ?_ | with_reducible refine st_len_lp ?_ | with_reducible refine st_len_rp ?_ | with_reducible refine st_len_t ?_ | with_reducible refine st_len_l ?_
  | with_reducible refine st_add_t (by walk_at "side") ?_ | with_reducible refine st_add_l (by walk_at "side") ?_ | with_reducible refine st_add_s (by walk_at "side") ?_
  | with_reducible refine st_tru_bl ?_ | with_reducible refine st_tru_int ?_ | with_reducible refine st_tru_tup ?_ | with_reducible refine st_tru_lst ?_ | with_reducible refine st_tru_non ?_
  | with_reducible refine st_at (by assumption) ?_ | with_reducible refine st_atl (by assumption) ?_
  | with_reducible refine st_iteT ?_ | with_reducible refine st_iteF ?_ | with_reducible refine st_not ?_
  | with_reducible refine st_lt ?_ | with_reducible refine st_le ?_ | with_reducible refine st_gt ?_ | with_reducible refine st_ge ?_ | with_reducible refine st_eqi ?_ | with_reducible refine st_nei ?_ | with_reducible refine st_eqs ?_ | with_reducible refine st_nes ?_ | with_reducible refine st_eqb ?_
  | with_reducible refine st_isn_non ?_ | with_reducible refine st_isn_int ?_ | with_reducible refine st_isn_tup ?_ | with_reducible refine st_isn_str ?_ | with_reducible refine st_isn_bl ?_
  | with_reducible refine st_isnt_non ?_ | with_reducible refine st_isnt_int ?_ | with_reducible refine st_isnt_tup ?_ | with_reducible refine st_isnt_str ?_
  | with_reducible refine st_int ?_ | with_reducible refine st_intb ?_ | with_reducible refine st_abs ?_ | with_reducible refine st_min2 ?_ | with_reducible refine st_max2 ?_
  | with_reducible refine st_tup_l ?_ | with_reducible refine st_tup_t ?_ | with_reducible refine st_lst_t ?_ | with_reducible refine st_lst_l ?_
  | with_reducible refine st_sl_from ?_ | with_reducible refine st_sl_to ?_
  | with_reducible refine st_lx0 ?_ | with_reducible refine st_lx1 ?_ | with_reducible refine st_lx2 ?_ | with_reducible refine st_lx3 ?_
  | with_reducible refine st_mod (by walk_at "side") ?_ | with_reducible refine st_div (by walk_at "side") ?_ | with_reducible refine st_mul (by walk_at "side") ?_ | with_reducible refine st_mul' (by walk_at "side") ?_
  | with_reducible refine st_isi rfl ?_
  | (with_reducible refine And.intro (Nat.le_of_ble_eq_true rfl) ?_)
  | (refine And.intro (rfl : (_ : Nat) = _) ?_)
  | with_reducible refine st_dT (by walk_at "cond") ?_ | with_reducible refine st_dF (by walk_at "cond") ?_)
local macro_rules | `(tactic| walk_at "hd") => `(tactic| (with_reducible conv => whnf))
local macro_rules | `(tactic| walk_at "run") => `(tactic| ((with_reducible conv => whnf); repeat (walk_at "st"; (with_reducible conv => whnf))))
/-! ### the scale -/
theorem st_sl_ro {ns : List Int} {k : Nat} {S : Sto} {Q : DK} (h : Q (.lst ((ns.take k).map .int)) S) : vSl (.ro (ns.map .int)) none (some (k : Int)) S Q := by
  show Q (.lst (cut (ns.map .int) none (some (k : Int)))) S
  rw [cut_to, ← List.map_take]
  exact h
def sp_law_scale (x : D) (S : Sto) (Q : DK) : Prop := ∃ ns : List Int, x = .ro (ns.map .int) ∧ ns.length ≤ 63 ∧ ∀ a g l S', Sk S' a g l → Q (.ref a) S'
-- _law_scale : 0=script 1=great 2=mixed 3=cell 4=size 5=leans 6=place
def rd_law_scale : DTS :=
    (dSeq (dAsg (dLstM dNil) (dTg (.nm 1)))
    (dSeq (dAsg (dC (.int 69019)) (dTg (.nm 2)))
    (dSeq (dFor (iSeq (dSl vSl (dVar 0) dNoPart (dPart (dC (.int 51))))) (dTg (.nm 3)) (dSeq (dAsg (dOp vMod (dCB vAbs (dCons (dCB vInt (dCons (dVar 3) dNil)) dNil)) (dOp vShl (dC (.int 1)) (dC (.int 1470)))) (dTg (.nm 4)))
    (dSeq (dAsg (dOp vMod (dCB vInt (dCons (dOp vAdd (dOp vAdd (dOp vAdd (dOp vMul (dVar 2) (dC (.int 22003))) (dOp vMul (dOp vMod (dVar 4) (dC (.int 1001911))) (dC (.int 89)))) (dCB vInt (dCons (dOp vLt (dCB vInt (dCons (dVar 3) dNil)) (dC (.int 0))) dNil))) (dC (.int 62))) dNil)) (dC (.int 2147482873))) (dTg (.nm 2)))
    (dIf (dTest (dOp vGe (dVar 4) (dOp vPow (dC (.int 10)) (dC (.int 18))))) (dAsg (dOp vAddM (dLst (dCons (dVar 4) dNil)) (dVar 1)) (dTg (.nm 1))) dNext))))
    (dSeq (dAsg (dLstM dNil) (dTg (.nm 5)))
    (dSeq (dFor (iRange1 (dC (.int 8))) (dTg (.nm 6)) (dSeq (dAsg (dOp vMod (dCB vInt (dCons (dOp vAdd (dOp vAdd (dOp vMul (dVar 2) (dC (.int 8009))) (dOp vMul (dC (.int 229)) (dVar 6))) (dC (.int 107))) dNil)) (dC (.int 2147482873))) (dTg (.nm 2)))
    (dDrop (dLM vAppend (dVar 5) (dCons (dOp vMod (dCB vInt (dCons (dOp vDiv (dVar 2) (dC (.int 397))) dNil)) (dC (.int 80))) dNil)))))
    (dRet (dLstM (dCons (dVar 1) (dCons (dVar 2) (dCons (dC (.int 4)) (dCons (dVar 5) dNil)))))))))))
theorem rd_law_scale_ok : ∀ ds S P, (a1 sp_law_scale) ds S P → rd_law_scale (DEnds.of P) (dstart ["script", "great", "mixed", "cell", "size", "leans", "place"] ds) S := by
  intro ds S P hsp
  rcases ds with _ | ⟨x, _ | ⟨y, ds⟩⟩ <;> first | exact (hsp : False).elim | skip
  obtain ⟨ns, rfl, hl, q⟩ := (hsp : sp_law_scale x S P)
  unfold rd_law_scale
  walk_at "run"
  intro p hp
  walk_at "run"
  refine st_sl_ro (k := 51) ?_
  walk_at "run"
  refine forL_inv (fun i δ S' => ∃ (p : Addr) (hs : List Int) (w : Int) (x3 x4 : Option D), S' p = some (.lst (hs.map .int)) ∧ hs.length ≤ i ∧ δ = [some (.ro (ns.map .int)), some (.ref p), some (.int w), x3, x4, none, none]) (fun _ _ _ _ => True.intro) _ 0 _ _ ⟨p, [], 69019, none, none, sup_same, Nat.le_refl _, rfl⟩ ?_ ?_
  · rintro j d _ S' hj ⟨p, hs, w, x3, x4, e, hh, rfl⟩ D2 hrt _ hnx _
    rw [List.getElem?_map] at hj
    obtain ⟨v, g3, rfl⟩ := Option.map_eq_some_iff.mp hj
    have hjl : j < 51 := by
      have := (List.getElem?_eq_some_iff.mp g3).1
      rw [List.length_take] at this
      omega
    rw [Nat.zero_add] at hh hnx
    walk_at "run"
    refine st_shl (by unfold CPow; decide) ?_
    have hM : (0 : Int) < 1 * 2 ^ (1470 : Int).toNat := by rw [Int.one_mul]; exact Int.pow_pos (by decide)
    generalize (1 : Int) * 2 ^ (1470 : Int).toNat = M at hM
    generalize (if v < 0 then -v else v) = v'
    refine st_mod hM ?_
    walk_at "run"
    refine st_pow (by unfold CPow; decide) ?_
    walk_at "run"
    by_cases z : v' % M ≥ 10 ^ (18 : Int).toNat
    · rw [decide_eq_true z]
      walk_at "run"
      refine ⟨[.int (v' % M)], hs.map .int, rfl, by simp only [lstOf, e], by rw [List.length_map, sizeLine_v]; show 1 + hs.length ≤ _; omega, fun p2 hp2 => ?_⟩
      walk_at "run"
      exact hnx _ _ ⟨p2, (v' % M) :: hs, _, _, _, sup_same, by rw [List.length_cons]; omega, rfl⟩
    · rw [decide_eq_false z]
      walk_at "run"
      exact hnx _ _ ⟨p, hs, _, _, _, e, by omega, rfl⟩
  · rintro _ S' ⟨p, hs, w, x3, x4, e, hh, rfl⟩
    have hh2 : hs.length ≤ 51 := by
      rw [List.length_map, List.length_take] at hh
      omega
    walk_at "run"
    intro lp hlp
    have hlpp : lp ≠ p := fun z => by subst z; rw [e] at hlp; cases hlp
    walk_at "run"
    refine ⟨by decide, by decide, ?_⟩
    refine forL_inv (fun i δ S'' => ∃ (ls : List Int) (w : Int) (x6 : Option D), S'' p = some (.lst (hs.map .int)) ∧ S'' lp = some (.lst (ls.map .int)) ∧ ls.length = i ∧ δ = [some (.ro (ns.map .int)), some (.ref p), some (.int w), x3, x4, some (.ref lp), x6]) (fun _ _ _ _ => True.intro) _ 0 _ _ ⟨[], w, none, by rw [sup_ne (Ne.symm hlpp)]; exact e, sup_same, rfl, rfl⟩ ?_ ?_
    · rintro j d _ S'' hj ⟨ls, w, x6, e1, e2, hls, rfl⟩ D2 hrt _ hnx _
      obtain ⟨hj8, rfl⟩ := rng_at hj
      have hj8 : j < 8 := hj8
      rw [Nat.zero_add] at hls hnx
      walk_at "run"
      rw [isSeq_ref]
      refine ⟨⟨_, e2⟩, ?_⟩
      walk_at "run"
      refine st_append e2 (by rw [List.length_map, sizeLine_v]; omega) ?_
      walk_at "run"
      exact hnx _ _ ⟨ls ++ [_], _, _, by rw [sup_ne (Ne.symm hlpp)]; exact e1, by rw [sup_same, List.map_append]; rfl, by rw [List.length_append, hls]; rfl, rfl⟩
    · rintro _ S'' ⟨ls, w, x6, e1, e2, hls, rfl⟩
      have hls : ls.length = 8 := hls
      walk_at "run"
      intro a ha
      have ap : a ≠ p := fun z => by subst z; rw [e1] at ha; cases ha
      have al : a ≠ lp := fun z => by subst z; rw [e2] at ha; cases ha
      refine .of (q a p lp _ ⟨ap, al, Ne.symm hlpp, ⟨_, _, sup_same⟩, ⟨hs, by rw [sup_ne (Ne.symm ap)]; exact e1, hh2⟩, ⟨ls, by rw [sup_ne (Ne.symm al)]; exact e2, hls⟩⟩)
theorem use_scale {ns : List Int} {S : Sto} {Q : DK} (hl : ns.length ≤ 63) (q : ∀ a g l S', Sk S' a g l → Q (.ref a) S') : sp_law_scale (.ro (ns.map .int)) S Q := ⟨ns, rfl, hl, q⟩
end L3

set_option Elab.async false
set_option maxRecDepth 100000
set_option linter.all false
set_option maxHeartbeats 4000000
namespace L3
open PySem L2 L3.KW
local macro_rules | `(tactic| walk_at "cond") => `(tactic| first | omega | (simp only [List.length_append, List.length_cons, List.length_nil, List.length_take, List.length_drop, List.length_map, List.length_reverse]; omega) | rfl | decide)
local macro_rules | `(tactic| walk_at "side") => `(tactic| first | assumption | omega | (simp only [List.length_append, List.length_cons, List.length_nil, List.length_take, List.length_drop, List.length_map, List.length_reverse, sizeLine_val]; omega) | decide)
local macro_rules | `(tactic| walk_at "st") => `(tactic| first
  | with_reducible refine st_ix0 ?_ | with_reducible refine st_ix1 ?_ | with_reducible refine st_ix2 ?_ | with_reducible refine st_ix3 ?_ | with_reducible refine st_ix4 ?_
  | with_reducible refine st_add_pp (by walk_at "side") ?_ | with_reducible refine st_add_p1 (by walk_at "side") ?_ | with_reducible refine st_add_1p (by walk_at "side") ?_
  | with_reducible refine st_add ?_ | with_reducible refine st_sub ?_ | with_reducible refine st_iadd ?_ | with_reducible refine st_neg ?_
  | with_reducible refine st_len_p ?_ | with_reducible refine st_len_lp ?_ | with_reducible refine st_len_rp ?_ | with_reducible refine st_len_t ?_ | with_reducible refine st_len_l ?_
  | with_reducible refine st_add_t (by walk_at "side") ?_ | with_reducible refine st_add_l (by walk_at "side") ?_ | with_reducible refine st_add_s (by walk_at "side") ?_
  | with_reducible refine st_tru_bl ?_ | with_reducible refine st_tru_int ?_ | with_reducible refine st_tru_tup ?_ | with_reducible refine st_tru_lst ?_ | with_reducible refine st_tru_non ?_
  | with_reducible refine st_at (by assumption) ?_ | with_reducible refine st_atl (by assumption) ?_
  | with_reducible refine st_iteT ?_ | with_reducible refine st_iteF ?_ | with_reducible refine st_not ?_
  | with_reducible refine st_lt ?_ | with_reducible refine st_le ?_ | with_reducible refine st_gt ?_ | with_reducible refine st_ge ?_ | with_reducible refine st_eqi ?_ | with_reducible refine st_nei ?_ | with_reducible refine st_eqs ?_ | with_reducible refine st_nes ?_ | with_reducible refine st_eqb ?_
  | with_reducible refine st_isn_non ?_ | with_reducible refine st_isn_int ?_ | with_reducible refine st_isn_tup ?_ | with_reducible refine st_isn_str ?_ | with_reducible refine st_isn_bl ?_
  | with_reducible refine st_isnt_non ?_ | with_reducible refine st_isnt_int ?_ | with_reducible refine st_isnt_tup ?_ | with_reducible refine st_isnt_str ?_
  | with_reducible refine st_int ?_ | with_reducible refine st_intb ?_ | with_reducible refine st_abs ?_ | with_reducible refine st_min2 ?_ | with_reducible refine st_max2 ?_
  | with_reducible refine st_tup_l ?_ | with_reducible refine st_tup_t ?_ | with_reducible refine st_lst_t ?_ | with_reducible refine st_lst_l ?_
  | with_reducible refine st_sl_from ?_ | with_reducible refine st_sl_to ?_
  | with_reducible refine st_lx0 ?_ | with_reducible refine st_lx1 ?_ | with_reducible refine st_lx2 ?_ | with_reducible refine st_lx3 ?_
  | with_reducible refine st_mod (by walk_at "side") ?_ | with_reducible refine st_div (by walk_at "side") ?_ | with_reducible refine st_mul (by walk_at "side") ?_ | with_reducible refine st_mul' (by walk_at "side") ?_
  | with_reducible refine st_isi rfl ?_
  | (with_reducible refine And.intro (Nat.le_of_ble_eq_true rfl) ?_)
  | (refine And.intro (rfl : (_ : Nat) = _) ?_)
  | with_reducible refine st_dT (by walk_at "cond") ?_ | with_reducible refine st_dF (by walk_at "cond") ?_)
local macro_rules | `(tactic| walk_at "hd") => `(tactic| (with_reducible conv => whnf))
local macro_rules | `(tactic| walk_at "run") => `(tactic| ((with_reducible conv => whnf); repeat (walk_at "st"; (with_reducible conv => whnf))))
/-! ### edges that are drawn -/
theorem lc_weights {a g l : Addr} {b : Bool} {x1 x2 : Option D} {Q : DK} : ∀ (L : List D) (acc : List Int) (S : Sto), acc.length + L.length ≤ 1000 → Sk S a g l → (∀ w ∈ acc, -W0 ≤ w ∧ w ≤ W0) →
    (∀ (ms : List Int) S', ms.length = acc.length + L.length → (∀ w ∈ ms, -W0 ≤ w ∧ w ≤ W0) → Sk S' a g l → (∀ c, c ≠ a → c ≠ g → S' c = S c) → Q (.lst (ms.map .int)) S') →
    lcL (fun _ => True) (dTg (.nm 5)) dYes (dCall (a2 sp_law_weight) (dCons (dVar 0) (dCons (dVar 3) dNil))) [5] [some (.ref a), x1, x2, some (.bl b), none, none, none, none, none, none, none] L (acc.map .int) S Q
  | [], acc, S, hl, sk, hb, q => ⟨trivial, q acc S (by simp) hb sk fun _ _ _ => rfl⟩
  | d :: r, acc, S, hl, sk, hb, q => by
    rw [List.length_cons] at hl
    refine ⟨trivial, by rw [List.length_map, sizeLine_v]; omega, ?_⟩
    walk_at "run"
    refine use_weight sk fun w S1 w0 w1 sk1 s1 => ?_
    walk_at "run"
    rw [show acc.map D.int ++ [D.int w] = (acc ++ [w]).map .int by rw [List.map_append]; rfl]
    refine lc_weights r (acc ++ [w]) S1 (by rw [List.length_append]; simp only [List.length_cons, List.length_nil]; omega) sk1 (fun v hv => ?_) fun ms S2 hm hb2 sk2 s2 => ?_
    · rcases List.mem_append.mp hv with hv | hv
      · exact hb v hv
      · rw [List.mem_singleton.mp hv]; exact ⟨w0, w1⟩
    · refine q ms S2 ?_ hb2 sk2 fun c h1 h2 => by rw [s2 c h1 h2, s1 c h1 h2]
      rw [hm, List.length_append, List.length_cons]
      simp only [List.length_cons, List.length_nil]
      omega
def mk (ms : List Int) (v : Nat) : Int := (ms[v]?).getD 0
def sp_law_edges (x y z w : D) (S : Sto) (Q : DK) : Prop := ∃ (a g l : Addr) (n rows : Nat) (b : Bool), x = .ref a ∧ y = iD n ∧ z = iD rows ∧ w = .bl b ∧ 0 < n ∧ n ≤ 100 ∧ rows ≤ 100 ∧ Sk S a g l ∧
  ∀ (es : List Ed) p S', S p = none → Sk S' a g l → S' p = some (.lst (es.map edD)) → es.length = rows → Below n es → (∃ m, Pot es m) → (∀ e ∈ es, -(3 * W0) ≤ e.2.2 ∧ e.2.2 ≤ 3 * W0) → (∀ c o, c ≠ a → c ≠ g → S c = some o → S' c = some o) → Q (.ref p) S'
-- _law_edges : 0=scale 1=many 2=rows 3=great 4=marks 5=k 6=edges 7=lap 8=one 9=other 10=spare
def rd_law_edges : DTS :=
    (dSeq (dAsg (dLc (iRange1 (dVar 1)) (dTg (.nm 5)) dYes (dCall (a2 sp_law_weight) (dCons (dVar 0) (dCons (dVar 3) dNil))) [5]) (dTg (.nm 4)))
    (dSeq (dAsg (dLstM dNil) (dTg (.nm 6)))
    (dSeq (dFor (iRange1 (dVar 2)) (dTg (.nm 7)) (dSeq (dPar 8 9 (dCons (dCall (a3 sp_law_load) (dCons (dVar 0) (dCons (dC (.int 4)) (dCons (dVar 1) dNil)))) (dCons (dCall (a3 sp_law_load) (dCons (dVar 0) (dCons (dC (.int 5)) (dCons (dVar 1) dNil)))) dNil)))
    (dSeq (dAsg (dOp vIx (dTup (dCons (dC (.int 0)) (dCons (dC (.int 0)) (dCons (dCall (a3 sp_law_load) (dCons (dVar 0) (dCons (dC (.int 6)) (dCons (dC (.int 7)) dNil)))) dNil)))) (dCall (a3 sp_law_load) (dCons (dVar 0) (dCons (dC (.int 7)) (dCons (dC (.int 3)) dNil))))) (dTg (.nm 10)))
    (dDrop (dLM vAppend (dVar 6) (dCons (dTup (dCons (dVar 8) (dCons (dVar 9) (dCons (dOp vAdd (dOp vSub (dOp vIx (dVar 4) (dVar 9)) (dOp vIx (dVar 4) (dVar 8))) (dVar 10)) dNil)))) dNil))))))
    (dRet (dVar 6)))))
theorem rd_law_edges_ok : ∀ ds S P, (a4 sp_law_edges) ds S P → rd_law_edges (DEnds.of P) (dstart ["scale", "many", "rows", "great", "marks", "k", "edges", "lap", "one", "other", "spare"] ds) S := by
  intro ds S P hsp
  rcases ds with _ | ⟨x, _ | ⟨y, _ | ⟨z, _ | ⟨w, _ | ⟨u, ds⟩⟩⟩⟩⟩ <;> first | exact (hsp : False).elim | skip
  obtain ⟨a, g, l, n, rows, b, rfl, rfl, rfl, rfl, n0, n1, hr, sk, q⟩ := (hsp : sp_law_edges x y z w S P)
  unfold rd_law_edges
  walk_at "run"
  refine ⟨by omega, by omega, ?_⟩
  rw [Int.toNat_natCast]
  refine lc_weights (rngD 0 n) [] S (by rw [rng_len]; simp only [List.length_nil]; omega) sk (fun _ h => by cases h) fun ms S1 hm hb sk1 s1 => ?_
  rw [rng_len] at hm
  have hm : ms.length = n := by simpa using hm
  walk_at "run"
  intro p hp
  have pa := sk1.na hp
  have pg := sk1.ng hp
  have pl := sk1.nl hp
  have hpS : S p = none := by rw [← s1 p pa pg]; exact hp
  walk_at "run"
  refine ⟨by omega, by omega, ?_⟩
  rw [Int.toNat_natCast]
  refine forL_inv (fun i δ S' => ∃ (es : List Ed) (x7 x8 x9 x10 : Option D), Sk S' a g l ∧ S' p = some (.lst (es.map edD)) ∧ es.length = i ∧ Below n es ∧ Pot es (mk ms) ∧ (∀ e ∈ es, -(3 * W0) ≤ e.2.2 ∧ e.2.2 ≤ 3 * W0) ∧ (∀ c o, c ≠ a → c ≠ g → S c = some o → S' c = some o) ∧
    δ = [some (.ref a), some (iD n), some (iD rows), some (.bl b), some (.lst (ms.map .int)), none, some (.ref p), x7, x8, x9, x10]) (fun _ _ _ _ => True.intro) _ 0 _ _
    ⟨[], none, none, none, none, sk1.sup pa pg pl, sup_same, rfl, (by intro _ h; cases h), (by intro _ h; cases h), (by intro _ h; cases h), fun c o h1 h2 h3 => ?_, rfl⟩ ?_ ?_
  · rw [sup_ne fun z => by subst z; rw [hpS] at h3; cases h3]
    rw [s1 c h1 h2]
    exact h3
  · rintro j d _ S' hj ⟨es, x7, x8, x9, x10, sk2, ep, hl, bl, po, bd, kp, rfl⟩ D2 hrt _ hnx _
    obtain ⟨hjr, rfl⟩ := rng_at hj
    rw [Nat.zero_add] at hl hnx
    walk_at "run"
    refine use_load (k := 4) sk2 (by omega) (by omega) fun r1 S3 h10 h11 sk3 s3 => ?_
    walk_at "run"
    refine use_load (k := 5) sk3 (by omega) (by omega) fun r2 S4 h20 h21 sk4 s4 => ?_
    obtain ⟨o1, rfl⟩ := Int.eq_ofNat_of_zero_le h10
    obtain ⟨o2, rfl⟩ := Int.eq_ofNat_of_zero_le h20
    walk_at "run"
    refine use_load (k := 6) sk4 (by omega) (by omega) fun r3 S5 h30 h31 sk5 s5 => ?_
    walk_at "run"
    refine use_load (k := 7) sk5 (by omega) (by omega) fun r4 S6 h40 h41 sk6 s6 => ?_
    refine st_ix3i h40 h41 fun v hv => ?_
    have hv2 : 0 ≤ v ∧ v < 7 := by rcases hv with rfl | rfl | rfl <;> omega
    have s36 : ∀ c, c ≠ a → c ≠ g → S6 c = S' c := fun c h1 h2 => by rw [s6 c h1 h2, s5 c h1 h2, s4 c h1 h2, s3 c h1 h2]
    have ep6 : S6 p = some (.lst (es.map edD)) := by rw [s36 p pa pg]; exact ep
    have l1 : o1 < ms.length := by omega
    have l2 : o2 < ms.length := by omega
    have g1 : (ms.map D.int)[o1]? = some (.int ms[o1]) := by rw [List.getElem?_map, List.getElem?_eq_getElem l1]; rfl
    have g2 : (ms.map D.int)[o2]? = some (.int ms[o2]) := by rw [List.getElem?_map, List.getElem?_eq_getElem l2]; rfl
    have m1 : mk ms o1 = ms[o1] := by unfold mk; rw [List.getElem?_eq_getElem l1]; rfl
    have m2 : mk ms o2 = ms[o2] := by unfold mk; rw [List.getElem?_eq_getElem l2]; rfl
    have b1 := hb _ (List.getElem_mem l1)
    have b2 := hb _ (List.getElem_mem l2)
    generalize ms[o1] = w1 at g1 m1 b1
    generalize ms[o2] = w2 at g2 m2 b2
    walk_at "run"
    rw [isSeq_ref]
    refine ⟨⟨_, ep6⟩, ?_⟩
    walk_at "run"
    refine st_append ep6 (by rw [List.length_map, sizeLine_v]; omega) ?_
    walk_at "run"
    have hW : (0 : Int) ≤ W0 ∧ 7 ≤ W0 := by unfold W0; omega
    refine hnx _ _ ⟨es ++ [(o1, o2, w2 - w1 + v)], _, _, _, _, sk6.sup pa pg pl, by rw [sup_same, List.map_append]; rfl, by rw [List.length_append, hl]; rfl, fun e he => ?_, fun e he => ?_, fun e he => ?_, fun c o h1 h2 h3 => ?_, rfl⟩
    · rcases List.mem_append.mp he with he | he
      · exact bl e he
      · rw [List.mem_singleton.mp he]; exact ⟨by show o1 < n; omega, by show o2 < n; omega⟩
    · rcases List.mem_append.mp he with he | he
      · exact po e he
      · rw [List.mem_singleton.mp he]; show mk ms o2 ≤ mk ms o1 + (w2 - w1 + v); omega
    · rcases List.mem_append.mp he with he | he
      · exact bd e he
      · rw [List.mem_singleton.mp he]; show -(3 * W0) ≤ w2 - w1 + v ∧ w2 - w1 + v ≤ 3 * W0; omega
    · rw [sup_ne fun z => by subst z; rw [hpS] at h3; cases h3]
      rw [s36 c h1 h2]
      exact kp c o h1 h2 h3
  · rintro _ S' ⟨es, x7, x8, x9, x10, sk2, ep, hl, bl, po, bd, kp, rfl⟩
    rw [rng_len, Nat.zero_add] at hl
    walk_at "run"
    exact .of (q es p S' hpS sk2 ep hl bl ⟨_, po⟩ bd kp)
end L3

set_option Elab.async false
set_option maxRecDepth 100000
set_option linter.all false
set_option maxHeartbeats 4000000
namespace L3
open PySem L2 L3.KW
local macro_rules | `(tactic| walk_at "cond") => `(tactic| first | omega | (simp only [List.length_append, List.length_cons, List.length_nil, List.length_take, List.length_drop, List.length_map, List.length_reverse]; omega) | rfl | decide)
local macro_rules | `(tactic| walk_at "side") => `(tactic| first | assumption | omega | (simp only [List.length_append, List.length_cons, List.length_nil, List.length_take, List.length_drop, List.length_map, List.length_reverse, sizeLine_val]; omega) | decide)
local macro_rules | `(tactic| walk_at "st") => `(tactic| first
  | with_reducible refine st_ix0 ?_ | with_reducible refine st_ix1 ?_ | with_reducible refine st_ix2 ?_ | with_reducible refine st_ix3 ?_ | with_reducible refine st_ix4 ?_
  | with_reducible refine st_add_pp (by walk_at "side") ?_ | with_reducible refine st_add_p1 (by walk_at "side") ?_ | with_reducible refine st_add_1p (by walk_at "side") ?_
  | with_reducible refine st_add ?_ | with_reducible refine st_sub ?_ | with_reducible refine st_iadd ?_ | with_reducible refine st_neg ?_
  | with_reducible refine st_len_p ?_ | with_reducible refine st_len_lp ?_ | with_reducible refine st_len_rp ?_ | with_reducible refine st_len_t ?_ | with_reducible refine st_len_l ?_
  | with_reducible refine st_add_t (by walk_at "side") ?_ | with_reducible refine st_add_l (by walk_at "side") ?_ | with_reducible refine st_add_s (by walk_at "side") ?_
  | with_reducible refine st_tru_bl ?_ | with_reducible refine st_tru_int ?_ | with_reducible refine st_tru_tup ?_ | with_reducible refine st_tru_lst ?_ | with_reducible refine st_tru_non ?_
  | with_reducible refine st_at (by assumption) ?_ | with_reducible refine st_atl (by assumption) ?_
  | with_reducible refine st_iteT ?_ | with_reducible refine st_iteF ?_ | with_reducible refine st_not ?_
  | with_reducible refine st_lt ?_ | with_reducible refine st_le ?_ | with_reducible refine st_gt ?_ | with_reducible refine st_ge ?_ | with_reducible refine st_eqi ?_ | with_reducible refine st_nei ?_ | with_reducible refine st_eqs ?_ | with_reducible refine st_nes ?_ | with_reducible refine st_eqb ?_
  | with_reducible refine st_isn_non ?_ | with_reducible refine st_isn_int ?_ | with_reducible refine st_isn_tup ?_ | with_reducible refine st_isn_str ?_ | with_reducible refine st_isn_bl ?_
  | with_reducible refine st_isnt_non ?_ | with_reducible refine st_isnt_int ?_ | with_reducible refine st_isnt_tup ?_ | with_reducible refine st_isnt_str ?_
  | with_reducible refine st_int ?_ | with_reducible refine st_intb ?_ | with_reducible refine st_abs ?_ | with_reducible refine st_min2 ?_ | with_reducible refine st_max2 ?_
  | with_reducible refine st_tup_l ?_ | with_reducible refine st_tup_t ?_ | with_reducible refine st_lst_t ?_ | with_reducible refine st_lst_l ?_
  | with_reducible refine st_sl_from ?_ | with_reducible refine st_sl_to ?_
  | with_reducible refine st_lx0 ?_ | with_reducible refine st_lx1 ?_ | with_reducible refine st_lx2 ?_ | with_reducible refine st_lx3 ?_
  | with_reducible refine st_mod (by walk_at "side") ?_ | with_reducible refine st_div (by walk_at "side") ?_ | with_reducible refine st_mul (by walk_at "side") ?_ | with_reducible refine st_mul' (by walk_at "side") ?_
  | with_reducible refine st_isi rfl ?_
  | (with_reducible refine And.intro (Nat.le_of_ble_eq_true rfl) ?_)
  | (refine And.intro (rfl : (_ : Nat) = _) ?_)
  | with_reducible refine st_dT (by walk_at "cond") ?_ | with_reducible refine st_dF (by walk_at "cond") ?_)
local macro_rules | `(tactic| walk_at "hd") => `(tactic| (with_reducible conv => whnf))
local macro_rules | `(tactic| walk_at "run") => `(tactic| ((with_reducible conv => whnf); repeat (walk_at "st"; (with_reducible conv => whnf))))
/-! ### a round that is drawn -/
theorem use_edges {a g l : Addr} {n rows : Nat} {b : Bool} {S : Sto} {Q : DK} (n0 : 0 < n) (n1 : n ≤ 100) (hr : rows ≤ 100) (sk : Sk S a g l)
    (q : ∀ (es : List Ed) p S', S p = none → Sk S' a g l → S' p = some (.lst (es.map edD)) → es.length = rows → Below n es → (∃ m, Pot es m) → (∀ e ∈ es, -(3 * W0) ≤ e.2.2 ∧ e.2.2 ≤ 3 * W0) → (∀ c o, c ≠ a → c ≠ g → S c = some o → S' c = some o) → Q (.ref p) S') :
    sp_law_edges (.ref a) (iD n) (iD rows) (.bl b) S Q := ⟨a, g, l, n, rows, b, rfl, rfl, rfl, rfl, n0, n1, hr, sk, q⟩
/-- closed walks -/
def Clo (r : List Ed) : Prop := ∀ p : Nat → Int, (r.map fun e => p e.1 - p e.2.1).sum = 0
def rw_ (row : List Nat) (i : Nat) : Nat := (row[i]?).getD 0
theorem er_map {α β : Type} (f : α → β) : ∀ (l : List α) (k : Nat), (l.map f).eraseIdx k = (l.eraseIdx k).map f
  | [], _ => rfl
  | _ :: _, 0 => rfl
  | x :: l, k + 1 => by
    show f x :: (l.map f).eraseIdx k = f x :: (l.eraseIdx k).map f
    rw [er_map f l k]
theorem st_popat {A : Addr} {d : D} {ds : List D} {k : Nat} {S : Sto} {Q : DK} (e : S A = some (.lst ds)) (h : ds[k]? = some d) (hl : ds.length ≤ sizeLine) (q : Q d (L3.sup S A (.lst (ds.eraseIdx k)))) : vPopAt (.ref A) [.int (k : Int)] S Q := by
  have hk := (List.getElem?_eq_some_iff.mp h).1
  have i : ixN ds.length (k : Int) = some k := by
    unfold ixN
    rw [if_pos (by omega), if_pos (by omega)]
    simp
  rw [sizeLine_v] at hl
  simp only [vPopAt, e, i]
  exact ⟨by omega, by omega, d, h, q⟩
def sp_law_round (x y z w : D) (S : Sto) (Q : DK) : Prop := ∃ (a g l : Addr) (n : Nat) (b : Bool) (total : Int), x = .ref a ∧ y = iD n ∧ z = .bl b ∧ w = .int total ∧ 0 < n ∧ n ≤ 100 ∧ -1 ≤ total ∧ total ≤ 1 ∧ Sk S a g l ∧
  ∀ (es : List Ed) p S', S p = none → Sk S' a g l → S' p = some (.lst (es.map edD)) → es.length ≤ n → Below n es → Clo es → (es.map fun e => e.2.2).sum = total → (∀ e ∈ es, -(200 * W0) ≤ e.2.2 ∧ e.2.2 ≤ 200 * W0) → (∀ c o, c ≠ a → c ≠ g → S c = some o → S' c = some o) → Q (.ref p) S'
-- _law_round : 0=scale 1=many 2=great 3=total 4=left 5=row 6=lap 7=edges 8=rest 9=k 10=weight
def rd_law_round : DTS :=
    (dSeq (dAsg (dLstRgM (dVar 1)) (dTg (.nm 4)))
    (dSeq (dAsg (dLstM dNil) (dTg (.nm 5)))
    (dSeq (dFor (iRange1 (dOp vAdd (dC (.int 1)) (dCall (a3 sp_law_load) (dCons (dVar 0) (dCons (dC (.int 4)) (dCons (dVar 1) dNil)))))) (dTg (.nm 6)) (dDrop (dLM vAppend (dVar 5) (dCons (dLM vPopAt (dVar 4) (dCons (dCall (a3 sp_law_load) (dCons (dVar 0) (dCons (dC (.int 5)) (dCons (dCB vLen (dCons (dVar 4) dNil)) dNil)))) dNil)) dNil))))
    (dSeq (dAsg (dLstM dNil) (dTg (.nm 7)))
    (dSeq (dAsg (dVar 3) (dTg (.nm 8)))
    (dSeq (dFor (iRange1 (dCB vLen (dCons (dVar 5) dNil))) (dTg (.nm 9)) (dSeq (dAsg (dIfE (dTest (dOp vLt (dOp vAdd (dVar 9) (dC (.int 1))) (dCB vLen (dCons (dVar 5) dNil)))) (dCall (a2 sp_law_weight) (dCons (dVar 0) (dCons (dVar 2) dNil))) (dVar 8)) (dTg (.nm 10)))
    (dSeq (dAsg (dOp vSub (dVar 8) (dVar 10)) (dTg (.nm 8)))
    (dDrop (dLM vAppend (dVar 7) (dCons (dTup (dCons (dOp vIx (dVar 5) (dVar 9)) (dCons (dOp vIx (dVar 5) (dOp vMod (dCB vInt (dCons (dOp vAdd (dVar 9) (dC (.int 1))) dNil)) (dCB vLen (dCons (dVar 5) dNil)))) (dCons (dVar 10) dNil)))) dNil))))))
    (dRet (dVar 7))))))))
theorem rd_law_round_ok : ∀ ds S P, (a4 sp_law_round) ds S P → rd_law_round (DEnds.of P) (dstart ["scale", "many", "great", "total", "left", "row", "lap", "edges", "rest", "k", "weight"] ds) S := by
  intro ds S P hsp
  rcases ds with _ | ⟨x, _ | ⟨y, _ | ⟨z, _ | ⟨w, _ | ⟨u, ds⟩⟩⟩⟩⟩ <;> first | exact (hsp : False).elim | skip
  obtain ⟨a, g, l, n, b, total, rfl, rfl, rfl, rfl, n0, n1, t0, t1, sk, q⟩ := (hsp : sp_law_round x y z w S P)
  unfold rd_law_round
  walk_at "run"
  refine ⟨by omega, by omega, ?_⟩
  rw [Int.toNat_natCast]
  intro L hL
  have skL := sk.sup (sk.na hL) (sk.ng hL) (sk.nl hL) (o := .lst (rngD 0 n))
  walk_at "run"
  intro R hR
  have hRL : R ≠ L := fun z => by subst z; rw [sup_same] at hR; cases hR
  have hRS : S R = none := by rw [sup_ne hRL] at hR; exact hR
  have skR := skL.sup (skL.na hR) (skL.ng hR) (skL.nl hR) (o := .lst [])
  have la := sk.na hL
  have lg := sk.ng hL
  have ll := sk.nl hL
  have ra := sk.na hRS
  have rg := sk.ng hRS
  have rl := sk.nl hRS
  walk_at "run"
  refine use_load (k := 4) skR (by omega) (by omega) fun r1 S1 h10 h11 sk1 s1 => ?_
  obtain ⟨m, rfl⟩ := Int.eq_ofNat_of_zero_le h10
  walk_at "run"
  refine ⟨by omega, by omega, ?_⟩
  rw [show ((1 : Int) + (m : Int)).toNat = 1 + m by omega]
  refine forL_inv (fun i δ S' => ∃ (lf row : List Nat) (x6 : Option D), Sk S' a g l ∧ S' L = some (.lst (lf.map iD)) ∧ S' R = some (.lst (row.map iD)) ∧ lf.length + i = n ∧ row.length = i ∧ (∀ v ∈ lf, v < n) ∧ (∀ v ∈ row, v < n) ∧ (∀ c o, c ≠ a → c ≠ g → S c = some o → S' c = some o) ∧
    δ = [some (.ref a), some (iD n), some (.bl b), some (.int total), some (.ref L), some (.ref R), x6, none, none, none, none]) (fun _ _ _ _ => True.intro) _ 0 _ _
    ⟨List.range n, [], none, sk1, ?_, ?_, by simp, rfl, fun v hv => List.mem_range.mp hv, (by intro _ h; cases h), fun c o h1 h2 h3 => ?_, rfl⟩ ?_ ?_
  · rw [s1 L la lg, sup_ne (Ne.symm hRL), sup_same]
    congr 2
    unfold rngD
    exact List.map_congr_left fun i _ => by rw [Int.zero_add]
  · rw [s1 R ra rg, sup_same]; rfl
  · rw [s1 c h1 h2, sup_ne fun z => by subst z; rw [hRS] at h3; cases h3]
    rw [sup_ne fun z => by subst z; rw [hL] at h3; cases h3]
    exact h3
  · rintro j d _ S' hj ⟨lf, row, x6, sk2, eL, eR, hlf, hrow, blf, brow, kp, rfl⟩ D2 hrt _ hnx _
    obtain ⟨hj1, rfl⟩ := rng_at hj
    rw [Nat.zero_add] at hlf hrow hnx
    walk_at "run"
    rw [isSeq_ref]
    refine ⟨⟨_, eR⟩, ?_⟩
    walk_at "run"
    rw [isSeq_ref]
    refine ⟨⟨_, eL⟩, ?_⟩
    walk_at "run"
    refine st_len_r eL ?_
    rw [List.length_map]
    refine use_load (k := 5) sk2 (by omega) (by omega) fun r2 S3 h20 h21 sk3 s3 => ?_
    obtain ⟨k, rfl⟩ := Int.eq_ofNat_of_zero_le h20
    have hk : k < lf.length := by omega
    have eL3 : S3 L = some (.lst (lf.map iD)) := by rw [s3 L la lg]; exact eL
    have eR3 : S3 R = some (.lst (row.map iD)) := by rw [s3 R ra rg]; exact eR
    walk_at "run"
    refine st_popat (k := k) (d := iD lf[k]) eL3 (by rw [List.getElem?_map, List.getElem?_eq_getElem hk]; rfl) (by rw [List.length_map, sizeLine_v]; omega) ?_
    walk_at "run"
    refine st_append (xs := row.map iD) (by rw [sup_ne hRL]; exact eR3) (by rw [List.length_map, sizeLine_v]; omega) ?_
    walk_at "run"
    have ck : lf[k] < n := blf _ (List.getElem_mem hk)
    refine hnx _ _ ⟨lf.eraseIdx k, row ++ [lf[k]], _, (sk3.sup la lg ll).sup ra rg rl, ?_, by rw [sup_same, List.map_append]; rfl, ?_, by rw [List.length_append, hrow]; rfl, fun v hv => blf v (List.mem_of_mem_eraseIdx hv), fun v hv => ?_, fun c o h1 h2 h3 => ?_, rfl⟩
    · rw [sup_ne (Ne.symm hRL), sup_same, er_map]
    · rw [List.length_eraseIdx_of_lt hk]; omega
    · rcases List.mem_append.mp hv with hv | hv
      · exact brow v hv
      · rw [List.mem_singleton.mp hv]; exact ck
    · rw [sup_ne fun z => by subst z; rw [hRS] at h3; cases h3]
      rw [sup_ne fun z => by subst z; rw [hL] at h3; cases h3]
      rw [s3 c h1 h2]
      exact kp c o h1 h2 h3
  · rintro _ S' ⟨lf, row, x6, sk2, eL, eR, hlf, hrow, blf, brow, kp, rfl⟩
    rw [rng_len, Nat.zero_add] at hlf hrow
    walk_at "run"
    intro E hE
    have ea := sk2.na hE
    have eg := sk2.ng hE
    have el := sk2.nl hE
    have hER : E ≠ R := fun z => by subst z; rw [eR] at hE; cases hE
    have hES : S E = none := by
      cases e : S E with
      | none => rfl
      | some o => rw [kp E o ea eg e] at hE; cases hE
    walk_at "run"
    refine st_len_r (by rw [sup_ne (Ne.symm hER)]; exact eR) ?_
    rw [List.length_map]
    refine ⟨by omega, by omega, ?_⟩
    rw [Int.toNat_natCast]
    have hW : (7 : Int) ≤ W0 := by unfold W0; omega
    refine forL_inv (fun k δ S'' => ∃ (es : List Ed) (rest : Int) (x9 x10 : Option D), Sk S'' a g l ∧ S'' R = some (.lst (row.map iD)) ∧ S'' E = some (.lst (es.map edD)) ∧ es.length = k ∧ Below n es ∧ (∀ p : Nat → Int, (es.map fun e => p e.1 - p e.2.1).sum = p (rw_ row 0) - p (rw_ row (k % row.length))) ∧
      (es.map fun e => e.2.2).sum = total - rest ∧ (k = row.length → rest = 0) ∧ -((k : Int) * W0 + 1) ≤ rest ∧ rest ≤ (k : Int) * W0 + 1 ∧ (∀ e ∈ es, -(200 * W0) ≤ e.2.2 ∧ e.2.2 ≤ 200 * W0) ∧ (∀ c o, c ≠ a → c ≠ g → S c = some o → S'' c = some o) ∧
      δ = [some (.ref a), some (iD n), some (.bl b), some (.int total), some (.ref L), some (.ref R), x6, some (.ref E), some (.int rest), x9, x10]) (fun _ _ _ _ => True.intro) _ 0 _ _
      ⟨[], total, none, none, sk2.sup ea eg el, by rw [sup_ne (Ne.symm hER)]; exact eR, sup_same, rfl, (by intro _ h; cases h), fun p => by rw [Nat.zero_mod]; simp, by simp, fun h => by omega, by omega, by omega, (by intro _ h; cases h), fun c o h1 h2 h3 => ?_, rfl⟩ ?_ ?_
    · rw [sup_ne fun z => by subst z; rw [hES] at h3; cases h3]
      exact kp c o h1 h2 h3
    · rintro k d _ S'' hj2 ⟨es, rest, x9, x10, sk3, eR2, eE, hel, bl, clo, tot, last, rb0, rb1, wb, kp2, rfl⟩ D3 hrt3 _ hnx3 _
      obtain ⟨hkm, rfl⟩ := rng_at hj2
      rw [Nat.zero_add] at hel clo last hnx3 rb0 rb1
      have hm : row.length ≤ 100 := by omega
      have hm0 : 0 < row.length := by omega
      have hk1 : (k + 1) % row.length < row.length := Nat.mod_lt _ hm0
      have c1 : row[k] < n := brow _ (List.getElem_mem hkm)
      have c2 : row[(k + 1) % row.length] < n := brow _ (List.getElem_mem hk1)
      have e1 : rw_ row (k % row.length) = row[k] := by unfold rw_; rw [Nat.mod_eq_of_lt hkm, List.getElem?_eq_getElem hkm]; rfl
      have e2 : rw_ row ((k + 1) % row.length) = row[(k + 1) % row.length] := by unfold rw_; rw [List.getElem?_eq_getElem hk1]; rfl
      have g1 : (row.map iD)[k]? = some (iD row[k]) := by rw [List.getElem?_map, List.getElem?_eq_getElem hkm]; rfl
      have g2 : (row.map iD)[(k + 1) % row.length]? = some (iD row[(k + 1) % row.length]) := by rw [List.getElem?_map, List.getElem?_eq_getElem hk1]; rfl
      generalize row[k] = v1 at c1 e1 g1
      generalize row[(k + 1) % row.length] = v2 at c2 e2 g2
      walk_at "run"
      refine st_len_r eR2 ?_
      rw [List.length_map]
      walk_at "run"
      by_cases z : (k : Int) + 1 < (row.length : Int)
      · rw [decide_eq_true z]
        walk_at "run"
        refine use_weight sk3 fun w S4 w0 w1 sk4 s4 => ?_
        walk_at "run"
        have emod : ((k : Int) + 1) % (row.length : Int) = (((k + 1) % row.length : Nat) : Int) := by rw [Int.natCast_emod]; rfl
        rw [isSeq_ref]
        refine ⟨⟨_, (show S4 E = some (.lst (es.map edD)) by rw [s4 E ea eg]; exact eE)⟩, ?_⟩
        walk_at "run"
        refine st_atr (show S4 R = some (.lst (row.map iD)) by rw [s4 R ra rg]; exact eR2) g1 ?_
        walk_at "run"
        refine st_len_r (show S4 R = some (.lst (row.map iD)) by rw [s4 R ra rg]; exact eR2) ?_
        rw [List.length_map]
        walk_at "run"
        rw [emod]
        refine st_atr (show S4 R = some (.lst (row.map iD)) by rw [s4 R ra rg]; exact eR2) g2 ?_
        walk_at "run"
        refine st_append (show S4 E = some (.lst (es.map edD)) by rw [s4 E ea eg]; exact eE) (by rw [List.length_map, sizeLine_v]; omega) ?_
        walk_at "run"
        refine hnx3 _ _ ⟨es ++ [(v1, v2, w)], rest - w, _, _, sk4.sup ea eg el, by rw [sup_ne (Ne.symm hER), s4 R ra rg]; exact eR2, by rw [sup_same, List.map_append]; rfl, by rw [List.length_append, hel]; rfl, fun e he => ?_, fun p => ?_, ?_, fun h => by omega, ?_, ?_, fun e he => ?_, fun c o h1 h2 h3 => ?_, rfl⟩
        · rcases List.mem_append.mp he with he | he
          · exact bl e he
          · rw [List.mem_singleton.mp he]; exact ⟨c1, c2⟩
        · rw [List.map_append, List.sum_append, clo p, e1, e2]
          simp only [List.map_cons, List.map_nil, List.sum_cons, List.sum_nil]
          omega
        · rw [List.map_append, List.sum_append, tot]
          simp only [List.map_cons, List.map_nil, List.sum_cons, List.sum_nil]
          omega
        · rw [Int.natCast_add, Int.add_mul]; simp only [Int.natCast_one, Int.one_mul]; omega
        · rw [Int.natCast_add, Int.add_mul]; simp only [Int.natCast_one, Int.one_mul]; omega
        · rcases List.mem_append.mp he with he | he
          · exact wb e he
          · rw [List.mem_singleton.mp he]; show -(200 * W0) ≤ w ∧ w ≤ 200 * W0; omega
        · rw [sup_ne fun z => by subst z; rw [hES] at h3; cases h3]
          rw [s4 c h1 h2]
          exact kp2 c o h1 h2 h3
      · rw [decide_eq_false z]
        walk_at "run"
        have hl1 : k + 1 = row.length := by omega
        have emod : ((k : Int) + 1) % (row.length : Int) = (((k + 1) % row.length : Nat) : Int) := by rw [Int.natCast_emod]; rfl
        rw [isSeq_ref]
        refine ⟨⟨_, eE⟩, ?_⟩
        walk_at "run"
        refine st_atr eR2 g1 ?_
        walk_at "run"
        refine st_len_r eR2 ?_
        rw [List.length_map]
        walk_at "run"
        rw [emod]
        refine st_atr eR2 g2 ?_
        walk_at "run"
        refine st_append eE (by rw [List.length_map, sizeLine_v]; omega) ?_
        walk_at "run"
        have kw : (k : Int) * W0 ≤ 100 * W0 := Int.mul_le_mul_of_nonneg_right (by omega) (by omega)
        refine hnx3 _ _ ⟨es ++ [(v1, v2, rest)], rest - rest, _, _, sk3.sup ea eg el, by rw [sup_ne (Ne.symm hER)]; exact eR2, by rw [sup_same, List.map_append]; rfl, by rw [List.length_append, hel]; rfl, fun e he => ?_, fun p => ?_, ?_, fun h => by omega, ?_, ?_, fun e he => ?_, fun c o h1 h2 h3 => ?_, rfl⟩
        · rcases List.mem_append.mp he with he | he
          · exact bl e he
          · rw [List.mem_singleton.mp he]; exact ⟨c1, c2⟩
        · rw [List.map_append, List.sum_append, clo p, e1, e2]
          simp only [List.map_cons, List.map_nil, List.sum_cons, List.sum_nil]
          omega
        · rw [List.map_append, List.sum_append, tot]
          simp only [List.map_cons, List.map_nil, List.sum_cons, List.sum_nil]
          omega
        · have h0 : (0 : Int) ≤ ((k + 1 : Nat) : Int) * W0 := Int.mul_nonneg (by omega) (by omega)
          omega
        · have h0 : (0 : Int) ≤ ((k + 1 : Nat) : Int) * W0 := Int.mul_nonneg (by omega) (by omega)
          omega
        · rcases List.mem_append.mp he with he | he
          · exact wb e he
          · rw [List.mem_singleton.mp he]; show -(200 * W0) ≤ rest ∧ rest ≤ 200 * W0; omega
        · rw [sup_ne fun z => by subst z; rw [hES] at h3; cases h3]
          exact kp2 c o h1 h2 h3
    · rintro _ S'' ⟨es, rest, x9, x10, sk3, eR2, eE, hel, bl, clo, tot, last, rb0, rb1, wb, kp2, rfl⟩
      rw [rng_len, Nat.zero_add] at hel clo last
      walk_at "run"
      refine .of (q es E S'' hES sk3 eE (by omega) bl (fun p => ?_) (by rw [tot, last rfl]; omega) wb kp2)
      rw [clo p, Nat.mod_self]
      omega
theorem use_round {a g l : Addr} {n : Nat} {b : Bool} {total : Int} {S : Sto} {Q : DK} (n0 : 0 < n) (n1 : n ≤ 100) (t0 : -1 ≤ total) (t1 : total ≤ 1) (sk : Sk S a g l)
    (q : ∀ (es : List Ed) p S', S p = none → Sk S' a g l → S' p = some (.lst (es.map edD)) → es.length ≤ n → Below n es → Clo es → (es.map fun e => e.2.2).sum = total → (∀ e ∈ es, -(200 * W0) ≤ e.2.2 ∧ e.2.2 ≤ 200 * W0) → (∀ c o, c ≠ a → c ≠ g → S c = some o → S' c = some o) → Q (.ref p) S') :
    sp_law_round (.ref a) (iD n) (.bl b) (.int total) S Q := ⟨a, g, l, n, b, total, rfl, rfl, rfl, rfl, n0, n1, t0, t1, sk, q⟩
end L3

set_option Elab.async false
set_option maxRecDepth 100000
set_option linter.all false
set_option maxHeartbeats 4000000
namespace L3
open PySem L2 L3.KW
local macro_rules | `(tactic| walk_at "cond") => `(tactic| first | omega | (simp only [List.length_append, List.length_cons, List.length_nil, List.length_take, List.length_drop, List.length_map, List.length_reverse]; omega) | rfl | decide)
local macro_rules | `(tactic| walk_at "side") => `(tactic| first | assumption | omega | (simp only [List.length_append, List.length_cons, List.length_nil, List.length_take, List.length_drop, List.length_map, List.length_reverse, sizeLine_val]; omega) | decide)
local macro_rules | `(tactic| walk_at "st") => `(tactic| first
  | with_reducible refine st_ix0 ?_ | with_reducible refine st_ix1 ?_ | with_reducible refine st_ix2 ?_ | with_reducible refine st_ix3 ?_ | with_reducible refine st_ix4 ?_
  | with_reducible refine st_add_pp (by walk_at "side") ?_ | with_reducible refine st_add_p1 (by walk_at "side") ?_ | with_reducible refine st_add_1p (by walk_at "side") ?_
  | with_reducible refine st_add ?_ | with_reducible refine st_sub ?_ | with_reducible refine st_iadd ?_ | with_reducible refine st_neg ?_
  | with_reducible refine st_len_p ?_ | with_reducible refine st_len_lp ?_ | with_reducible refine st_len_rp ?_ | with_reducible refine st_len_t ?_ | with_reducible refine st_len_l ?_
  | with_reducible refine st_add_t (by walk_at "side") ?_ | with_reducible refine st_add_l (by walk_at "side") ?_ | with_reducible refine st_add_s (by walk_at "side") ?_
  | with_reducible refine st_tru_bl ?_ | with_reducible refine st_tru_int ?_ | with_reducible refine st_tru_tup ?_ | with_reducible refine st_tru_lst ?_ | with_reducible refine st_tru_non ?_
  | with_reducible refine st_at (by assumption) ?_ | with_reducible refine st_atl (by assumption) ?_
  | with_reducible refine st_iteT ?_ | with_reducible refine st_iteF ?_ | with_reducible refine st_not ?_
  | with_reducible refine st_lt ?_ | with_reducible refine st_le ?_ | with_reducible refine st_gt ?_ | with_reducible refine st_ge ?_ | with_reducible refine st_eqi ?_ | with_reducible refine st_nei ?_ | with_reducible refine st_eqs ?_ | with_reducible refine st_nes ?_ | with_reducible refine st_eqb ?_
  | with_reducible refine st_isn_non ?_ | with_reducible refine st_isn_int ?_ | with_reducible refine st_isn_tup ?_ | with_reducible refine st_isn_str ?_ | with_reducible refine st_isn_bl ?_
  | with_reducible refine st_isnt_non ?_ | with_reducible refine st_isnt_int ?_ | with_reducible refine st_isnt_tup ?_ | with_reducible refine st_isnt_str ?_
  | with_reducible refine st_int ?_ | with_reducible refine st_intb ?_ | with_reducible refine st_abs ?_ | with_reducible refine st_min2 ?_ | with_reducible refine st_max2 ?_
  | with_reducible refine st_tup_l ?_ | with_reducible refine st_tup_t ?_ | with_reducible refine st_lst_t ?_ | with_reducible refine st_lst_l ?_
  | with_reducible refine st_sl_from ?_ | with_reducible refine st_sl_to ?_
  | with_reducible refine st_lx0 ?_ | with_reducible refine st_lx1 ?_ | with_reducible refine st_lx2 ?_ | with_reducible refine st_lx3 ?_
  | with_reducible refine st_mod (by walk_at "side") ?_ | with_reducible refine st_div (by walk_at "side") ?_ | with_reducible refine st_mul (by walk_at "side") ?_ | with_reducible refine st_mul' (by walk_at "side") ?_
  | with_reducible refine st_isi rfl ?_
  | (with_reducible refine And.intro (Nat.le_of_ble_eq_true rfl) ?_)
  | (refine And.intro (rfl : (_ : Nat) = _) ?_)
  | with_reducible refine st_dT (by walk_at "cond") ?_ | with_reducible refine st_dF (by walk_at "cond") ?_)
local macro_rules | `(tactic| walk_at "hd") => `(tactic| (with_reducible conv => whnf))
local macro_rules | `(tactic| walk_at "run") => `(tactic| ((with_reducible conv => whnf); repeat (walk_at "st"; (with_reducible conv => whnf))))
/-! ### what the law asks of drawn edges -/
theorem rep_lD (n : Nat) (o : Option Int) : (List.replicate n [oI o]).flatten = lD n fun _ => o := by
  induction n with
  | zero => rfl
  | succ n ih =>
    rw [List.replicate_succ', List.flatten_append, ih]
    unfold lD
    rw [List.range_succ, List.map_append]
    rfl
theorem rep_n (n : Nat) : (List.replicate n [D.non]).flatten = lD n fun _ => none := rep_lD n none
theorem rep_z (n : Nat) : (List.replicate n [D.int 0]).flatten = lD n zF := rep_lD n (some 0)
theorem from1_set (o : Nat) : fset (fun _ => none) o (some 0) = from1 o := by
  funext v
  unfold fset from1
  rfl
theorem lD_oI (n : Nat) (f : Sm) : lD n f = ((List.range n).map f).map oI := by unfold lD; rw [List.map_map]; rfl
theorem gi_int {ds : List D} (h : ds.all isI = true) : ∀ v, v < ds.length → ds[v]? = some (.int (gi ds v)) := fun v hv => by
  have e := List.getElem?_eq_getElem hv
  have h2 := List.all_eq_true.mp h ds[v] (List.getElem_mem hv)
  rw [e]
  unfold gi
  rw [e]
  cases hd : ds[v] <;> rw [hd] at h2 <;> first | rfl | cases h2
theorem potB_pot {n : Nat} {es : List Ed} {ds : List D} (h : potB n es (.tup ds) = true) : Pot es (gi ds) := fun e he => by
  simp only [potB, Bool.and_eq_true] at h
  exact of_decide_eq_true (List.all_eq_true.mp h.2 e he)
theorem potB_no {n : Nat} {es : List Ed} {f : Sm} {ds : List D} (bl : Below n es) (ns : ¬ Stable es (passes es f n)) : potB n es (.tup ds) = false := by
  cases e : potB n es (.tup ds) with
  | false => rfl
  | true => exact absurd (potB_pot e) (no_pot bl ns _)
theorem zF_all (v : Nat) : (zF v).isSome = true := rfl
theorem potB_st {n : Nat} {es : List Ed} {f : Sm} (bl : Below n es) (ha : ∀ v, (f v).isSome = true) (st : Stable es f) : potB n es (.tup (lD n f)) = true := by
  have hp := stable_pot ha st
  have g : ∀ v, v < n → gi (lD n f) v = (f v).getD 0 := fun v hv => by
    unfold gi
    rw [lD_get hv]
    have := ha v
    cases e : f v with
    | none => rw [e] at this; cases this
    | some x => rfl
  simp only [potB, Bool.and_eq_true]
  refine ⟨⟨decide_eq_true (lD_len n f), ?_⟩, ?_⟩
  · refine List.all_eq_true.mpr fun d hd => ?_
    unfold lD at hd
    obtain ⟨v, _, rfl⟩ := List.mem_map.mp hd
    have := ha v
    cases e : f v with
    | none => rw [e] at this; cases this
    | some x => rfl
  · refine List.all_eq_true.mpr fun e he => decide_eq_true ?_
    obtain ⟨h1, h2⟩ := bl e he
    rw [g _ h1, g _ h2]
    exact hp e he
theorem Gd_oI (o : Option Int) : Gd (oI o) = true := by cases o <;> rfl
theorem Gd_lD {n : Nat} {f : Sm} : ∀ d ∈ lD n f, Gd d = true := fun d hd => by
  unfold lD at hd
  obtain ⟨v, _, rfl⟩ := List.mem_map.mp hd
  exact Gd_oI _
theorem cut_mem {ds : List D} {lo hi : Option Int} {d : D} (h : d ∈ cut ds lo hi) : d ∈ ds := List.mem_of_mem_drop (List.mem_of_mem_take h)
theorem cut_len (ds : List D) (lo hi : Option Int) : (cut ds lo hi).length ≤ ds.length := by
  unfold cut
  rw [List.length_take, List.length_drop]
  omega
theorem st_neq {b c : Bool} {S : Sto} {Q : DK} (h : Q (.bl (!decide (b = c))) S) : vNe (.bl b) (.bl c) S Q := h
theorem lc_load {a g l : Addr} {k : Nat} {m w : Int} {n0 : Option Nat} {Q : DK} {δ : DSt} {vs : List Nat} {i : Nat} (h0 : ∀ d, dset (dwipe δ vs) i (some d) = dset (dwipe δ vs) i (some d)) : True := trivial
theorem log2_lt {i : Int} {k : Nat} (h0 : -(2 ^ k : Int) < i) (h1 : i < 2 ^ k) (hk : 0 < k) : i.natAbs.log2 < k := by
  by_cases z : i.natAbs = 0
  · rw [z, Nat.log2_zero]; exact hk
  · refine (Nat.log2_lt z).mpr ?_
    have : ((2 ^ k : Nat) : Int) = 2 ^ k := by rw [Int.natCast_pow]; rfl
    omega
theorem stab_of {n : Nat} {es : List Ed} {f : Sm} (bl : Below n es) (st : Stable es (passes es zF n)) : Stable es (passes es f n) := pot_stable bl (stable_pot (passes_all zF_all n) st)
theorem below_snoc {n : Nat} {es : List Ed} {e : Ed} (bl : Below n es) (h1 : e.1 < n) (h2 : e.2.1 < n) : Below n (es ++ [e]) := fun x hx => by
  rcases List.mem_append.mp hx with hx | hx
  · exact bl x hx
  · rw [List.mem_singleton.mp hx]; exact ⟨h1, h2⟩
theorem longer_st {n : Nat} {es : List Ed} {one other : Nat} {back : Int} (bl : Below n es) (h1 : one < n) (h2 : other < n) (st : Stable es (passes es zF n)) (hb : passes es (from1 one) n other = some back) :
    Stable (es ++ [(other, one, 0 - back)]) (passes (es ++ [(other, one, 0 - back)]) zF n) := by
  have hp := stable_pot (passes_all zF_all n) st
  have s2 : Stable es (passes es (from1 one) n) := stab_of bl st
  obtain ⟨q, hq⟩ := longer_pot hp s2 (passes_le (show from1 one one = some 0 from if_pos rfl) n) hb
  exact pot_stable (below_snoc bl h2 h1) hq
theorem shorter_st {n : Nat} {es : List Ed} {one other : Nat} {back : Int} (hb : passes es (from1 one) n other = some back) :
    ¬ Stable (es ++ [(other, one, -1 - back)]) (passes (es ++ [(other, one, -1 - back)]) zF n) := fun st => shorter_none rfl hb _ (stable_pot (passes_all zF_all n) st)
end L3

set_option Elab.async false
set_option maxRecDepth 100000
set_option linter.all false
set_option maxHeartbeats 4000000
namespace L3
open PySem L2 L3.KW
local macro_rules | `(tactic| walk_at "cond") => `(tactic| first | omega | (simp only [List.length_append, List.length_cons, List.length_nil, List.length_take, List.length_drop, List.length_map, List.length_reverse]; omega) | rfl | decide)
local macro_rules | `(tactic| walk_at "side") => `(tactic| first | assumption | omega | (simp only [List.length_append, List.length_cons, List.length_nil, List.length_take, List.length_drop, List.length_map, List.length_reverse, sizeLine_val]; omega) | decide)
local macro_rules | `(tactic| walk_at "st") => `(tactic| first
  | with_reducible refine st_ix0 ?_ | with_reducible refine st_ix1 ?_ | with_reducible refine st_ix2 ?_ | with_reducible refine st_ix3 ?_ | with_reducible refine st_ix4 ?_
  | with_reducible refine st_add_pp (by walk_at "side") ?_ | with_reducible refine st_add_p1 (by walk_at "side") ?_ | with_reducible refine st_add_1p (by walk_at "side") ?_
  | with_reducible refine st_add ?_ | with_reducible refine st_sub ?_ | with_reducible refine st_iadd ?_ | with_reducible refine st_neg ?_
  | with_reducible refine st_len_p ?_ | with_reducible refine st_len_lp ?_ | with_reducible refine st_len_rp ?_ | with_reducible refine st_len_t ?_ | with_reducible refine st_len_l ?_
  | with_reducible refine st_add_t (by walk_at "side") ?_ | with_reducible refine st_add_l (by walk_at "side") ?_ | with_reducible refine st_add_s (by walk_at "side") ?_
  | with_reducible refine st_tru_bl ?_ | with_reducible refine st_tru_int ?_ | with_reducible refine st_tru_tup ?_ | with_reducible refine st_tru_lst ?_ | with_reducible refine st_tru_non ?_
  | with_reducible refine st_at (by assumption) ?_ | with_reducible refine st_atl (by assumption) ?_
  | with_reducible refine st_iteT ?_ | with_reducible refine st_iteF ?_ | with_reducible refine st_not ?_
  | with_reducible refine st_lt ?_ | with_reducible refine st_le ?_ | with_reducible refine st_gt ?_ | with_reducible refine st_ge ?_ | with_reducible refine st_eqi ?_ | with_reducible refine st_nei ?_ | with_reducible refine st_eqs ?_ | with_reducible refine st_nes ?_ | with_reducible refine st_eqb ?_
  | with_reducible refine st_isn_non ?_ | with_reducible refine st_isn_int ?_ | with_reducible refine st_isn_tup ?_ | with_reducible refine st_isn_str ?_ | with_reducible refine st_isn_bl ?_
  | with_reducible refine st_isnt_non ?_ | with_reducible refine st_isnt_int ?_ | with_reducible refine st_isnt_tup ?_ | with_reducible refine st_isnt_str ?_
  | with_reducible refine st_int ?_ | with_reducible refine st_intb ?_ | with_reducible refine st_abs ?_ | with_reducible refine st_min2 ?_ | with_reducible refine st_max2 ?_
  | with_reducible refine st_tup_l ?_ | with_reducible refine st_tup_t ?_ | with_reducible refine st_lst_t ?_ | with_reducible refine st_lst_l ?_
  | with_reducible refine st_sl_from ?_ | with_reducible refine st_sl_to ?_
  | with_reducible refine st_lx0 ?_ | with_reducible refine st_lx1 ?_ | with_reducible refine st_lx2 ?_ | with_reducible refine st_lx3 ?_
  | with_reducible refine st_mod (by walk_at "side") ?_ | with_reducible refine st_div (by walk_at "side") ?_ | with_reducible refine st_mul (by walk_at "side") ?_ | with_reducible refine st_mul' (by walk_at "side") ?_
  | with_reducible refine st_isi rfl ?_
  | (with_reducible refine And.intro (Nat.le_of_ble_eq_true rfl) ?_)
  | (refine And.intro (rfl : (_ : Nat) = _) ?_)
  | with_reducible refine st_dT (by walk_at "cond") ?_ | with_reducible refine st_dF (by walk_at "cond") ?_)
local macro_rules | `(tactic| walk_at "hd") => `(tactic| (with_reducible conv => whnf))
local macro_rules | `(tactic| walk_at "run") => `(tactic| ((with_reducible conv => whnf); repeat (walk_at "st"; (with_reducible conv => whnf))))
set_option pp.maxSteps 300
theorem st_slT {ds : List D} {lo hi : Option Int} {S : Sto} {Q : DK} (h : Q (.tup (cut ds lo hi)) S) : vSl (.tup ds) lo hi S Q := h
theorem st_nebb {b : Bool} {S : Sto} {Q : DK} (h : Q (.bl false) S) : vNe (.bl b) (.bl b) S Q := by cases b <;> exact h
theorem it_l {ds : List D} {S : Sto} : itOf S (.lst ds) = some (fun _ => True, ds) := rfl
theorem it_r {A : Addr} {ds : List D} {S : Sto} (e : S A = some (.lst ds)) : itOf S (.ref A) = some (fun S' => S' A = some (.lst ds), ds) := by simp only [itOf, e]
theorem seq_r {A : Addr} {ds : List D} {S : Sto} (e : S A = some (.lst ds)) : seqOf S (.ref A) = some ds := by simp only [seqOf, e]
theorem potB_of {n : Nat} {es : List Ed} {ds : List D} {S : Sto} {Q : DK} (bl : Below n es) (hn : n ≤ 100) (hel : es.length ≤ 1000) (g : ∀ d ∈ ds, Gd d = true) (q : Q (.bl (potB n es (.tup ds))) S) : sp_is_potentials (iD n) (esD es) (.tup ds) S Q := use_potentials rfl g bl hn hel q
theorem lc_loads {a g l : Addr} {x1 x2 x3 x4 x5 : Option D} {Q : DK} : ∀ (L : List D) (acc : List Int) (S : Sto), acc.length + L.length ≤ 1000 → Sk S a g l →
    (∀ (ms : List Int) S', Sk S' a g l → (∀ c, c ≠ a → c ≠ g → S' c = S c) → Q (.lst (ms.map .int)) S') →
    lcL (fun _ => True) (dTg (.nm 7)) dYes (dOp vSub (dCall (a3 sp_law_load) (dCons (dVar 0) (dCons (dC (.int 6)) (dCons (dC (.int 9)) dNil)))) (dC (.int 4))) [7] [some (.ref a), x1, x2, x3, x4, x5, none, none, none, none, none, none, none, none, none, none, none, none, none, none, none] L (acc.map .int) S Q
  | [], acc, S, hl, sk, q => ⟨trivial, q acc S sk fun _ _ _ => rfl⟩
  | d :: r, acc, S, hl, sk, q => by
    rw [List.length_cons] at hl
    refine ⟨trivial, by rw [List.length_map, sizeLine_v]; omega, ?_⟩
    walk_at "run"
    refine use_load (k := 6) sk (by omega) (by omega) fun w S1 w0 w1 sk1 s1 => ?_
    walk_at "run"
    rw [show acc.map D.int ++ [D.int (w - 4)] = (acc ++ [w - 4]).map .int by rw [List.map_append]; rfl]
    refine lc_loads r (acc ++ [w - 4]) S1 (by rw [List.length_append]; simp only [List.length_cons, List.length_nil]; omega) sk1 fun ms S2 sk2 s2 => ?_
    exact q ms S2 sk2 fun c h1 h2 => by rw [s2 c h1 h2, s1 c h1 h2]
def sp_law_asked (x y z w : D) (S : Sto) (Q : DK) : Prop := ∃ (a g l c : Addr) (n : Nat) (es : List Ed) (c0 c1 : Int), x = .ref a ∧ y = iD n ∧ z = esD es ∧ w = .ref c ∧ 0 < n ∧ n ≤ 100 ∧ Below n es ∧ es.length ≤ 500 ∧ (∀ e ∈ es, -(200 * W0) ≤ e.2.2 ∧ e.2.2 ≤ 200 * W0) ∧ Sk S a g l ∧ c ≠ a ∧ c ≠ g ∧ c ≠ l ∧ S c = some (.lst [.int c0, .int c1]) ∧
  ∀ S', Sk S' a g l → (∀ b o, b ≠ a → b ≠ g → b ≠ c → S b = some o → S' b = some o) → (Stable es (passes es zF n) → S' c = some (.lst [.int (c0 + 1), .int c1])) → (¬ Stable es (passes es zF n) → S' c = some (.lst [.int c0, .int (c1 + 1)])) → Q (.bl true) S'
-- _law_asked : 0=scale 1=many 2=edges 3=counts 4=settled 5=told 6=base 7=k 8=starts 9=start 10=begins 11=at 12=things 13=one 14=odd 15=thing 16=other 17=back 18=more 19=falls 20=longer
def rd_law_asked : DTS :=
    (dSeq (dAsg (dCall (a3 sp_law_settled) (dCons (dVar 1) (dCons (dVar 2) (dCons (dOp vMul (dLst (dCons (dC (.int 0)) dNil)) (dVar 1)) dNil)))) (dTg (.nm 4)))
    (dSeq (dAsg (dOp vAdd (dOp vIx (dVar 3) (dCB vInt (dCons (dOp vIs (dVar 4) (dC .non)) dNil))) (dC (.int 1))) (dgSub (dVar 3) (dCB vInt (dCons (dOp vIs (dVar 4) (dC .non)) dNil))))
    (dSeq (dAsg (dCall (a2 sp_falling_round) (dCons (dVar 1) (dCons (dVar 2) dNil))) (dTg (.nm 5)))
    (dSeq (dIf (dTest (dOp vIs (dVar 4) (dC .non))) (dSeq (dIf (dNot (dTest (dCall (a2 sp_law_is_falling) (dCons (dVar 2) (dCons (dVar 5) dNil))))) (dRet (dC (.bl false))) dNext)
    (dSeq (dAsg (dCB vTuple (dCons (dLc (iRange1 (dVar 1)) (dTg (.nm 7)) dYes (dOp vSub (dCall (a3 sp_law_load) (dCons (dVar 0) (dCons (dC (.int 6)) (dCons (dC (.int 9)) dNil)))) (dC (.int 4))) [7]) dNil)) (dTg (.nm 6)))
    (dRet (dAndV (dCall (a2 sp_law_bool) (dCons (dCall (a3 sp_is_potentials) (dCons (dVar 1) (dCons (dVar 2) (dCons (dVar 6) dNil)))) (dCons (dC (.bl false)) dNil))) (dCall (a2 sp_law_bool) (dCons (dCall (a3 sp_is_potentials) (dCons (dVar 1) (dCons (dVar 2) (dCons (dOp vMul (dTup (dCons (dC (.int 0)) dNil)) (dVar 1)) dNil)))) (dCons (dC (.bl false)) dNil))))))) dNext)
    (dSeq (dIf (dOr (dTest (dOp vIsNot (dVar 5) (dC .non))) (dNot (dTest (dCall (a2 sp_law_bool) (dCons (dCall (a3 sp_is_potentials) (dCons (dVar 1) (dCons (dVar 2) (dCons (dVar 4) dNil)))) (dCons (dC (.bl true)) dNil)))))) (dRet (dC (.bl false))) dNext)
    (dSeq (dAsg (dLst (dCons (dC (.int 0)) (dCons (dOp vSub (dVar 1) (dC (.int 1))) (dCons (dCall (a3 sp_law_load) (dCons (dVar 0) (dCons (dC (.int 4)) (dCons (dVar 1) dNil)))) dNil)))) (dTg (.nm 8)))
    (dSeq (dFor (iSeq (dVar 8)) (dTg (.nm 9)) (dSeq (dAsg (dOp vMulM (dLst (dCons (dC .non) dNil)) (dVar 1)) (dTg (.nm 10)))
    (dSeq (dAsg (dC (.int 0)) (dgSub (dVar 10) (dVar 9)))
    (dIf (dNot (dTest (dCall (a2 sp_law_same) (dCons (dCall (a3 sp_least_ways) (dCons (dVar 1) (dCons (dVar 2) (dCons (dVar 9) dNil)))) (dCons (dCall (a3 sp_law_settled) (dCons (dVar 1) (dCons (dVar 2) (dCons (dVar 10) dNil)))) dNil))))) (dRet (dC (.bl false))) dNext))))
    (dSeq (dAsg (dCall (a3 sp_law_load) (dCons (dVar 0) (dCons (dC (.int 5)) (dCons (dVar 1) dNil)))) (dTg (.nm 11)))
    (dSeq (dAsg (dLstM (dCons (dCB vTuple (dCons (dLc (iTupD (dVar 4)) (dTg (.nm 13)) dYes (dOp vAdd (dVar 13) (dOp vPow (dC (.int 10)) (dC (.int 50)))) [13]) dNil)) (dCons (dCB vTuple (dCons (dLc (iTupD (dVar 4)) (dTg (.nm 13)) dYes (dOp vSub (dC (.int 0)) (dVar 13)) [13]) dNil)) (dCons (dOp vMul (dTup (dCons (dC (.int 0)) dNil)) (dVar 1)) (dCons (dCB vList (dCons (dVar 4) dNil)) (dCons (dSl vSl (dVar 4) dNoPart (dPart (dUn vNeg (dC (.int 1))))) (dCons (dOp vAdd (dVar 4) (dTup (dCons (dC (.int 0)) dNil))) (dCons (dC .non) (dCons (dC (.int 7)) (dCons (dC (.str "0")) (dCons (dCB vTuple (dCons (dLc (iTupD (dVar 4)) (dTg (.nm 13)) dYes (dOp vEq (dVar 13) (dC (.int 0))) [13]) dNil)) (dCons (dTup (dCons (dVar 4) dNil)) dNil)))))))))))) (dTg (.nm 12)))
    (dSeq (dFor (iTupD (dTup (dCons (dOp vAdd (dOp vIx (dVar 4) (dVar 11)) (dC (.int 1))) (dCons (dOp vSub (dOp vIx (dVar 4) (dVar 11)) (dC (.int 1))) (dCons (dOp vSub (dOp vIx (dVar 4) (dVar 11)) (dOp vPow (dC (.int 10)) (dC (.int 45)))) (dCons (dC .non) (dCons (dCB vStr (dCons (dOp vIx (dVar 4) (dVar 11)) dNil)) (dCons (dTup (dCons (dOp vIx (dVar 4) (dVar 11)) dNil)) (dCons (dC (.bl true)) (dCons (dC (.bl false)) dNil)))))))))) (dTg (.nm 14)) (dDrop (dLM vAppend (dVar 12) (dCons (dOp vAdd (dOp vAdd (dSl vSl (dVar 4) dNoPart (dPart (dVar 11))) (dTup (dCons (dVar 14) dNil))) (dSl vSl (dVar 4) (dPart (dOp vAdd (dVar 11) (dC (.int 1)))) dNoPart)) dNil))))
    (dSeq (dFor (iSeq (dVar 12)) (dTg (.nm 15)) (dIf (dNot (dTest (dCall (a2 sp_law_bool) (dCons (dCall (a3 sp_is_potentials) (dCons (dVar 1) (dCons (dVar 2) (dCons (dVar 15) dNil)))) (dCons (dCall (a3 sp_law_are_potentials) (dCons (dVar 1) (dCons (dVar 2) (dCons (dVar 15) dNil)))) dNil))))) (dRet (dC (.bl false))) dNext))
    (dSeq (dPar 13 16 (dCons (dCall (a3 sp_law_load) (dCons (dVar 0) (dCons (dC (.int 6)) (dCons (dVar 1) dNil)))) (dCons (dCall (a3 sp_law_load) (dCons (dVar 0) (dCons (dC (.int 7)) (dCons (dVar 1) dNil)))) dNil)))
    (dSeq (dAsg (dOp vMulM (dLst (dCons (dC .non) dNil)) (dVar 1)) (dTg (.nm 10)))
    (dSeq (dAsg (dC (.int 0)) (dgSub (dVar 10) (dVar 13)))
    (dSeq (dAsg (dOp vIx (dCall (a3 sp_law_settled) (dCons (dVar 1) (dCons (dVar 2) (dCons (dVar 10) dNil)))) (dVar 16)) (dTg (.nm 17)))
    (dSeq (dIf (dTest (dOp vIs (dVar 17) (dC .non))) (dRet (dC (.bl true))) dNext)
    (dSeq (dFor (iTupD (dTup (dCons (dTup (dCons (dC (.int 0)) (dCons (dC (.bl false)) dNil))) (dCons (dTup (dCons (dUn vNeg (dC (.int 1))) (dCons (dC (.bl true)) dNil))) dNil)))) (dTg (.tp [18, 19])) (dSeq (dAsg (dOp vAdd (dVar 2) (dTup (dCons (dTup (dCons (dVar 16) (dCons (dVar 13) (dCons (dOp vSub (dVar 18) (dVar 17)) dNil)))) dNil))) (dTg (.nm 20)))
    (dSeq (dAsg (dCall (a2 sp_falling_round) (dCons (dVar 1) (dCons (dVar 20) dNil))) (dTg (.nm 5)))
    (dIf (dOr (dTest (dOp vNe (dVar 19) (dOp vIsNot (dVar 5) (dC .non)))) (dAnd (dTru (dVar 19)) (dNot (dTest (dCall (a2 sp_law_is_falling) (dCons (dVar 20) (dCons (dVar 5) dNil))))))) (dRet (dC (.bl false))) dNext))))
    (dRet (dC (.bl true))))))))))))))))))))
theorem rd_law_asked_ok : ∀ ds S P, (a4 sp_law_asked) ds S P → rd_law_asked (DEnds.of P) (dstart ["scale", "many", "edges", "counts", "settled", "told", "base", "k", "starts", "start", "begins", "at", "things", "one", "odd", "thing", "other", "back", "more", "falls", "longer"] ds) S := by
  intro ds S P hsp
  rcases ds with _ | ⟨x, _ | ⟨y, _ | ⟨z, _ | ⟨w, _ | ⟨u, ds⟩⟩⟩⟩⟩ <;> first | exact (hsp : False).elim | skip
  obtain ⟨a, g, l, c, n, es, c0, c1, rfl, rfl, rfl, rfl, n0, n1, bl, hel, hw, sk, ca, cg, cl, ec, q⟩ := (hsp : sp_law_asked x y z w S P)
  unfold rd_law_asked
  walk_at "run"
  refine ⟨by omega, by omega, by rw [Int.toNat_natCast, sizeLine_v]; simp only [List.length_cons, List.length_nil]; omega, ?_⟩
  rw [Int.toNat_natCast, rep_z]
  refine use_settled (f := zF) rfl bl n1 (by omega) (fun st => ?_) (fun st => ?_)
  · walk_at "run"
    refine st_atr (k := 0) ec rfl ?_
    walk_at "run"
    refine st_setr (b := 0) ec (show 0 < 2 by decide) ?_
    walk_at "run"
    refine use_falling bl n1 (by omega) (fun _ => ?_) (fun h => absurd st h)
    walk_at "run"
    have sk1 : Sk (L3.sup S c (.lst [.int (c0 + 1), .int c1])) a g l := sk.sup ca cg cl
    have ec1 : (L3.sup S c (.lst [.int (c0 + 1), .int c1])) c = some (.lst [.int (c0 + 1), .int c1]) := sup_same
    have kp1 : ∀ b o, b ≠ a → b ≠ g → b ≠ c → S b = some o → (L3.sup S c (.lst [.int (c0 + 1), .int c1])) b = some o := fun b o _ _ h3 h => by rw [sup_ne h3]; exact h
    refine use_potentials rfl (fun d hd => Gd_lD d hd) bl n1 (by omega) ?_
    rw [potB_st bl (passes_all zF_all n) st]
    walk_at "run"
    refine use_bool rfl ?_
    walk_at "run"
    refine use_load (k := 4) sk1 (by omega) (by omega) fun r1 S1 h10 h11 sk2 s1 => ?_
    obtain ⟨o1, rfl⟩ := Int.eq_ofNat_of_zero_le h10
    have ec2 := (s1 c ca cg).trans ec1
    have kp2 : ∀ b o, b ≠ a → b ≠ g → b ≠ c → S b = some o → S1 b = some o := fun b o h1 h2 h3 h => by rw [s1 b h1 h2]; exact kp1 b o h1 h2 h3 h
    walk_at "run"
    have hq := fun S' a1 a2 a3 => q S' a1 a2 (fun _ => a3) (fun h => absurd st h)
    have zb := passes_bnd (w := 200 * W0) (f := zF) (b := 0) (fun v x h => by cases h; omega) hw n
    have za := passes_all zF_all (es := es) n
    have pB := potB_st bl za st
    have lst : ∀ s, s < n → ∃ v, (lD n (passes es zF n))[s]? = some (.int v) ∧ -(2 ^ 1900) < v ∧ v < 2 ^ 1900 := fun s hs => by
      have := za s
      cases e : passes es zF n s with
      | none => rw [e] at this; cases this
      | some v =>
        refine ⟨v, by rw [lD_get hs, e]; rfl, ?_⟩
        have h := zb s v e
        have : (0 : Int) + n * (es.length * (200 * W0)) ≤ 100 * (500 * (200 * W0)) := by
          have h1 : (es.length : Int) * (200 * W0) ≤ 500 * (200 * W0) := Int.mul_le_mul_of_nonneg_right (by omega) (by unfold W0; omega)
          have h2 : (n : Int) * (es.length * (200 * W0)) ≤ 100 * (es.length * (200 * W0)) := Int.mul_le_mul_of_nonneg_right (by omega) (Int.mul_nonneg (by omega) (by unfold W0; omega))
          omega
        have : (100 * (500 * (200 * W0)) : Int) < 2 ^ 1900 := by unfold W0; decide
        omega
    generalize hsl : lD n (passes es zF n) = sl at lst pB
    have sll : sl.length = n := by rw [← hsl]; exact lD_len _ _
    have sg : ∀ d ∈ sl, Gd d = true := by rw [← hsl]; exact Gd_lD
    rw [it_l]
    walk_at "run"
    refine forL_inv (fun i δ S' => Sk S' a g l ∧ S' c = some (.lst [.int (c0 + 1), .int c1]) ∧ (∀ b o, b ≠ a → b ≠ g → b ≠ c → S b = some o → S' b = some o) ∧ ∃ (x9 x10 : Option D),
      δ = [some (.ref a), some (iD n), some (esD es), some (.ref c), some (.tup sl), some .non, none, none, some (.lst [.int 0, .int ((n : Int) - 1), .int (o1 : Int)]), x9, x10, none, none, none, none, none, none, none, none, none, none]) (fun _ _ _ _ => True.intro) _ 0 _ _
      ⟨sk2, ec2, kp2, none, none, rfl⟩ ?_ ?_
    · rintro j d _ S' hj ⟨sk3, ec3, kp3, x9, x10, rfl⟩ D2 hrt _ hnx _
      have hd : ∃ s : Nat, d = iD s ∧ s < n := by
        have := List.mem_of_getElem? hj
        simp only [List.mem_cons, List.not_mem_nil, or_false] at this
        rcases this with rfl | rfl | rfl
        · exact ⟨0, rfl, n0⟩
        · exact ⟨n - 1, by unfold iD; congr 1; omega, by omega⟩
        · exact ⟨o1, rfl, by omega⟩
      obtain ⟨s, rfl, hs⟩ := hd
      walk_at "run"
      refine ⟨[.non], n, rfl, rfl, by omega, by omega, by rw [Int.toNat_natCast, sizeLine_v]; simp only [List.length_cons, List.length_nil]; omega, fun B hB => ?_⟩
      rw [Int.toNat_natCast, rep_n]
      have ba := sk3.na hB
      have bg := sk3.ng hB
      have bL := sk3.nl hB
      have bc : B ≠ c := fun z => by subst z; rw [ec3] at hB; cases hB
      walk_at "run"
      refine st_setr sup_same (by rw [lD_len]; exact hs) ?_
      rw [sup_sup, show (D.int 0) = oI (some 0) from rfl, lD_set, from1_set]
      walk_at "run"
      have ss := stab_of (f := from1 s) bl st
      refine use_least hs bl n1 (by omega) ss ?_
      walk_at "run"
      refine use_settled (seq_r sup_same) bl n1 (by omega) (fun _ => ?_) (fun h => absurd ss h)
      walk_at "run"
      rw [lD_oI]
      refine use_same (by rw [List.length_map, List.length_range]; omega) ?_
      walk_at "run"
      refine hnx _ _ ⟨sk3.sup ba bg bL, by rw [sup_ne (Ne.symm bc)]; exact ec3, fun b o h1 h2 h3 h => ?_, _, _, rfl⟩
      have hb := kp3 b o h1 h2 h3 h
      rw [sup_ne fun z => by subst z; rw [hB] at hb; cases hb]
      exact hb
    · rintro _ S' ⟨sk3, ec3, kp3, x9, x10, rfl⟩
      walk_at "run"
      refine use_load (k := 5) sk3 (by omega) (by omega) fun r2 S4 h20 h21 sk4 s4 => ?_
      obtain ⟨o2, rfl⟩ := Int.eq_ofNat_of_zero_le h20
      have ec4 := (s4 c ca cg).trans ec3
      have kp4 : ∀ b o, b ≠ a → b ≠ g → b ≠ c → S b = some o → S4 b = some o := fun b o h1 h2 h3 h => by rw [s4 b h1 h2]; exact kp3 b o h1 h2 h3 h
      walk_at "run"
      have slI : ∀ d ∈ sl, ∃ v, d = .int v := fun d hd => by
        obtain ⟨s, hs⟩ := List.mem_iff_getElem?.mp hd
        obtain ⟨v, hv, _⟩ := lst s (by rw [← sll]; exact (List.getElem?_eq_some_iff.mp hs).1)
        rw [hs] at hv
        exact ⟨v, Option.some.inj hv⟩
      have szl : ([] : List D).length + sl.length ≤ sizeLine := by rw [sll, sizeLine_v]; show 0 + n ≤ _; omega
      refine lcL_pure (fun d => match d with | .int i => .int (i + (10 : Int) ^ (50 : Int).toNat) | x => x) True.intro _ _ szl (fun d hd P h => ?_) ?_
      · obtain ⟨v, rfl⟩ := slI d hd
        walk_at "run"
        refine st_pow (by unfold CPow; decide) ?_
        walk_at "run"
        exact h
      walk_at "run"
      refine lcL_pure (fun d => match d with | .int i => .int (0 - i) | x => x) True.intro _ _ szl (fun d hd P h => ?_) ?_
      · obtain ⟨v, rfl⟩ := slI d hd
        walk_at "run"
        exact h
      walk_at "run"
      refine ⟨by omega, by omega, by simp, ?_⟩
      rw [Int.toNat_natCast, rep_z]
      walk_at "run"
      refine st_slT ?_
      walk_at "run"
      refine lcL_pure (fun d => match d with | .int i => .bl (decide (i = 0)) | x => x) True.intro _ _ szl (fun d hd P h => ?_) ?_
      · obtain ⟨v, rfl⟩ := slI d hd
        walk_at "run"
        exact h
      walk_at "run"
      intro T hT
      have ta := sk4.na hT
      have tg := sk4.ng hT
      have tl := sk4.nl hT
      have tc : T ≠ c := fun z => by subst z; rw [ec4] at hT; cases hT
      have kT : ∀ b o, b ≠ a → b ≠ g → b ≠ c → S b = some o → b ≠ T := fun b o h1 h2 h3 h z => by
        have hb := kp4 b o h1 h2 h3 h
        subst z
        rw [hT] at hb; cases hb
      have thm : ∀ f : D → D, (∀ i, Gd (f (.int i)) = true) → ∀ d ∈ sl.map f, Gd d = true := fun f hf d hd => by
        obtain ⟨e, he, rfl⟩ := List.mem_map.mp hd
        obtain ⟨v, rfl⟩ := slI e he
        exact hf v
      obtain ⟨v, hv, v0, v1⟩ := lst o2 (by omega)
      walk_at "run"
      refine st_pow (by unfold CPow; decide) ?_
      walk_at "run"
      refine ⟨log2_lt (by omega) (by omega) (by decide), ?_⟩
      walk_at "run"
      refine forL_inv (fun i δ S' => Sk S' a g l ∧ S' c = some (.lst [.int (c0 + 1), .int c1]) ∧ (∀ b o, b ≠ a → b ≠ g → b ≠ c → S b = some o → S' b = some o) ∧ ∃ (x14 : Option D) (ts : List D), S' T = some (.lst ts) ∧ (∀ t ∈ ts, Gd t = true ∧ GdT t) ∧ ts.length = 11 + i ∧
        δ = [some (.ref a), some (iD n), some (esD es), some (.ref c), some (.tup sl), some .non, none, none, some (.lst [.int 0, .int ((n : Int) - 1), .int (o1 : Int)]), x9, x10, some (iD o2), some (.ref T), none, x14, none, none, none, none, none, none]) (fun _ _ _ _ => True.intro) _ 0 _ _
        ⟨sk4.sup ta tg tl, by rw [sup_ne (Ne.symm tc)]; exact ec4, fun b o h1 h2 h3 h => by rw [sup_ne (kT b o h1 h2 h3 h)]; exact kp4 b o h1 h2 h3 h, none, _, sup_same, ?_, rfl, rfl⟩ ?_ ?_
      · refine List.forall_mem_cons.mpr ⟨⟨rfl, thm _ fun _ => rfl⟩, List.forall_mem_cons.mpr ⟨⟨rfl, thm _ fun _ => rfl⟩, List.forall_mem_cons.mpr ⟨⟨rfl, Gd_lD⟩, List.forall_mem_cons.mpr ⟨⟨rfl, trivial⟩, List.forall_mem_cons.mpr ⟨⟨rfl, fun d hd => sg d (cut_mem hd)⟩, List.forall_mem_cons.mpr ⟨⟨rfl, fun d hd => ?_⟩, List.forall_mem_cons.mpr ⟨⟨rfl, trivial⟩, List.forall_mem_cons.mpr ⟨⟨rfl, trivial⟩, List.forall_mem_cons.mpr ⟨⟨rfl, trivial⟩, List.forall_mem_cons.mpr ⟨⟨rfl, thm _ fun _ => rfl⟩, List.forall_mem_cons.mpr ⟨⟨rfl, fun d hd => ?_⟩, (by intro _ h; cases h)⟩⟩⟩⟩⟩⟩⟩⟩⟩⟩⟩
        · rcases List.mem_append.mp hd with hd | hd
          · exact sg d hd
          · rw [List.mem_singleton.mp hd]; rfl
        · rw [List.mem_singleton.mp hd]; rfl
      · rintro j d _ S' hj ⟨sk5, ec5, kp5, x14, ts, eT, hts, htl, rfl⟩ D2 hrt _ hnx _
        have hj8 : j < 8 := (List.getElem?_eq_some_iff.mp hj).1
        have hd : Gd d = true := by
          have := List.mem_of_getElem? hj
          simp only [List.mem_cons, List.not_mem_nil, or_false] at this
          rcases this with rfl | rfl | rfl | rfl | rfl | rfl | rfl | rfl <;> rfl
        walk_at "run"
        rw [isSeq_ref]
        refine ⟨⟨_, eT⟩, ?_⟩
        walk_at "run"
        refine st_slT ?_
        walk_at "run"
        have l1 := cut_len sl none (some (o2 : Int))
        have l2 := cut_len sl (some ((o2 : Int) + 1)) none
        refine st_add_t (xs := cut sl none (some (o2 : Int))) (ys := [d]) (by rw [sizeLine_v]; show _ + 1 ≤ _; omega) ?_
        walk_at "run"
        refine st_slT ?_
        walk_at "run"
        refine st_append eT (by rw [sizeLine_v]; omega) ?_
        walk_at "run"
        refine hnx _ _ ⟨sk5.sup ta tg tl, by rw [sup_ne (Ne.symm tc)]; exact ec5, fun b o h1 h2 h3 h => by rw [sup_ne (kT b o h1 h2 h3 h)]; exact kp5 b o h1 h2 h3 h, _, _, sup_same, fun t ht => ?_, by rw [List.length_append, htl]; rfl, rfl⟩
        rcases List.mem_append.mp ht with ht | ht
        · exact hts t ht
        · rw [List.mem_singleton.mp ht]
          refine ⟨rfl, fun e he => ?_⟩
          rcases List.mem_append.mp he with he | he
          · rcases List.mem_append.mp he with he | he
            · exact sg e (cut_mem he)
            · rw [List.mem_singleton.mp he]; exact hd
          · exact sg e (cut_mem he)
      · rintro _ S' ⟨sk5, ec5, kp5, x14, ts, eT, hts, htl, rfl⟩
        walk_at "run"
        rw [it_r eT]
        walk_at "run"
        refine forL_inv (fun i δ S'' => S'' = S' ∧ ∃ (x15 : Option D), 
          δ = [some (.ref a), some (iD n), some (esD es), some (.ref c), some (.tup sl), some .non, none, none, some (.lst [.int 0, .int ((n : Int) - 1), .int (o1 : Int)]), x9, x10, some (iD o2), some (.ref T), none, x14, x15, none, none, none, none, none]) (fun i δ S'' h => by rw [h.1]; exact eT) _ 0 _ _
          ⟨rfl, none, rfl⟩ ?_ ?_
        · rintro j d _ _ hj ⟨rfl, x15, rfl⟩ D2 hrt _ hnx _
          obtain ⟨g1, g2⟩ := hts d (List.mem_of_getElem? hj)
          walk_at "run"
          refine use_potentials g1 g2 bl n1 (by omega) ?_
          walk_at "run"
          refine use_are g1 g2 bl n1 (by omega) ?_
          walk_at "run"
          refine use_bool rfl ?_
          walk_at "run"
          exact hnx _ _ ⟨rfl, _, rfl⟩
        · rintro _ _ ⟨rfl, x15, rfl⟩
          walk_at "run"
          refine use_load (k := 6) sk5 (by omega) (by omega) fun r3 S6 h30 h31 sk6 s6 => ?_
          walk_at "run"
          refine use_load (k := 7) sk6 (by omega) (by omega) fun r4 S7 h40 h41 sk7 s7 => ?_
          obtain ⟨one, rfl⟩ := Int.eq_ofNat_of_zero_le h30
          obtain ⟨other, rfl⟩ := Int.eq_ofNat_of_zero_le h40
          have ec7 := (s7 c ca cg).trans ((s6 c ca cg).trans ec5)
          have kp7 : ∀ b o, b ≠ a → b ≠ g → b ≠ c → S b = some o → S7 b = some o := fun b o h1 h2 h3 h => by rw [s7 b h1 h2, s6 b h1 h2]; exact kp5 b o h1 h2 h3 h
          walk_at "run"
          refine ⟨[.non], n, rfl, rfl, by omega, by omega, by rw [Int.toNat_natCast, sizeLine_v]; simp only [List.length_cons, List.length_nil]; omega, fun B hB => ?_⟩
          rw [Int.toNat_natCast, rep_n]
          have ba := sk7.na hB
          have bg := sk7.ng hB
          have bL := sk7.nl hB
          have bc : B ≠ c := fun z => by subst z; rw [ec7] at hB; cases hB
          walk_at "run"
          refine st_setr sup_same (by rw [lD_len]; omega) ?_
          rw [sup_sup, show (D.int 0) = oI (some 0) from rfl, lD_set, from1_set]
          walk_at "run"
          have ss := stab_of (f := from1 one) bl st
          refine use_settled (seq_r sup_same) bl n1 (by omega) (fun _ => ?_) (fun h => absurd ss h)
          walk_at "run"
          have hb := lD_get (f := passes es (from1 one) n) (show other < n by omega)
          refine st_at hb ?_
          have fin : P (.bl true) (sup S7 B (.lst (lD n (from1 one)))) := hq _ (sk7.sup ba bg bL) (fun b o h1 h2 h3 h => by
            have hb := kp7 b o h1 h2 h3 h
            rw [sup_ne fun z => by subst z; rw [hB] at hb; cases hb]
            exact hb) (by rw [sup_ne (Ne.symm bc)]; exact ec7)
          generalize sup S7 B (.lst (lD n (from1 one))) = S8 at fin
          cases hbk : passes es (from1 one) n other with
          | none =>
            simp only [oI]
            walk_at "run"
            exact .of fin
          | some back =>
            simp only [oI]
            walk_at "run"
            refine forL_inv (fun i δ S'' => S'' = S8 ∧ ∃ (x5 x18 x19 x20 : Option D), 
              δ = [some (.ref a), some (iD n), some (esD es), some (.ref c), some (.tup sl), x5, none, none, some (.lst [.int 0, .int ((n : Int) - 1), .int (o1 : Int)]), x9, some (.ref B), some (iD o2), some (.ref T), some (iD one), x14, x15, some (iD other), some (.int back), x18, x19, x20]) (fun _ _ _ _ => True.intro) _ 0 _ _
              ⟨rfl, _, none, none, none, rfl⟩ ?_ ?_
            · rintro j d _ _ hj ⟨rfl, x5, x18, x19, x20, rfl⟩ D2 hrt _ hnx _
              have hd : d = .tup [.int 0, .bl false] ∨ d = .tup [.int (-1), .bl true] := by
                have := List.mem_of_getElem? hj
                simpa only [List.mem_cons, List.not_mem_nil, or_false] using this
              have ed : ∀ w : Int, es.map edD ++ [D.tup [iD other, iD one, .int w]] = (es ++ [(other, one, w)]).map edD := fun w => by rw [List.map_append]; rfl
              have bl2 : ∀ w : Int, Below n (es ++ [(other, one, w)]) := fun w => below_snoc bl (by show other < n; omega) (by show one < n; omega)
              have hl2 : ∀ w : Int, (es ++ [((other, one, w) : Ed)]).length ≤ 1000 := fun w => by rw [List.length_append]; simp only [List.length_cons, List.length_nil]; omega
              rcases hd with rfl | rfl
              · walk_at "run"
                rw [ed]
                refine use_falling (bl2 _) n1 (hl2 _) (fun _ => ?_) (fun h => absurd (longer_st bl (by omega) (by omega) st hbk) h)
                walk_at "run"
                refine st_nebb ?_
                walk_at "run"
                exact hnx _ _ ⟨rfl, _, _, _, _, rfl⟩
              · walk_at "run"
                rw [ed]
                refine use_falling (bl2 _) n1 (hl2 _) (fun h => absurd h (shorter_st hbk)) (fun _ res fr => ?_)
                walk_at "run"
                refine st_nebb ?_
                walk_at "run"
                refine use_is_falling fr (hl2 _) ?_
                walk_at "run"
                exact hnx _ _ ⟨rfl, _, _, _, _, rfl⟩
            · rintro _ _ ⟨rfl, x5, x18, x19, x20, rfl⟩
              walk_at "run"
              exact .of fin
  · walk_at "run"
    refine st_atr (k := 1) ec rfl ?_
    walk_at "run"
    refine st_setr (b := 1) ec (show 1 < 2 by decide) ?_
    walk_at "run"
    refine use_falling bl n1 (by omega) (fun h => absurd h st) (fun _ res fr => ?_)
    walk_at "run"
    refine use_is_falling fr (by omega) ?_
    walk_at "run"
    refine ⟨by omega, by omega, ?_⟩
    rw [Int.toNat_natCast]
    have sk1 : Sk (L3.sup S c (.lst [.int c0, .int (c1 + 1)])) a g l := sk.sup ca cg cl
    refine lc_loads _ [] _ (by rw [rng_len]; simp only [List.length_nil]; omega) sk1 fun ms S1 sk2 s1 => ?_
    walk_at "run"
    have ec2 : S1 c = some (.lst [.int c0, .int (c1 + 1)]) := (s1 c ca cg).trans sup_same
    have kp2 : ∀ b o, b ≠ a → b ≠ g → b ≠ c → S b = some o → S1 b = some o := fun b o h1 h2 h3 h => by rw [s1 b h1 h2, sup_ne h3]; exact h
    refine potB_of bl n1 (by omega) (fun d hd => by obtain ⟨i, _, rfl⟩ := List.mem_map.mp hd; rfl) ?_
    rw [potB_no bl st]
    walk_at "run"
    refine use_bool rfl ?_
    walk_at "run"
    refine ⟨by omega, by omega, by simp, ?_⟩
    rw [Int.toNat_natCast, rep_z]
    refine potB_of bl n1 (by omega) Gd_lD ?_
    rw [potB_no bl st]
    walk_at "run"
    refine use_bool rfl ?_
    walk_at "run"
    exact .of (q _ sk2 kp2 (fun h => absurd h st) fun _ => ec2)
theorem use_asked {a g l c : Addr} {n : Nat} {es : List Ed} {c0 c1 : Int} {S : Sto} {Q : DK} (n0 : 0 < n) (n1 : n ≤ 100) (bl : Below n es) (hel : es.length ≤ 500) (hw : ∀ e ∈ es, -(200 * W0) ≤ e.2.2 ∧ e.2.2 ≤ 200 * W0) (sk : Sk S a g l) (ca : c ≠ a) (cg : c ≠ g) (cl : c ≠ l) (ec : S c = some (.lst [.int c0, .int c1]))
    (q : ∀ S', Sk S' a g l → (∀ b o, b ≠ a → b ≠ g → b ≠ c → S b = some o → S' b = some o) → (Stable es (passes es zF n) → S' c = some (.lst [.int (c0 + 1), .int c1])) → (¬ Stable es (passes es zF n) → S' c = some (.lst [.int c0, .int (c1 + 1)])) → Q (.bl true) S') :
    sp_law_asked (.ref a) (iD n) (esD es) (.ref c) S Q := ⟨a, g, l, c, n, es, c0, c1, rfl, rfl, rfl, rfl, n0, n1, bl, hel, hw, sk, ca, cg, cl, ec, q⟩
end L3

set_option Elab.async false
set_option maxRecDepth 100000
set_option linter.all false
set_option maxHeartbeats 4000000
namespace L3
open PySem L2 L3.KW
local macro_rules | `(tactic| walk_at "cond") => `(tactic| first | omega | (simp only [List.length_append, List.length_cons, List.length_nil, List.length_take, List.length_drop, List.length_map, List.length_reverse]; omega) | rfl | decide)
local macro_rules | `(tactic| walk_at "side") => `(tactic| first | assumption | omega | (simp only [List.length_append, List.length_cons, List.length_nil, List.length_take, List.length_drop, List.length_map, List.length_reverse, sizeLine_val]; omega) | decide)
local macro_rules | `(tactic| walk_at "st") => `(tactic| first
  | with_reducible refine st_ix0 ?_ | with_reducible refine st_ix1 ?_ | with_reducible refine st_ix2 ?_ | with_reducible refine st_ix3 ?_ | with_reducible refine st_ix4 ?_
  | with_reducible refine st_add_pp (by walk_at "side") ?_ | with_reducible refine st_add_p1 (by walk_at "side") ?_ | with_reducible refine st_add_1p (by walk_at "side") ?_
  | with_reducible refine st_add ?_ | with_reducible refine st_sub ?_ | with_reducible refine st_iadd ?_ | with_reducible refine st_neg ?_
  | with_reducible refine st_len_p ?_ | with_reducible refine st_len_lp ?_ | with_reducible refine st_len_rp ?_ | with_reducible refine st_len_t ?_ | with_reducible refine st_len_l ?_
  | with_reducible refine st_add_t (by walk_at "side") ?_ | with_reducible refine st_add_l (by walk_at "side") ?_ | with_reducible refine st_add_s (by walk_at "side") ?_
  | with_reducible refine st_tru_bl ?_ | with_reducible refine st_tru_int ?_ | with_reducible refine st_tru_tup ?_ | with_reducible refine st_tru_lst ?_ | with_reducible refine st_tru_non ?_
  | with_reducible refine st_at (by assumption) ?_ | with_reducible refine st_atl (by assumption) ?_
  | with_reducible refine st_iteT ?_ | with_reducible refine st_iteF ?_ | with_reducible refine st_not ?_
  | with_reducible refine st_lt ?_ | with_reducible refine st_le ?_ | with_reducible refine st_gt ?_ | with_reducible refine st_ge ?_ | with_reducible refine st_eqi ?_ | with_reducible refine st_nei ?_ | with_reducible refine st_eqs ?_ | with_reducible refine st_nes ?_ | with_reducible refine st_eqb ?_
  | with_reducible refine st_isn_non ?_ | with_reducible refine st_isn_int ?_ | with_reducible refine st_isn_tup ?_ | with_reducible refine st_isn_str ?_ | with_reducible refine st_isn_bl ?_
  | with_reducible refine st_isnt_non ?_ | with_reducible refine st_isnt_int ?_ | with_reducible refine st_isnt_tup ?_ | with_reducible refine st_isnt_str ?_
  | with_reducible refine st_int ?_ | with_reducible refine st_intb ?_ | with_reducible refine st_abs ?_ | with_reducible refine st_min2 ?_ | with_reducible refine st_max2 ?_
  | with_reducible refine st_tup_l ?_ | with_reducible refine st_tup_t ?_ | with_reducible refine st_lst_t ?_ | with_reducible refine st_lst_l ?_
  | with_reducible refine st_sl_from ?_ | with_reducible refine st_sl_to ?_
  | with_reducible refine st_lx0 ?_ | with_reducible refine st_lx1 ?_ | with_reducible refine st_lx2 ?_ | with_reducible refine st_lx3 ?_
  | with_reducible refine st_mod (by walk_at "side") ?_ | with_reducible refine st_div (by walk_at "side") ?_ | with_reducible refine st_mul (by walk_at "side") ?_ | with_reducible refine st_mul' (by walk_at "side") ?_
  | with_reducible refine st_isi rfl ?_
  | (with_reducible refine And.intro (Nat.le_of_ble_eq_true rfl) ?_)
  | (refine And.intro (rfl : (_ : Nat) = _) ?_)
  | with_reducible refine st_dT (by walk_at "cond") ?_ | with_reducible refine st_dF (by walk_at "cond") ?_)
local macro_rules | `(tactic| walk_at "hd") => `(tactic| (with_reducible conv => whnf))
local macro_rules | `(tactic| walk_at "run") => `(tactic| ((with_reducible conv => whnf); repeat (walk_at "st"; (with_reducible conv => whnf))))
/-! ### what the law asks by hand -/
instance (f : Sm) (e : Ed) : Decidable (sat f e) := inferInstanceAs (Decidable (lowv f e = none))
instance (es : List Ed) (f : Sm) : Decidable (Stable es f) := inferInstanceAs (Decidable (∀ e ∈ es, sat f e))
instance (n : Nat) (es : List Ed) : Decidable (Below n es) := inferInstanceAs (Decidable (∀ e ∈ es, e.1 < n ∧ e.2.1 < n))
def allL (m : Nat) : Nat → List (List Nat)
  | 0 => [[]]
  | k + 1 => [] :: (List.range m).flatMap fun x => (allL m k).map (x :: ·)
theorem mem_allL {m : Nat} : ∀ (k : Nat) (l : List Nat), l.length ≤ k → (∀ x ∈ l, x < m) → l ∈ allL m k
  | 0, [], _, _ => List.mem_singleton.mpr rfl
  | k + 1, [], _, _ => List.mem_cons_self
  | k + 1, x :: l, h, hx => List.mem_cons_of_mem _ (List.mem_flatMap.mpr ⟨x, List.mem_range.mpr (hx x List.mem_cons_self), List.mem_map.mpr ⟨l, mem_allL k l (by rw [List.length_cons] at h; omega) (fun y hy => hx y (List.mem_cons_of_mem _ hy)), rfl⟩⟩)
def conB (es : List Ed) (res : List Nat) : Bool := (List.range res.length).all fun k => match res[k]?, res[if k = 0 then res.length - 1 else k - 1]? with
  | some p, some q => match es[p]?, es[q]? with
    | some e, some e' => e'.2.1 == e.1
    | _, _ => false
  | _, _ => true
theorem fall_in {es : List Ed} {res : List Nat} {rs : List (List Nat)} (fr : FallR es res) (h : ∀ r ∈ allL es.length es.length, 0 < r.length → r.Nodup → conB es r = true → (r.map (wt es)).sum < 0 → r ∈ rs) : res ∈ rs := by
  refine h res (mem_allL _ _ (nodup_le _ fr.nd fr.lt) fr.lt) fr.pos fr.nd ?_ fr.sum
  unfold conB
  refine List.all_eq_true.mpr fun k hk => ?_
  have hk := List.mem_range.mp hk
  have e1 := List.getElem?_eq_getElem hk
  have h2 : (if k = 0 then res.length - 1 else k - 1) < res.length := by split <;> omega
  have e2 := List.getElem?_eq_getElem h2
  obtain ⟨e, e', g1, g2, g3⟩ := fr.con k _ _ e1 e2
  simp only [e1, e2, g1, g2]
  rw [g3]
  exact beq_self_eq_true _
def E1 : List Ed := [(0, 1, 1), (1, 0, -2)]
def E2 : List Ed := [(0, 0, -1)]
def E3 : List Ed := [(2, 1, -3), (0, 1, 5), (1, 2, 2)]
theorem fall1 {res : List Nat} (fr : FallR E1 res) : res = [0, 1] ∨ res = [1, 0] := by
  have := fall_in (rs := [[0, 1], [1, 0]]) fr (by decide +kernel)
  simpa using this
theorem fall2 {res : List Nat} (fr : FallR E2 res) : res = [0] := by
  have := fall_in (rs := [[0]]) fr (by decide +kernel)
  simpa using this
theorem fall3 {res : List Nat} (fr : FallR E3 res) : res = [0, 2] ∨ res = [2, 0] := by
  have := fall_in (rs := [[0, 2], [2, 0]]) fr (by decide +kernel)
  simpa using this
theorem lwD {n o : Nat} {es : List Ed} {l : List (Option Int)} (h : (List.range n).map (passes es (from1 o) n) = l) : lD n (passes es (from1 o) n) = l.map oI := by rw [lD_oI, h]
def sp_law_by_hand (S : Sto) (Q : DK) : Prop := Q (.bl true) S
-- _law_by_hand : 0=told 1=rows 2=one 3=due 4=looks 5=many 6=edges 7=thing
def rd_law_by_hand : DTS :=
    (dSeq (dAsg (dTup (dCons (dCall (a2 sp_falling_round) (dCons (dC (.int 2)) (dCons (dTup (dCons (dTup (dCons (dC (.int 0)) (dCons (dC (.int 1)) (dCons (dC (.int 1)) dNil)))) (dCons (dTup (dCons (dC (.int 1)) (dCons (dC (.int 0)) (dCons (dUn vNeg (dC (.int 2))) dNil)))) dNil))) dNil))) (dCons (dCall (kw2 (fun x0 x1 => [x1, x0]) (a2 sp_falling_round)) (dCons (dTup (dCons (dTup (dCons (dC (.int 0)) (dCons (dC (.int 0)) (dCons (dUn vNeg (dC (.int 1))) dNil)))) dNil)) (dCons (dC (.int 1)) dNil))) (dCons (dCall (a2 sp_falling_round) (dCons (dC (.int 3)) (dCons (dTup (dCons (dTup (dCons (dC (.int 2)) (dCons (dC (.int 1)) (dCons (dUn vNeg (dC (.int 3))) dNil)))) (dCons (dTup (dCons (dC (.int 0)) (dCons (dC (.int 1)) (dCons (dC (.int 5)) dNil)))) (dCons (dTup (dCons (dC (.int 1)) (dCons (dC (.int 2)) (dCons (dC (.int 2)) dNil)))) dNil)))) dNil))) dNil)))) (dTg (.nm 0)))
    (dSeq (dIf (dOr (dTest (dOp (vInT true) (dOp vIx (dVar 0) (dC (.int 0))) (dTup (dCons (dTup (dCons (dC (.int 0)) (dCons (dC (.int 1)) dNil))) (dCons (dTup (dCons (dC (.int 1)) (dCons (dC (.int 0)) dNil))) dNil))))) (dOr (dTest (dOp vNe (dOp vIx (dVar 0) (dC (.int 1))) (dTup (dCons (dC (.int 0)) dNil)))) (dTest (dOp (vInT true) (dOp vIx (dVar 0) (dC (.int 2))) (dTup (dCons (dTup (dCons (dC (.int 0)) (dCons (dC (.int 2)) dNil))) (dCons (dTup (dCons (dC (.int 2)) (dCons (dC (.int 0)) dNil))) dNil))))))) (dRet (dC (.bl false))) dNext)
    (dSeq (dIf (dOr (dTest (dOp vIsNot (dCall (a2 sp_falling_round) (dCons (dC (.int 1)) (dCons (dTup dNil) dNil))) (dC .non))) (dOr (dTest (dOp vIsNot (dCall (a2 sp_falling_round) (dCons (dC (.int 3)) (dCons (dTup (dCons (dTup (dCons (dC (.int 0)) (dCons (dC (.int 1)) (dCons (dUn vNeg (dC (.int 9))) dNil)))) (dCons (dTup (dCons (dC (.int 1)) (dCons (dC (.int 2)) (dCons (dUn vNeg (dC (.int 9))) dNil)))) dNil))) dNil))) (dC .non))) (dTest (dOp vIsNot (dCall (a2 sp_falling_round) (dCons (dC (.int 2)) (dCons (dTup (dCons (dTup (dCons (dC (.int 0)) (dCons (dC (.int 1)) (dCons (dUn vNeg (dC (.int 2))) dNil)))) (dCons (dTup (dCons (dC (.int 1)) (dCons (dC (.int 0)) (dCons (dC (.int 2)) dNil)))) (dCons (dTup (dCons (dC (.int 0)) (dCons (dC (.int 0)) (dCons (dC (.int 0)) dNil)))) dNil)))) dNil))) (dC .non))))) (dRet (dC (.bl false))) dNext)
    (dSeq (dAsg (dTup (dCons (dTup (dCons (dCall (a3 sp_least_ways) (dCons (dC (.int 3)) (dCons (dTup (dCons (dTup (dCons (dC (.int 0)) (dCons (dC (.int 1)) (dCons (dC (.int 1)) dNil)))) (dCons (dTup (dCons (dC (.int 0)) (dCons (dC (.int 1)) (dCons (dUn vNeg (dC (.int 2))) dNil)))) dNil))) (dCons (dC (.int 0)) dNil)))) (dCons (dTup (dCons (dC (.int 0)) (dCons (dUn vNeg (dC (.int 2))) (dCons (dC .non) dNil)))) dNil))) (dCons (dTup (dCons (dCall (kw3 (fun x0 x1 x2 => [x2, x1, x0]) (a3 sp_least_ways)) (dCons (dC (.int 1)) (dCons (dTup (dCons (dTup (dCons (dC (.int 0)) (dCons (dC (.int 1)) (dCons (dC (.int 1)) dNil)))) dNil)) (dCons (dC (.int 2)) dNil)))) (dCons (dTup (dCons (dC .non) (dCons (dC (.int 0)) dNil))) dNil))) (dCons (dTup (dCons (dCall (a3 sp_least_ways) (dCons (dC (.int 1)) (dCons (dTup dNil) (dCons (dC (.int 0)) dNil)))) (dCons (dTup (dCons (dC (.int 0)) dNil)) dNil))) (dCons (dTup (dCons (dCall (a3 sp_least_ways) (dCons (dC (.int 2)) (dCons (dTup (dCons (dTup (dCons (dC (.int 0)) (dCons (dC (.int 0)) (dCons (dC (.int 5)) dNil)))) (dCons (dTup (dCons (dC (.int 0)) (dCons (dC (.int 1)) (dCons (dC (.int 7)) dNil)))) (dCons (dTup (dCons (dC (.int 1)) (dCons (dC (.int 0)) (dCons (dUn vNeg (dC (.int 7))) dNil)))) dNil)))) (dCons (dC (.int 1)) dNil)))) (dCons (dTup (dCons (dUn vNeg (dC (.int 7))) (dCons (dC (.int 0)) dNil))) dNil))) (dCons (dTup (dCons (dCall (a3 sp_least_ways) (dCons (dC (.int 4)) (dCons (dTup (dCons (dTup (dCons (dC (.int 0)) (dCons (dC (.int 1)) (dCons (dC (.int 1)) dNil)))) (dCons (dTup (dCons (dC (.int 1)) (dCons (dC (.int 2)) (dCons (dUn vNeg (dC (.int 5))) dNil)))) (dCons (dTup (dCons (dC (.int 0)) (dCons (dC (.int 2)) (dCons (dUn vNeg (dC (.int 3))) dNil)))) (dCons (dTup (dCons (dC (.int 2)) (dCons (dC (.int 3)) (dCons (dC (.int 0)) dNil)))) (dCons (dTup (dCons (dC (.int 3)) (dCons (dC (.int 1)) (dCons (dC (.int 5)) dNil)))) dNil)))))) (dCons (dC (.int 0)) dNil)))) (dCons (dTup (dCons (dC (.int 0)) (dCons (dC (.int 1)) (dCons (dUn vNeg (dC (.int 4))) (dCons (dUn vNeg (dC (.int 4))) dNil))))) dNil))) dNil)))))) (dTg (.nm 1)))
    (dSeq (dFor (iTupD (dVar 1)) (dTg (.tp [2, 3])) (dIf (dNot (dTest (dCall (a2 sp_law_same) (dCons (dVar 2) (dCons (dVar 3) dNil))))) (dRet (dC (.bl false))) dNext))
    (dSeq (dAsg (dTup (dCons (dTup (dCons (dC (.int 2)) (dCons (dTup (dCons (dTup (dCons (dC (.int 0)) (dCons (dC (.int 1)) (dCons (dC (.int 1)) dNil)))) (dCons (dTup (dCons (dC (.int 1)) (dCons (dC (.int 0)) (dCons (dUn vNeg (dC (.int 1))) dNil)))) dNil))) (dCons (dTup (dCons (dC (.int 0)) (dCons (dC (.int 1)) dNil))) (dCons (dC (.bl true)) dNil))))) (dCons (dTup (dCons (dC (.int 2)) (dCons (dTup (dCons (dTup (dCons (dC (.int 0)) (dCons (dC (.int 1)) (dCons (dC (.int 1)) dNil)))) (dCons (dTup (dCons (dC (.int 1)) (dCons (dC (.int 0)) (dCons (dUn vNeg (dC (.int 1))) dNil)))) dNil))) (dCons (dTup (dCons (dC (.int 0)) (dCons (dC (.int 2)) dNil))) (dCons (dC (.bl false)) dNil))))) (dCons (dTup (dCons (dC (.int 2)) (dCons (dTup (dCons (dTup (dCons (dC (.int 0)) (dCons (dC (.int 1)) (dCons (dC (.int 1)) dNil)))) (dCons (dTup (dCons (dC (.int 1)) (dCons (dC (.int 0)) (dCons (dUn vNeg (dC (.int 1))) dNil)))) dNil))) (dCons (dTup (dCons (dC (.int 1)) (dCons (dC (.int 1)) dNil))) (dCons (dC (.bl false)) dNil))))) (dCons (dTup (dCons (dC (.int 1)) (dCons (dTup (dCons (dTup (dCons (dC (.int 0)) (dCons (dC (.int 0)) (dCons (dUn vNeg (dC (.int 1))) dNil)))) dNil)) (dCons (dTup (dCons (dC (.int 5)) dNil)) (dCons (dC (.bl false)) dNil))))) (dCons (dTup (dCons (dC (.int 1)) (dCons (dTup (dCons (dTup (dCons (dC (.int 0)) (dCons (dC (.int 0)) (dCons (dC (.int 0)) dNil)))) dNil)) (dCons (dTup (dCons (dC (.int 5)) dNil)) (dCons (dC (.bl true)) dNil))))) (dCons (dTup (dCons (dC (.int 2)) (dCons (dTup dNil) (dCons (dTup (dCons (dC (.int 0)) (dCons (dC (.bl true)) dNil))) (dCons (dC (.bl false)) dNil))))) (dCons (dTup (dCons (dC (.int 2)) (dCons (dTup dNil) (dCons (dTup (dCons (dC (.int 0)) (dCons (dUn vNeg (dC (.int 9))) dNil))) (dCons (dC (.bl true)) dNil))))) (dCons (dTup (dCons (dC (.int 2)) (dCons (dTup dNil) (dCons (dLst (dCons (dC (.int 0)) (dCons (dC (.int 1)) dNil))) (dCons (dC (.bl false)) dNil))))) dNil))))))))) (dTg (.nm 4)))
    (dSeq (dFor (iTupD (dVar 4)) (dTg (.tp [5, 6, 7, 3])) (dIf (dOr (dNot (dTest (dCall (a2 sp_law_bool) (dCons (dCall (a3 sp_is_potentials) (dCons (dVar 5) (dCons (dVar 6) (dCons (dVar 7) dNil)))) (dCons (dVar 3) dNil))))) (dNot (dTest (dCall (a2 sp_law_bool) (dCons (dCall (kw3 (fun x0 x1 x2 => [x1, x2, x0]) (a3 sp_is_potentials)) (dCons (dVar 7) (dCons (dVar 5) (dCons (dVar 6) dNil)))) (dCons (dVar 3) dNil)))))) (dRet (dC (.bl false))) dNext))
    (dRet (dC (.bl true))))))))))
theorem rd_law_by_hand_ok : ∀ ds S P, (a0 sp_law_by_hand) ds S P → rd_law_by_hand (DEnds.of P) (dstart ["told", "rows", "one", "due", "looks", "many", "edges", "thing"] ds) S := by
  intro ds S P hsp
  rcases ds with _ | ⟨x, ds⟩ <;> first | exact (hsp : False).elim | skip
  have q : P (.bl true) S := (hsp : sp_law_by_hand S P)
  unfold rd_law_by_hand
  walk_at "run"
  refine use_falling (n := 2) (es := E1) (by decide +kernel) (by decide) (by decide) (fun h => absurd h (by decide +kernel)) fun _ r1 f1 => ?_
  walk_at "run"
  refine use_falling (n := 1) (es := E2) (by decide +kernel) (by decide) (by decide) (fun h => absurd h (by decide +kernel)) fun _ r2 f2 => ?_
  walk_at "run"
  refine use_falling (n := 3) (es := E3) (by decide +kernel) (by decide) (by decide) (fun h => absurd h (by decide +kernel)) fun _ r3 f3 => ?_
  walk_at "run"
  have hr2 := fall2 f2
  subst hr2
  have i1 : ∀ {S : Sto} {Q : DK}, Q (.bl false) S → vInT true (.tup (r1.map iD)) (.tup [.tup [.int 0, .int 1], .tup [.int 1, .int 0]]) S Q := fun {S Q} h => by
    rcases fall1 f1 with rfl | rfl <;> exact ⟨rfl, rfl, by decide, by decide, h⟩
  have i3 : ∀ {S : Sto} {Q : DK}, Q (.bl false) S → vInT true (.tup (r3.map iD)) (.tup [.tup [.int 0, .int 2], .tup [.int 2, .int 0]]) S Q := fun {S Q} h => by
    rcases fall3 f3 with rfl | rfl <;> exact ⟨rfl, rfl, by decide, by decide, h⟩
  refine i1 ?_
  walk_at "run"
  refine (show ∀ {S : Sto} {Q : DK}, Q (.bl false) S → vNe (.tup ([0].map iD)) (.tup [.int 0]) S Q from fun h => ⟨rfl, rfl, by decide, by decide, h⟩) ?_
  walk_at "run"
  refine i3 ?_
  walk_at "run"
  refine use_falling (n := 1) (es := []) (by decide +kernel) (by decide) (by decide) (fun _ => ?_) (fun h => absurd (by decide +kernel) h)
  walk_at "run"
  refine use_falling (n := 3) (es := [(0, 1, -9), (1, 2, -9)]) (by decide +kernel) (by decide) (by decide) (fun _ => ?_) (fun h => absurd (by decide +kernel) h)
  walk_at "run"
  refine use_falling (n := 2) (es := [(0, 1, -2), (1, 0, 2), (0, 0, 0)]) (by decide +kernel) (by decide) (by decide) (fun _ => ?_) (fun h => absurd (by decide +kernel) h)
  walk_at "run"
  refine use_least (n := 3) (o := 0) (es := [(0, 1, 1), (0, 1, -2)]) (by decide) (by decide +kernel) (by decide) (by decide) (by decide +kernel) ?_
  rw [lwD (l := [some 0, some (-2), none]) (by decide +kernel)]
  walk_at "run"
  refine use_least (n := 2) (o := 1) (es := [(0, 1, 1)]) (by decide) (by decide +kernel) (by decide) (by decide) (by decide +kernel) ?_
  rw [lwD (l := [none, some 0]) (by decide +kernel)]
  walk_at "run"
  refine use_least (n := 1) (o := 0) (es := []) (by decide) (by decide +kernel) (by decide) (by decide) (by decide +kernel) ?_
  rw [lwD (l := [some 0]) (by decide +kernel)]
  walk_at "run"
  refine use_least (n := 2) (o := 1) (es := [(0, 0, 5), (0, 1, 7), (1, 0, -7)]) (by decide) (by decide +kernel) (by decide) (by decide) (by decide +kernel) ?_
  rw [lwD (l := [some (-7), some 0]) (by decide +kernel)]
  walk_at "run"
  refine use_least (n := 4) (o := 0) (es := [(0, 1, 1), (1, 2, -5), (0, 2, -3), (2, 3, 0), (3, 1, 5)]) (by decide) (by decide +kernel) (by decide) (by decide) (by decide +kernel) ?_
  rw [lwD (l := [some 0, some 1, some (-4), some (-4)]) (by decide +kernel)]
  walk_at "run"
  refine forL_inv (fun i δ S' => S' = S ∧ ∃ (x0 x1 x2 x3 : Option D), δ = [x0, x1, x2, x3, none, none, none, none]) (fun _ _ _ _ => True.intro) _ 0 _ _ ⟨rfl, _, _, none, none, rfl⟩ ?_ ?_
  · rintro j d _ _ hj ⟨rfl, x0, x1, x2, x3, rfl⟩ D2 hrt _ hnx _
    have hd : ∃ l : List (Option Int), d = .tup [.tup (l.map oI), .tup (l.map oI)] ∧ l.length ≤ 1000 := by
      have := List.mem_of_getElem? hj
      simp only [List.mem_cons, List.not_mem_nil, or_false] at this
      rcases this with rfl | rfl | rfl | rfl | rfl
      · exact ⟨[some 0, some (-2), none], rfl, by decide⟩
      · exact ⟨[none, some 0], rfl, by decide⟩
      · exact ⟨[some 0], rfl, by decide⟩
      · exact ⟨[some (-7), some 0], rfl, by decide⟩
      · exact ⟨[some 0, some 1, some (-4), some (-4)], rfl, by decide⟩
    obtain ⟨l, rfl, hl⟩ := hd
    walk_at "run"
    refine use_same hl ?_
    walk_at "run"
    exact hnx _ _ ⟨rfl, _, _, _, _, rfl⟩
  · rintro _ S ⟨rfl, x0, x1, x2, x3, rfl⟩
    walk_at "run"
    refine forL_inv (fun i δ S'' => S'' = S ∧ ∃ (x3 x4 x5 x6 x7 : Option D), δ = [x0, x1, x2, x3, x4, x5, x6, x7]) (fun _ _ _ _ => True.intro) _ 0 _ _ ⟨rfl, _, _, none, none, none, rfl⟩ ?_ ?_
    · rintro j d _ _ hj ⟨rfl, x3, x4, x5, x6, x7, rfl⟩ D2 hrt _ hnx _
      have hd : ∃ (n : Nat) (es : List Ed) (th : D), d = .tup [iD n, esD es, th, .bl (potB n es th)] ∧ Gd th = true ∧ GdT th ∧ Below n es ∧ n ≤ 100 ∧ es.length ≤ 1000 := by
        have := List.mem_of_getElem? hj
        simp only [List.mem_cons, List.not_mem_nil, or_false] at this
        rcases this with rfl | rfl | rfl | rfl | rfl | rfl | rfl | rfl
        · exact ⟨2, [(0, 1, 1), (1, 0, -1)], .tup [.int 0, .int 1], rfl, rfl, (by decide : ∀ d ∈ [D.int 0, D.int 1], Gd d = true), by decide, by decide, by decide⟩
        · exact ⟨2, [(0, 1, 1), (1, 0, -1)], .tup [.int 0, .int 2], rfl, rfl, (by decide : ∀ d ∈ [D.int 0, D.int 2], Gd d = true), by decide, by decide, by decide⟩
        · exact ⟨2, [(0, 1, 1), (1, 0, -1)], .tup [.int 1, .int 1], rfl, rfl, (by decide : ∀ d ∈ [D.int 1, D.int 1], Gd d = true), by decide, by decide, by decide⟩
        · exact ⟨1, [(0, 0, -1)], .tup [.int 5], rfl, rfl, (by decide : ∀ d ∈ [D.int 5], Gd d = true), by decide, by decide, by decide⟩
        · exact ⟨1, [(0, 0, 0)], .tup [.int 5], rfl, rfl, (by decide : ∀ d ∈ [D.int 5], Gd d = true), by decide, by decide, by decide⟩
        · exact ⟨2, [], .tup [.int 0, .bl true], rfl, rfl, (by decide : ∀ d ∈ [D.int 0, D.bl true], Gd d = true), by decide, by decide, by decide⟩
        · exact ⟨2, [], .tup [.int 0, .int (-9)], rfl, rfl, (by decide : ∀ d ∈ [D.int 0, D.int (-9)], Gd d = true), by decide, by decide, by decide⟩
        · exact ⟨2, [], .lst [.int 0, .int 1], rfl, rfl, trivial, by decide, by decide, by decide⟩
      obtain ⟨n, es, th, rfl, g1, g2, bl, hn, hel⟩ := hd
      walk_at "run"
      refine use_potentials g1 g2 bl hn hel ?_
      walk_at "run"
      refine use_bool rfl ?_
      walk_at "run"
      refine use_potentials g1 g2 bl hn hel ?_
      walk_at "run"
      refine use_bool rfl ?_
      walk_at "run"
      exact hnx _ _ ⟨rfl, _, _, _, _, _, rfl⟩
    · rintro _ _ ⟨rfl, x3, x4, x5, x6, x7, rfl⟩
      walk_at "run"
      exact .of q
end L3

set_option Elab.async false
set_option maxRecDepth 100000
set_option linter.all false
set_option maxHeartbeats 4000000
namespace L3
open PySem L2 L3.KW
local macro_rules | `(tactic| walk_at "cond") => `(tactic| first | omega | (simp only [List.length_append, List.length_cons, List.length_nil, List.length_take, List.length_drop, List.length_map, List.length_reverse]; omega) | rfl | decide)
local macro_rules | `(tactic| walk_at "side") => `(tactic| first | assumption | omega | (simp only [List.length_append, List.length_cons, List.length_nil, List.length_take, List.length_drop, List.length_map, List.length_reverse, sizeLine_val]; omega) | decide)
local macro_rules | `(tactic| walk_at "st") => `(tactic| first
  | with_reducible refine st_ix0 ?_ | with_reducible refine st_ix1 ?_ | with_reducible refine st_ix2 ?_ | with_reducible refine st_ix3 ?_ | with_reducible refine st_ix4 ?_
  | with_reducible refine st_add_pp (by walk_at "side") ?_ | with_reducible refine st_add_p1 (by walk_at "side") ?_ | with_reducible refine st_add_1p (by walk_at "side") ?_
  | with_reducible refine st_add ?_ | with_reducible refine st_sub ?_ | with_reducible refine st_iadd ?_ | with_reducible refine st_neg ?_
  | with_reducible refine st_len_p ?_ | with_reducible refine st_len_lp ?_ | with_reducible refine st_len_rp ?_ | with_reducible refine st_len_t ?_ | with_reducible refine st_len_l ?_
  | with_reducible refine st_add_t (by walk_at "side") ?_ | with_reducible refine st_add_l (by walk_at "side") ?_ | with_reducible refine st_add_s (by walk_at "side") ?_
  | with_reducible refine st_tru_bl ?_ | with_reducible refine st_tru_int ?_ | with_reducible refine st_tru_tup ?_ | with_reducible refine st_tru_lst ?_ | with_reducible refine st_tru_non ?_
  | with_reducible refine st_at (by assumption) ?_ | with_reducible refine st_atl (by assumption) ?_
  | with_reducible refine st_iteT ?_ | with_reducible refine st_iteF ?_ | with_reducible refine st_not ?_
  | with_reducible refine st_lt ?_ | with_reducible refine st_le ?_ | with_reducible refine st_gt ?_ | with_reducible refine st_ge ?_ | with_reducible refine st_eqi ?_ | with_reducible refine st_nei ?_ | with_reducible refine st_eqs ?_ | with_reducible refine st_nes ?_ | with_reducible refine st_eqb ?_
  | with_reducible refine st_isn_non ?_ | with_reducible refine st_isn_int ?_ | with_reducible refine st_isn_tup ?_ | with_reducible refine st_isn_str ?_ | with_reducible refine st_isn_bl ?_
  | with_reducible refine st_isnt_non ?_ | with_reducible refine st_isnt_int ?_ | with_reducible refine st_isnt_tup ?_ | with_reducible refine st_isnt_str ?_
  | with_reducible refine st_int ?_ | with_reducible refine st_intb ?_ | with_reducible refine st_abs ?_ | with_reducible refine st_min2 ?_ | with_reducible refine st_max2 ?_
  | with_reducible refine st_tup_l ?_ | with_reducible refine st_tup_t ?_ | with_reducible refine st_lst_t ?_ | with_reducible refine st_lst_l ?_
  | with_reducible refine st_sl_from ?_ | with_reducible refine st_sl_to ?_
  | with_reducible refine st_lx0 ?_ | with_reducible refine st_lx1 ?_ | with_reducible refine st_lx2 ?_ | with_reducible refine st_lx3 ?_
  | with_reducible refine st_mod (by walk_at "side") ?_ | with_reducible refine st_div (by walk_at "side") ?_ | with_reducible refine st_mul (by walk_at "side") ?_ | with_reducible refine st_mul' (by walk_at "side") ?_
  | with_reducible refine st_isi rfl ?_
  | (with_reducible refine And.intro (Nat.le_of_ble_eq_true rfl) ?_)
  | (refine And.intro (rfl : (_ : Nat) = _) ?_)
  | with_reducible refine st_dT (by walk_at "cond") ?_ | with_reducible refine st_dF (by walk_at "cond") ?_)
local macro_rules | `(tactic| walk_at "hd") => `(tactic| (with_reducible conv => whnf))
local macro_rules | `(tactic| walk_at "run") => `(tactic| ((with_reducible conv => whnf); repeat (walk_at "st"; (with_reducible conv => whnf))))
/-! ### the law -/
theorem mem6 (k : Nat) (h : k < 6) : ∃ t : Int, ([.int 0, .int (-1), .int 0, .int 1, .int (-1), .int (-1)] : List D)[k]? = some (.int t) ∧ -1 ≤ t ∧ t ≤ 1 ∧ (k = 4 → t = -1) := by
  have e : k = 0 ∨ k = 1 ∨ k = 2 ∨ k = 3 ∨ k = 4 ∨ k = 5 := by omega
  rcases e with rfl | rfl | rfl | rfl | rfl | rfl
  · exact ⟨0, rfl, by decide, by decide, by decide⟩
  · exact ⟨-1, rfl, by decide, by decide, by decide⟩
  · exact ⟨0, rfl, by decide, by decide, by decide⟩
  · exact ⟨1, rfl, by decide, by decide, by decide⟩
  · exact ⟨-1, rfl, by decide, by decide, by decide⟩
  · exact ⟨-1, rfl, by decide, by decide, by decide⟩
theorem st_insert {A : Addr} {i : Nat} {d : D} {xs : List D} {S : Sto} {Q : DK} (e : S A = some (.lst xs)) (h1 : xs.length < sizeLine) (h2 : (i : Int) < 2 ^ 62) (h : Q .non (L3.sup S A (.lst (xs.take i ++ [d] ++ xs.drop i)))) : vInsert (.ref A) [.int (i : Int), d] S Q := by
  simp only [vInsert, e]
  exact ⟨h1, by omega, h2, h⟩
abbrev law_frag : DTS := (dSeq (dIf (dTest (dOp vNe (dVar 4) (dC (.int 1)))) (dFor (iSeq (dCall (a4 sp_law_round) (dCons (dVar 1) (dCons (dVar 5) (dCons (dVar 6) (dCons (dOp vIx (dTup (dCons (dC (.int 0)) (dCons (dUn vNeg (dC (.int 1))) (dCons (dC (.int 0)) (dCons (dC (.int 1)) (dCons (dUn vNeg (dC (.int 1))) (dCons (dUn vNeg (dC (.int 1))) dNil))))))) (dVar 4)) dNil)))))) (dTg (.nm 8)) (dDrop (dLM vInsert (dVar 7) (dCons (dCall (a3 sp_law_load) (dCons (dVar 1) (dCons (dC (.int 7)) (dCons (dOp vAdd (dCB vLen (dCons (dVar 7) dNil)) (dC (.int 1))) dNil)))) (dCons (dVar 8) dNil))))) dNext)
    (dIf (dNot (dTest (dCall (a4 sp_law_asked) (dCons (dVar 1) (dCons (dVar 5) (dCons (dCB vTuple (dCons (dVar 7) dNil)) (dCons (dVar 3) dNil))))))) (dRet (dC (.bl false))) dNext))
theorem mem_ins {es : List Ed} {i : Nat} {e x : Ed} : x ∈ es.take i ++ [e] ++ es.drop i ↔ x = e ∨ x ∈ es := by
  rw [List.mem_append, List.mem_append, List.mem_singleton]
  constructor
  · rintro ((h | h) | h)
    · exact .inr (List.mem_of_mem_take h)
    · exact .inl h
    · exact .inr (List.mem_of_mem_drop h)
  · rintro (h | h)
    · exact .inl (.inr h)
    · rw [← List.take_append_drop i es] at h
      rcases List.mem_append.mp h with h | h
      · exact .inl (.inl h)
      · exact .inr h
theorem law_tail {a g l c p : Addr} {k n : Nat} {b : Bool} {es : List Ed} {c0 c1 : Int} {x0 x2 x8 : Option D} {S : Sto} {D2 : DEnds} (hk : k < 6) (n0 : 0 < n) (n1 : n ≤ 30) (sk : Sk S a g l) (ca : c ≠ a) (cg : c ≠ g) (cl : c ≠ l) (ec : S c = some (.lst [.int c0, .int c1]))
    (ep : S p = some (.lst (es.map edD))) (pa : p ≠ a) (pg : p ≠ g) (pl : p ≠ l) (pc : p ≠ c) (hes : es.length ≤ 60) (bl : Below n es) (pot : ∃ m, Pot es m) (hw : ∀ e ∈ es, -(3 * W0) ≤ e.2.2 ∧ e.2.2 ≤ 3 * W0)
    (nx : ∀ S' (y8 : Option D) (d0 d1 : Int), Sk S' a g l → S' c = some (.lst [.int d0, .int d1]) → c0 ≤ d0 → c1 ≤ d1 → (k = 1 → c0 + 1 = d0) → (k = 4 → c1 + 1 = d1) → D2.nx [x0, some (.ref a), x2, some (.ref c), some (iD k), some (iD n), some (.bl b), some (.ref p), y8] S') :
    law_frag D2 [x0, some (.ref a), x2, some (.ref c), some (iD k), some (iD n), some (.bl b), some (.ref p), x8] S := by
  have hW : (7 : Int) ≤ W0 := by unfold W0; omega
  have done : ∀ (fs : List Ed) (S' : Sto) (y8 : Option D), Sk S' a g l → S' c = some (.lst [.int c0, .int c1]) → S' p = some (.lst (fs.map edD)) → fs.length ≤ 100 → Below n fs → (∀ e ∈ fs, -(200 * W0) ≤ e.2.2 ∧ e.2.2 ≤ 200 * W0) → (k = 1 → Stable fs (passes fs zF n)) → (k = 4 → ¬ Stable fs (passes fs zF n)) →
      (dIf (dNot (dTest (dCall (a4 sp_law_asked) (dCons (dVar 1) (dCons (dVar 5) (dCons (dCB vTuple (dCons (dVar 7) dNil)) (dCons (dVar 3) dNil))))))) (dRet (dC (.bl false))) dNext) D2 [x0, some (.ref a), x2, some (.ref c), some (iD k), some (iD n), some (.bl b), some (.ref p), y8] S' := fun fs S' y8 sk' ec' ep' hl bl' hw' h1 h4 => by
    walk_at "run"
    refine st_tup_r ep' ?_
    walk_at "run"
    refine use_asked n0 (by omega) bl' (by omega) hw' sk' ca cg cl ec' fun S2 sk2 kp2 q0 q1 => ?_
    walk_at "run"
    by_cases st : Stable fs (passes fs zF n)
    · exact nx S2 _ _ _ sk2 (q0 st) (by omega) (by omega) (fun _ => by omega) (fun h => absurd st (h4 h))
    · exact nx S2 _ _ _ sk2 (q1 st) (by omega) (by omega) (fun h => absurd (h1 h) st) (fun _ => by omega)
  walk_at "run"
  by_cases z : (k : Int) = 1
  · rw [decide_eq_true z]
    walk_at "run"
    obtain ⟨m, hm⟩ := pot
    exact done es S _ sk ec ep (by omega) bl (fun e he => by have := hw e he; omega) (fun _ => pot_stable bl hm) (fun h => by omega)
  · rw [decide_eq_false z]
    walk_at "run"
    obtain ⟨t, ht, t0, t1, t4⟩ := mem6 k hk
    walk_at "run"
    refine use_round n0 (by omega) t0 t1 sk fun rs R S1 hR sk1 eR hrl rbl clo rsum rw_ kp1 => ?_
    have ra := sk.na hR
    have rg := sk.ng hR
    have rl := sk.nl hR
    have rc : R ≠ c := fun z => by subst z; rw [ec] at hR; cases hR
    have rp : R ≠ p := fun z => by subst z; rw [ep] at hR; cases hR
    rw [it_r eR]
    walk_at "run"
    refine forL_inv (fun j δ S' => ∃ (fs : List Ed) (y8 : Option D), Sk S' a g l ∧ S' c = some (.lst [.int c0, .int c1]) ∧ S' p = some (.lst (fs.map edD)) ∧ S' R = some (.lst (rs.map edD)) ∧ fs.length = es.length + j ∧ (∀ e ∈ fs, e ∈ es ∨ e ∈ rs) ∧ (∀ i e, i < j → rs[i]? = some e → e ∈ fs) ∧
      δ = [x0, some (.ref a), x2, some (.ref c), some (iD k), some (iD n), some (.bl b), some (.ref p), y8]) (fun _ _ _ h => by obtain ⟨_, _, _, _, _, h, _⟩ := h; exact h) _ 0 _ _
      ⟨es, _, sk1, kp1 c _ ca cg ec, kp1 p _ pa pg ep, eR, rfl, fun e he => .inl he, fun i e h => absurd h (Nat.not_lt_zero _), rfl⟩ ?_ ?_
    · rintro j d _ S' hj ⟨fs, y8, sk2, ec2, ep2, eR2, hfl, fm, fi, rfl⟩ D3 hrt _ hnx _
      rw [List.getElem?_map] at hj
      obtain ⟨e, he, rfl⟩ := Option.map_eq_some_iff.mp hj
      have hjl : j < rs.length := (List.getElem?_eq_some_iff.mp he).1
      rw [Nat.zero_add] at hfl fi hnx
      walk_at "run"
      rw [isSeq_ref]
      refine ⟨⟨_, ep2⟩, ?_⟩
      walk_at "run"
      refine st_len_r ep2 ?_
      rw [List.length_map]
      walk_at "run"
      refine use_load (k := 7) sk2 (by omega) (by omega) fun i S3 h10 h11 sk3 s3 => ?_
      obtain ⟨i, rfl⟩ := Int.eq_ofNat_of_zero_le h10
      walk_at "run"
      refine st_insert ((s3 p pa pg).trans ep2) (by rw [List.length_map, sizeLine_v]; omega) (by omega) ?_
      walk_at "run"
      refine hnx _ _ ⟨fs.take i ++ [e] ++ fs.drop i, _, sk3.sup pa pg pl, by rw [sup_ne (Ne.symm pc), s3 c ca cg]; exact ec2, by rw [sup_same]; simp only [List.map_append, List.map_take, List.map_drop]; rfl, by rw [sup_ne rp, s3 R ra rg]; exact eR2, ?_, fun x hx => ?_, fun i' x hi hx => ?_, rfl⟩
      · simp only [List.length_append, List.length_take, List.length_drop, List.length_cons, List.length_nil]
        omega
      · rcases mem_ins.mp hx with rfl | hx
        · exact .inr (List.mem_of_getElem? he)
        · exact fm x hx
      · refine mem_ins.mpr ?_
        by_cases z : i' = j
        · subst z; rw [he] at hx; exact .inl (Option.some.inj hx).symm
        · exact .inr (fi i' x (by omega) hx)
    · rintro _ S' ⟨fs, y8, sk2, ec2, ep2, eR2, hfl, fm, fi, rfl⟩
      rw [List.length_map, Nat.zero_add] at hfl fi
      refine done fs S' _ sk2 ec2 ep2 (by omega) (fun e he => ?_) (fun e he => ?_) (fun h => by omega) (fun h st => ?_)
      · rcases fm e he with h | h
        · exact bl e h
        · exact rbl e h
      · rcases fm e he with h | h
        · have := hw e h; omega
        · exact rw_ e h
      · have hp := stable_pot (passes_all zF_all n) st
        refine round_pot (r := rs) (clo _) (by rw [rsum, t4 h]; decide) (fun e he => ?_) hp
        obtain ⟨i, hi⟩ := List.mem_iff_getElem?.mp he
        exact fi i e (List.getElem?_eq_some_iff.mp hi).1 hi
-- law : 0=script 1=scale 2=wide 3=counts 4=lap 5=many 6=great 7=edges 8=one
def rd_law : DTS :=
    (dSeq (dAsg (dCall (a1 sp_law_scale) (dCons (dVar 0) dNil)) (dTg (.nm 1)))
    (dSeq (dAsg (dOp vEq (dCall (a3 sp_law_load) (dCons (dVar 1) (dCons (dC (.int 2)) (dCons (dC (.int 7)) dNil)))) (dC (.int 3))) (dTg (.nm 2)))
    (dSeq (dIf (dNot (dTest (dCall (a0 sp_law_by_hand) dNil))) (dRet (dC (.bl false))) dNext)
    (dSeq (dAsg (dLstM (dCons (dC (.int 0)) (dCons (dC (.int 0)) dNil))) (dTg (.nm 3)))
    (dSeq (dFor (iRange1 (dOp vAdd (dC (.int 5)) (dCB vInt (dCons (dVar 2) dNil)))) (dTg (.nm 4)) (dSeq (dAsg (dIfE (dTest (dOp vEq (dVar 4) (dC (.int 5)))) (dC (.int 30)) (dOp vAdd (dC (.int 1)) (dCall (a3 sp_law_load) (dCons (dVar 1) (dCons (dC (.int 1)) (dCons (dC (.int 7)) dNil)))))) (dTg (.nm 5)))
    (dSeq (dAsg (dOp vEq (dCall (a3 sp_law_load) (dCons (dVar 1) (dCons (dC (.int 3)) (dCons (dC (.int 5)) dNil)))) (dC (.int 2))) (dTg (.nm 6)))
    (dSeq (dAsg (dCall (a4 sp_law_edges) (dCons (dVar 1) (dCons (dVar 5) (dCons (dIfE (dTest (dOp vEq (dVar 4) (dC (.int 5)))) (dC (.int 60)) (dCall (a3 sp_law_load) (dCons (dVar 1) (dCons (dC (.int 0)) (dCons (dC (.int 12)) dNil))))) (dCons (dVar 6) dNil))))) (dTg (.nm 7)))
    (dSeq (dIf (dTest (dOp vNe (dVar 4) (dC (.int 1)))) (dFor (iSeq (dCall (a4 sp_law_round) (dCons (dVar 1) (dCons (dVar 5) (dCons (dVar 6) (dCons (dOp vIx (dTup (dCons (dC (.int 0)) (dCons (dUn vNeg (dC (.int 1))) (dCons (dC (.int 0)) (dCons (dC (.int 1)) (dCons (dUn vNeg (dC (.int 1))) (dCons (dUn vNeg (dC (.int 1))) dNil))))))) (dVar 4)) dNil)))))) (dTg (.nm 8)) (dDrop (dLM vInsert (dVar 7) (dCons (dCall (a3 sp_law_load) (dCons (dVar 1) (dCons (dC (.int 7)) (dCons (dOp vAdd (dCB vLen (dCons (dVar 7) dNil)) (dC (.int 1))) dNil)))) (dCons (dVar 8) dNil))))) dNext)
    (dIf (dNot (dTest (dCall (a4 sp_law_asked) (dCons (dVar 1) (dCons (dVar 5) (dCons (dCB vTuple (dCons (dVar 7) dNil)) (dCons (dVar 3) dNil))))))) (dRet (dC (.bl false))) dNext))))))
    (dRet (dAndV (dOp vGt (dOp vIx (dVar 3) (dC (.int 0))) (dC (.int 0))) (dOp vGt (dOp vIx (dVar 3) (dC (.int 1))) (dC (.int 0))))))))))
theorem rd_law_ok : ∀ ds S P, spTrue ds S P → rd_law (DEnds.of P) (dstart ["script", "scale", "wide", "counts", "lap", "many", "great", "edges", "one"] ds) S := by
  rintro ds S P ⟨ns, rfl, hl, q⟩
  unfold rd_law
  walk_at "run"
  refine use_scale hl fun a g l S1 sk1 => ?_
  walk_at "run"
  refine use_load (k := 2) sk1 (by omega) (by omega) fun r S2 h10 h11 sk2 s2 => ?_
  walk_at "run"
  refine (show ∀ {S : Sto} {Q : DK}, Q (.bl true) S → sp_law_by_hand S Q from fun h => h) ?_
  walk_at "run"
  intro c hc
  have ca := sk2.na hc
  have cg := sk2.ng hc
  have cl := sk2.nl hc
  walk_at "run"
  generalize hw : (if decide (r = 3) = true then (1 : Int) else 0) = w
  have w0 : 0 ≤ w ∧ w ≤ 1 := by rw [← hw]; split <;> omega
  refine ⟨by omega, by omega, ?_⟩
  refine forL_inv (fun k δ S' => Sk S' a g l ∧ ∃ (c0 c1 : Int) (x2 x4 x5 x6 x7 x8 : Option D), S' c = some (.lst [.int c0, .int c1]) ∧ 0 ≤ c0 ∧ 0 ≤ c1 ∧ (2 ≤ k → 1 ≤ c0) ∧ (5 ≤ k → 1 ≤ c1) ∧
    δ = [some (.ro (ns.map .int)), some (.ref a), x2, some (.ref c), x4, x5, x6, x7, x8]) (fun _ _ _ _ => True.intro) _ 0 _ _
    ⟨sk2.sup ca cg cl, 0, 0, _, none, none, none, none, none, sup_same, by omega, by omega, fun h => by omega, fun h => by omega, rfl⟩ ?_ ?_
  · rintro k d _ S3 hj ⟨sk3, c0, c1, x2, x4, x5, x6, x7, x8, ec3, p0, p1, p2, p3, rfl⟩ D2 hrt _ hnx _
    obtain ⟨hk, rfl⟩ := rng_at hj
    rw [Nat.zero_add] at p2 p3 hnx
    have nx : ∀ S' (x4 x5 x6 x7 y8 : Option D) (d0 d1 : Int), Sk S' a g l → S' c = some (.lst [.int d0, .int d1]) → c0 ≤ d0 → c1 ≤ d1 → (k = 1 → c0 + 1 = d0) → (k = 4 → c1 + 1 = d1) → D2.nx [some (.ro (ns.map .int)), some (.ref a), x2, some (.ref c), x4, x5, x6, x7, y8] S' := fun S' x4 x5 x6 x7 y8 d0 d1 sk' ec' h0 h1 h2 h3 =>
      hnx _ _ ⟨sk', d0, d1, _, _, _, _, _, _, ec', by omega, by omega, fun h => by omega, fun h => by omega, rfl⟩
    walk_at "run"
    by_cases z : (k : Int) = 5
    · rw [decide_eq_true z]
      walk_at "run"
      refine use_load (k := 3) sk3 (by omega) (by omega) fun r4 S4 h40 h41 sk4 s4 => ?_
      walk_at "run"
      refine use_edges (n := 30) (rows := 60) (by omega) (by omega) (by omega) sk4 fun es p S5 hp sk5 ep hel bl pot hb kp => ?_
      have ec4 := (s4 c ca cg).trans ec3
      exact law_tail (k := k) (n := 30) (by omega) (by omega) (by omega) sk5 ca cg cl (kp c _ ca cg ec4) ep (sk4.na hp) (sk4.ng hp) (sk4.nl hp) (fun z => by subst z; rw [ec4] at hp; cases hp) (by omega) bl pot hb (fun S' y8 d0 d1 => nx S' _ _ _ _ y8 d0 d1)
    · rw [decide_eq_false z]
      walk_at "run"
      refine use_load (k := 1) sk3 (by omega) (by omega) fun r4 S4 h40 h41 sk4 s4 => ?_
      obtain ⟨n, rfl⟩ := Int.eq_ofNat_of_zero_le h40
      walk_at "run"
      refine use_load (k := 3) sk4 (by omega) (by omega) fun r5 S5 h50 h51 sk5 s5 => ?_
      walk_at "run"
      refine use_load (k := 0) sk5 (by omega) (by omega) fun r6 S6 h60 h61 sk6 s6 => ?_
      obtain ⟨m, rfl⟩ := Int.eq_ofNat_of_zero_le h60
      rw [show (1 : Int) + (n : Int) = ((1 + n : Nat) : Int) by omega]
      refine use_edges (n := 1 + n) (rows := m) (by omega) (by omega) (by omega) sk6 fun es p S7 hp sk7 ep hel bl pot hb kp => ?_
      have ec6 := (s6 c ca cg).trans ((s5 c ca cg).trans ((s4 c ca cg).trans ec3))
      exact law_tail (by omega) (by omega) (by omega) sk7 ca cg cl (kp c _ ca cg ec6) ep (sk6.na hp) (sk6.ng hp) (sk6.nl hp) (fun z => by subst z; rw [ec6] at hp; cases hp) (by omega) bl pot hb (fun S' y8 d0 d1 => nx S' _ _ _ _ y8 d0 d1)
  · rintro _ S3 ⟨sk3, c0, c1, x2, x4, x5, x6, x7, x8, ec3, p0, p1, p2, p3, rfl⟩
    rw [rng_len, Nat.zero_add] at p2 p3
    have q2 := p2 (by omega)
    have q3 := p3 (by omega)
    walk_at "run"
    refine st_atr (k := 0) ec3 rfl ?_
    walk_at "run"
    refine st_atr (k := 1) ec3 rfl ?_
    walk_at "run"
    rw [decide_eq_true (show c1 > 0 by omega)]
    exact .of (q _)
end L3

set_option Elab.async false
set_option maxRecDepth 100000
set_option linter.all false
set_option maxHeartbeats 4000000
namespace L3
set_option autoImplicit false
open PySem PySem.Spec PyProof.Rows L2
/-! the text by places -/
def topS (i : Nat) : Stmt := PySem.Challenge.pw_pilesfit_k69_whole_weights.main.body.getD i (.Pass ⟨0, 0, 0, 0⟩)
abbrev s_is_integer : Stmt := topS 1
abbrev N_is_integer : List Str := ["thing"]
theorem sc_is_integer : FnScope N_is_integer ["thing"] (defScope s_is_integer) := ⟨rfl, rfl, rfl, by decide +kernel, rfl, by decide +kernel, by decide +kernel⟩
abbrev s_is_tuple : Stmt := topS 2
abbrev N_is_tuple : List Str := ["thing", "many"]
theorem sc_is_tuple : FnScope N_is_tuple ["thing", "many"] (defScope s_is_tuple) := ⟨rfl, rfl, rfl, by decide +kernel, rfl, by decide +kernel, by decide +kernel⟩
abbrev s_settle : Stmt := topS 4
abbrev N_settle : List Str := ["sums", "edges", "lowered", "place", "edge", "one", "other", "weight"]
theorem sc_settle : FnScope N_settle ["sums", "edges"] (defScope s_settle) := ⟨rfl, rfl, rfl, by decide +kernel, rfl, by decide +kernel, by decide +kernel⟩
abbrev s_round_through : Stmt := topS 5
abbrev N_round_through : List Str := ["edges", "ahead", "number", "met", "first", "found"]
theorem sc_round_through : FnScope N_round_through ["edges", "ahead", "number"] (defScope s_round_through) := ⟨rfl, rfl, rfl, by decide +kernel, rfl, by decide +kernel, by decide +kernel⟩
abbrev s_falling_round : Stmt := topS 6
abbrev N_falling_round : List Str := ["many", "edges", "sums", "_", "ahead", "lowered", "number"]
theorem sc_falling_round : FnScope N_falling_round ["many", "edges"] (defScope s_falling_round) := ⟨rfl, rfl, rfl, by decide +kernel, rfl, by decide +kernel, by decide +kernel⟩
abbrev s_least_ways : Stmt := topS 7
abbrev N_least_ways : List Str := ["many", "edges", "start", "sums", "_", "changed"]
theorem sc_least_ways : FnScope N_least_ways ["many", "edges", "start"] (defScope s_least_ways) := ⟨rfl, rfl, rfl, by decide +kernel, rfl, by decide +kernel, by decide +kernel⟩
abbrev s_is_potentials : Stmt := topS 8
abbrev N_is_potentials : List Str := ["many", "edges", "thing", "number", "one", "other", "weight"]
theorem sc_is_potentials : FnScope N_is_potentials ["many", "edges", "thing"] (defScope s_is_potentials) := ⟨rfl, rfl, rfl, by decide +kernel, rfl, by decide +kernel, by decide +kernel⟩
abbrev s_law_scale : Stmt := topS 10
abbrev N_law_scale : List Str := ["script", "great", "mixed", "cell", "size", "leans", "place"]
theorem sc_law_scale : FnScope N_law_scale ["script"] (defScope s_law_scale) := ⟨rfl, rfl, rfl, by decide +kernel, rfl, by decide +kernel, by decide +kernel⟩
abbrev s_law_load : Stmt := topS 11
abbrev N_law_load : List Str := ["scale", "place", "many", "size", "lean"]
theorem sc_law_load : FnScope N_law_load ["scale", "place", "many"] (defScope s_law_load) := ⟨rfl, rfl, rfl, by decide +kernel, rfl, by decide +kernel, by decide +kernel⟩
abbrev s_law_weight : Stmt := topS 12
abbrev N_law_weight : List Str := ["scale", "great", "number"]
theorem sc_law_weight : FnScope N_law_weight ["scale", "great"] (defScope s_law_weight) := ⟨rfl, rfl, rfl, by decide +kernel, rfl, by decide +kernel, by decide +kernel⟩
abbrev s_law_edges : Stmt := topS 13
abbrev N_law_edges : List Str := ["scale", "many", "rows", "great", "marks", "k", "edges", "lap", "one", "other", "spare"]
theorem sc_law_edges : FnScope N_law_edges ["scale", "many", "rows", "great"] (defScope s_law_edges) := ⟨rfl, rfl, rfl, by decide +kernel, rfl, by decide +kernel, by decide +kernel⟩
abbrev s_law_round : Stmt := topS 14
abbrev N_law_round : List Str := ["scale", "many", "great", "total", "left", "row", "lap", "edges", "rest", "k", "weight"]
theorem sc_law_round : FnScope N_law_round ["scale", "many", "great", "total"] (defScope s_law_round) := ⟨rfl, rfl, rfl, by decide +kernel, rfl, by decide +kernel, by decide +kernel⟩
abbrev s_law_settled : Stmt := topS 15
abbrev N_law_settled : List Str := ["many", "edges", "begins", "least", "lap", "moved", "one", "other", "weight"]
theorem sc_law_settled : FnScope N_law_settled ["many", "edges", "begins"] (defScope s_law_settled) := ⟨rfl, rfl, rfl, by decide +kernel, rfl, by decide +kernel, by decide +kernel⟩
abbrev s_law_is_falling : Stmt := topS 16
abbrev N_law_is_falling : List Str := ["edges", "thing", "at", "k"]
theorem sc_law_is_falling : FnScope N_law_is_falling ["edges", "thing"] (defScope s_law_is_falling) := ⟨rfl, rfl, rfl, by decide +kernel, rfl, by decide +kernel, by decide +kernel⟩
abbrev s_law_are_potentials : Stmt := topS 17
abbrev N_law_are_potentials : List Str := ["many", "edges", "thing", "one", "other", "weight"]
theorem sc_law_are_potentials : FnScope N_law_are_potentials ["many", "edges", "thing"] (defScope s_law_are_potentials) := ⟨rfl, rfl, rfl, by decide +kernel, rfl, by decide +kernel, by decide +kernel⟩
abbrev s_law_same : Stmt := topS 18
abbrev N_law_same : List Str := ["told", "due", "k"]
theorem sc_law_same : FnScope N_law_same ["told", "due"] (defScope s_law_same) := ⟨rfl, rfl, rfl, by decide +kernel, rfl, by decide +kernel, by decide +kernel⟩
abbrev s_law_bool : Stmt := topS 19
abbrev N_law_bool : List Str := ["told", "due"]
theorem sc_law_bool : FnScope N_law_bool ["told", "due"] (defScope s_law_bool) := ⟨rfl, rfl, rfl, by decide +kernel, rfl, by decide +kernel, by decide +kernel⟩
abbrev s_law_asked : Stmt := topS 20
abbrev N_law_asked : List Str := ["scale", "many", "edges", "counts", "settled", "told", "base", "k", "starts", "start", "begins", "at", "things", "one", "odd", "thing", "other", "back", "more", "falls", "longer"]
theorem sc_law_asked : FnScope N_law_asked ["scale", "many", "edges", "counts"] (defScope s_law_asked) := ⟨rfl, rfl, rfl, by decide +kernel, rfl, by decide +kernel, by decide +kernel⟩
abbrev s_law_by_hand : Stmt := topS 21
abbrev N_law_by_hand : List Str := ["told", "rows", "one", "due", "looks", "many", "edges", "thing"]
theorem sc_law_by_hand : FnScope N_law_by_hand [] (defScope s_law_by_hand) := ⟨rfl, rfl, rfl, by decide +kernel, rfl, by decide +kernel, by decide +kernel⟩
abbrev s_law : Stmt := topS 22
abbrev N_law : List Str := ["script", "scale", "wide", "counts", "lap", "many", "great", "edges", "one"]
theorem sc_law : FnScope N_law ["script"] (defScope s_law) := ⟨rfl, rfl, rfl, by decide +kernel, rfl, by decide +kernel, by decide +kernel⟩
/-- what the top has written -/
structure Txt (K : PySem.W.Frag) (mg : Str → Option Value) where
  f_is_integer : Addr
  fd_is_integer : FuncData
  F_is_integer : Fun K "is_integer" "is_integer" s_is_integer f_is_integer fd_is_integer
  m_is_integer : mg "is_integer" = some (.ref f_is_integer)
  b_is_integer : Binds K fd_is_integer ["thing"] []
  f_is_tuple : Addr
  fd_is_tuple : FuncData
  F_is_tuple : Fun K "is_tuple" "is_tuple" s_is_tuple f_is_tuple fd_is_tuple
  m_is_tuple : mg "is_tuple" = some (.ref f_is_tuple)
  b_is_tuple : Binds K fd_is_tuple ["thing", "many"] []
  f_settle : Addr
  fd_settle : FuncData
  F_settle : Fun K "settle" "settle" s_settle f_settle fd_settle
  m_settle : mg "settle" = some (.ref f_settle)
  b_settle : Binds K fd_settle ["sums", "edges"] []
  f_round_through : Addr
  fd_round_through : FuncData
  F_round_through : Fun K "round_through" "round_through" s_round_through f_round_through fd_round_through
  m_round_through : mg "round_through" = some (.ref f_round_through)
  b_round_through : Binds K fd_round_through ["edges", "ahead", "number"] []
  f_falling_round : Addr
  fd_falling_round : FuncData
  F_falling_round : Fun K "falling_round" "falling_round" s_falling_round f_falling_round fd_falling_round
  m_falling_round : mg "falling_round" = some (.ref f_falling_round)
  b_falling_round : Binds K fd_falling_round ["many", "edges"] []
  f_least_ways : Addr
  fd_least_ways : FuncData
  F_least_ways : Fun K "least_ways" "least_ways" s_least_ways f_least_ways fd_least_ways
  m_least_ways : mg "least_ways" = some (.ref f_least_ways)
  b_least_ways : Binds K fd_least_ways ["many", "edges", "start"] []
  f_is_potentials : Addr
  fd_is_potentials : FuncData
  F_is_potentials : Fun K "is_potentials" "is_potentials" s_is_potentials f_is_potentials fd_is_potentials
  m_is_potentials : mg "is_potentials" = some (.ref f_is_potentials)
  b_is_potentials : Binds K fd_is_potentials ["many", "edges", "thing"] []
  f_law_scale : Addr
  fd_law_scale : FuncData
  F_law_scale : Fun K "_law_scale" "_law_scale" s_law_scale f_law_scale fd_law_scale
  m_law_scale : mg "_law_scale" = some (.ref f_law_scale)
  b_law_scale : Binds K fd_law_scale ["script"] []
  f_law_load : Addr
  fd_law_load : FuncData
  F_law_load : Fun K "_law_load" "_law_load" s_law_load f_law_load fd_law_load
  m_law_load : mg "_law_load" = some (.ref f_law_load)
  b_law_load : Binds K fd_law_load ["scale", "place", "many"] []
  f_law_weight : Addr
  fd_law_weight : FuncData
  F_law_weight : Fun K "_law_weight" "_law_weight" s_law_weight f_law_weight fd_law_weight
  m_law_weight : mg "_law_weight" = some (.ref f_law_weight)
  b_law_weight : Binds K fd_law_weight ["scale", "great"] []
  f_law_edges : Addr
  fd_law_edges : FuncData
  F_law_edges : Fun K "_law_edges" "_law_edges" s_law_edges f_law_edges fd_law_edges
  m_law_edges : mg "_law_edges" = some (.ref f_law_edges)
  b_law_edges : Binds K fd_law_edges ["scale", "many", "rows", "great"] []
  f_law_round : Addr
  fd_law_round : FuncData
  F_law_round : Fun K "_law_round" "_law_round" s_law_round f_law_round fd_law_round
  m_law_round : mg "_law_round" = some (.ref f_law_round)
  b_law_round : Binds K fd_law_round ["scale", "many", "great", "total"] []
  f_law_settled : Addr
  fd_law_settled : FuncData
  F_law_settled : Fun K "_law_settled" "_law_settled" s_law_settled f_law_settled fd_law_settled
  m_law_settled : mg "_law_settled" = some (.ref f_law_settled)
  b_law_settled : Binds K fd_law_settled ["many", "edges", "begins"] []
  f_law_is_falling : Addr
  fd_law_is_falling : FuncData
  F_law_is_falling : Fun K "_law_is_falling" "_law_is_falling" s_law_is_falling f_law_is_falling fd_law_is_falling
  m_law_is_falling : mg "_law_is_falling" = some (.ref f_law_is_falling)
  b_law_is_falling : Binds K fd_law_is_falling ["edges", "thing"] []
  f_law_are_potentials : Addr
  fd_law_are_potentials : FuncData
  F_law_are_potentials : Fun K "_law_are_potentials" "_law_are_potentials" s_law_are_potentials f_law_are_potentials fd_law_are_potentials
  m_law_are_potentials : mg "_law_are_potentials" = some (.ref f_law_are_potentials)
  b_law_are_potentials : Binds K fd_law_are_potentials ["many", "edges", "thing"] []
  f_law_same : Addr
  fd_law_same : FuncData
  F_law_same : Fun K "_law_same" "_law_same" s_law_same f_law_same fd_law_same
  m_law_same : mg "_law_same" = some (.ref f_law_same)
  b_law_same : Binds K fd_law_same ["told", "due"] []
  f_law_bool : Addr
  fd_law_bool : FuncData
  F_law_bool : Fun K "_law_bool" "_law_bool" s_law_bool f_law_bool fd_law_bool
  m_law_bool : mg "_law_bool" = some (.ref f_law_bool)
  b_law_bool : Binds K fd_law_bool ["told", "due"] []
  f_law_asked : Addr
  fd_law_asked : FuncData
  F_law_asked : Fun K "_law_asked" "_law_asked" s_law_asked f_law_asked fd_law_asked
  m_law_asked : mg "_law_asked" = some (.ref f_law_asked)
  b_law_asked : Binds K fd_law_asked ["scale", "many", "edges", "counts"] []
  f_law_by_hand : Addr
  fd_law_by_hand : FuncData
  F_law_by_hand : Fun K "_law_by_hand" "_law_by_hand" s_law_by_hand f_law_by_hand fd_law_by_hand
  m_law_by_hand : mg "_law_by_hand" = some (.ref f_law_by_hand)
  b_law_by_hand : Binds K fd_law_by_hand [] []
  f_law : Addr
  fd_law : FuncData
  F_law : Fun K "law" "law" s_law f_law fd_law
  m_law : mg "law" = some (.ref f_law)
  b_law : Binds K fd_law ["script"] []
  z_abs : mg "abs" = none
  z_all : mg "all" = none
  z_bool : mg "bool" = none
  z_enumerate : mg "enumerate" = none
  z_int : mg "int" = none
  z_isinstance : mg "isinstance" = none
  z_len : mg "len" = none
  z_list : mg "list" = none
  z_range : mg "range" = none
  z_reversed : mg "reversed" = none
  z_set : mg "set" = none
  z_str : mg "str" = none
  z_sum : mg "sum" = none
  z_tuple : mg "tuple" = none
  kw_0 : KwB fd_is_potentials ["many", "edges", "thing"] ["thing", "many", "edges"] 0 [1, 2, 0]
  kw_1 : KwB fd_least_ways ["many", "edges", "start"] ["start", "edges", "many"] 0 [2, 1, 0]
  kw_2 : KwB fd_falling_round ["many", "edges"] ["edges", "many"] 0 [1, 0]
section
variable {P : Program} {w : World} {K : PySem.W.Frag} {mg : Str → Option Value} {base : Heap}
theorem dv_is_integer (T : Txt K mg) : ∀ (cdv : Value) (A : Around) (outer : List Env) (s : Shared) (H : Hp) (E : XK), Room 0 (A.deeper (envOfC "is_integer" (defScope s_is_integer) s.heap.objs.size T.f_is_integer cdv)) → DPSs (cxOf CX0 P w K mg base N_is_integer "is_integer" (defScope s_is_integer) T.f_is_integer cdv A outer s H E).nox (KG.top K) (defBody s_is_integer) rd_is_integer := by
    intro cdv A outer s H E hr
    unfold rd_is_integer
    exact (dpss_one (dps_ret (dpe_and (dpe_callB dcall_isi (by rfl) T.z_isinstance boot_isinstance (dpa_cons (dpe_var 0) (dpa_cons (dpe_ty (by rfl) T.z_int boot_int) dpa_nil))) (dpe_one (dpe_not (dpe_callB dcall_isi (by rfl) T.z_isinstance boot_isinstance (dpa_cons (dpe_var 0) (dpa_cons (dpe_ty (by rfl) T.z_bool boot_bool) dpa_nil))))))))
theorem ok_is_integer (T : Txt K mg) : FnD P w K mg base 1 T.f_is_integer T.fd_is_integer ["thing"] (a1 sp_is_integer) := FnD.mk T.F_is_integer sc_is_integer a1_len (dv_is_integer T) rd_is_integer_ok
theorem dv_is_tuple (T : Txt K mg) : ∀ (cdv : Value) (A : Around) (outer : List Env) (s : Shared) (H : Hp) (E : XK), Room 0 (A.deeper (envOfC "is_tuple" (defScope s_is_tuple) s.heap.objs.size T.f_is_tuple cdv)) → DPSs (cxOf CX0 P w K mg base N_is_tuple "is_tuple" (defScope s_is_tuple) T.f_is_tuple cdv A outer s H E).nox (KG.top K) (defBody s_is_tuple) rd_is_tuple := by
    intro cdv A outer s H E hr
    unfold rd_is_tuple
    exact (dpss_one (dps_ret (dpe_and (dpe_callB dcall_isi (by rfl) T.z_isinstance boot_isinstance (dpa_cons (dpe_var 0) (dpa_cons (dpe_ty (by rfl) T.z_tuple boot_tuple) dpa_nil))) (dpe_one (dpe_cmp (dop_eq hr.units) (dpe_callB dcall_len (by rfl) T.z_len boot_len (dpa_cons (dpe_var 0) dpa_nil)) (dpe_var 1))))))
theorem ok_is_tuple (T : Txt K mg) : FnD P w K mg base 1 T.f_is_tuple T.fd_is_tuple ["thing", "many"] (a2 sp_is_tuple) := FnD.mk T.F_is_tuple sc_is_tuple a2_len (dv_is_tuple T) rd_is_tuple_ok
theorem dv_settle (T : Txt K mg) : ∀ (cdv : Value) (A : Around) (outer : List Env) (s : Shared) (H : Hp) (E : XK), Room 0 (A.deeper (envOfC "settle" (defScope s_settle) s.heap.objs.size T.f_settle cdv)) → DPSs (cxOf CX0 P w K mg base N_settle "settle" (defScope s_settle) T.f_settle cdv A outer s H E).nox (KG.top K) (defBody s_settle) rd_settle := by
    intro cdv A outer s H E hr
    unfold rd_settle
    exact (dpss_cons (dps_set 2 sc_settle.nd dpe_dnewK)
    (dpss_cons (dps_for (dpi_enum (by rfl) T.z_enumerate (dpe_var 1)) (dpg_tg (tg := .tp [3, 4]) (pg_tup rfl (pgs_cons (dpg_name 3 sc_settle.nd) (pgs_cons (dpg_name 4 sc_settle.nd) pgs_nil)))) (dpss_cons (dps_asg (dpe_var 4) (dpg_tg (tg := .tp [5, 6, 7]) (pg_tup rfl (pgs_cons (dpg_name 5 sc_settle.nd) (pgs_cons (dpg_name 6 sc_settle.nd) (pgs_cons (dpg_name 7 sc_settle.nd) pgs_nil))))))
    (dpss_one (dps_if (DPW.pt (dpw_and (dpt_cmp dop_isnot (dpe_ix dix (dpe_var 0) (dpe_var 5)) dpe_non) (dpw_and1 (DPW.pt (dpw_or (dpt_cmp dop_is (dpe_ix dix (dpe_var 0) (dpe_var 6)) dpe_non) (dpw_or1 (dpt_cmp dop_lt (dpe_op dop_add (dpe_ix dix (dpe_var 0) (dpe_var 5)) (dpe_var 7)) (dpe_ix dix (dpe_var 0) (dpe_var 6))))))))) (dpss_cons (dps_asg (dpe_op dop_add (dpe_ix dix (dpe_var 0) (dpe_var 5)) (dpe_var 7)) (dpg_sub (dpe_var 0) (dpe_var 6)))
    (dpss_one (dps_dput (hu_of hr) (dpe_var 2) (dpe_var 6) (dpe_var 3)))) dpss_nil))))
    (dpss_one (dps_ret (dpe_var 2)))))
theorem ok_settle (T : Txt K mg) : FnD P w K mg base 1 T.f_settle T.fd_settle ["sums", "edges"] (a2 sp_settle) := FnD.mk T.F_settle sc_settle a2_len (dv_settle T) rd_settle_ok
theorem dv_round_through (T : Txt K mg) : ∀ (cdv : Value) (A : Around) (outer : List Env) (s : Shared) (H : Hp) (E : XK), Room 0 (A.deeper (envOfC "round_through" (defScope s_round_through) s.heap.objs.size T.f_round_through cdv)) → DPSs (cxOf CX0 P w K mg base N_round_through "round_through" (defScope s_round_through) T.f_round_through cdv A outer s H E).nox (KG.top K) (defBody s_round_through) rd_round_through := by
    intro cdv A outer s H E hr
    unfold rd_round_through
    exact (dpss_cons (dps_set 3 sc_round_through.nd (dpe_lstM dpa_nil))
    (dpss_cons (dps_while (dpt_cmp dop_notin (dpe_var 2) (dpe_var 3)) (dpss_cons (dps_expr (dpe_lm PySem.F.slot_list_append PySem.F.type_list_append mt_append lr_append (dpe_var 3) (dpa_cons (dpe_var 2) dpa_nil)))
    (dpss_one (dps_set 2 sc_round_through.nd (dpe_ix dix (dpe_ix dix (dpe_var 0) (dpe_dget (hu_of hr) (dpe_var 1) (dpe_var 2))) dpe_int)))))
    (dpss_cons (dps_set 4 sc_round_through.nd (dpe_var 2))
    (dpss_cons (dps_set 5 sc_round_through.nd (dpe_lstM (dpa_cons (dpe_dget (hu_of hr) (dpe_var 1) (dpe_var 2)) dpa_nil)))
    (dpss_cons (dps_set 2 sc_round_through.nd (dpe_ix dix (dpe_ix dix (dpe_var 0) (dpe_dget (hu_of hr) (dpe_var 1) (dpe_var 2))) dpe_int))
    (dpss_cons (dps_while (dpt_cmp (dop_ne hr.units) (dpe_var 2) (dpe_var 4)) (dpss_cons (dps_expr (dpe_lm PySem.F.slot_list_append PySem.F.type_list_append mt_append lr_append (dpe_var 5) (dpa_cons (dpe_dget (hu_of hr) (dpe_var 1) (dpe_var 2)) dpa_nil)))
    (dpss_one (dps_set 2 sc_round_through.nd (dpe_ix dix (dpe_ix dix (dpe_var 0) (dpe_dget (hu_of hr) (dpe_var 1) (dpe_var 2))) dpe_int)))))
    (dpss_one (dps_ret (dpe_tupRev (by rfl) T.z_tuple (by rfl) T.z_reversed (dpe_var 5))))))))))
theorem ok_round_through (T : Txt K mg) : FnD P w K mg base 1 T.f_round_through T.fd_round_through ["edges", "ahead", "number"] (a3 sp_round_through) := FnD.mk T.F_round_through sc_round_through a3_len (dv_round_through T) rd_round_through_ok
theorem dv_falling_round (T : Txt K mg) : ∀ (cdv : Value) (A : Around) (outer : List Env) (s : Shared) (H : Hp) (E : XK), Room 1 (A.deeper (envOfC "falling_round" (defScope s_falling_round) s.heap.objs.size T.f_falling_round cdv)) → DPSs (cxOf CX0 P w K mg base N_falling_round "falling_round" (defScope s_falling_round) T.f_falling_round cdv A outer s H E).nox (KG.top K) (defBody s_falling_round) rd_falling_round := by
    intro cdv A outer s H E hr
    unfold rd_falling_round
    exact (dpss_cons (dps_setLcM (i := 2) (tg := (.nm 3)) (own := [("_", 3)]) sc_falling_round.nd rfl rfl (sw_true rfl rfl rfl (by decide +kernel)) (dpi_range1 (by rfl) T.z_range (dpe_var 0)) (blkOk_by (own := [("_", 3)]) (N := N_falling_round) (sc := defScope s_falling_round) (by decide +kernel)) (fun _ _ _ _ _ => dpg_name 3 sc_falling_round.nd) (fun _ _ _ _ _ => dpt_yes) (fun _ _ _ _ _ => dpe_int))
    (dpss_cons (dps_set 4 sc_falling_round.nd dpe_dnewK)
    (dpss_cons (dps_set 5 sc_falling_round.nd dpe_dnewK)
    (dpss_cons (dps_for (dpi_range1 (by rfl) T.z_range (dpe_op dop_add (dpe_var 0) dpe_int)) (dpg_tg (dpg_name 3 sc_falling_round.nd)) (dpss_cons (dps_set 5 sc_falling_round.nd (dpe_call (ok_settle T) (hr.mono (by decide)) (by rfl) T.m_settle T.F_settle.kp T.b_settle (dpa_cons (dpe_var 2) (dpa_cons (dpe_var 1) dpa_nil))))
    (dpss_frzD 5 (dpss_one (dps_for (dpi_keys (dpe_var 5)) (dpg_tg (dpg_name 6 sc_falling_round.nd)) (dpss_one (dps_dput (hu_of hr) (dpe_var 4) (dpe_var 6) (dpe_dget (hu_of hr) (dpe_var 5) (dpe_var 6)))))))))
    (dpss_cons (dps_for (dpi_keys (dpe_var 5)) (dpg_tg (dpg_name 6 sc_falling_round.nd)) (dpss_one (dps_ret (dpe_call (ok_round_through T) (hr.mono (by decide)) (by rfl) T.m_round_through T.F_round_through.kp T.b_round_through (dpa_cons (dpe_var 1) (dpa_cons (dpe_var 4) (dpa_cons (dpe_var 6) dpa_nil)))))))
    (dpss_one (dps_ret dpe_non)))))))
theorem ok_falling_round (T : Txt K mg) : FnD P w K mg base 2 T.f_falling_round T.fd_falling_round ["many", "edges"] (a2 sp_falling_round) := FnD.mk T.F_falling_round sc_falling_round a2_len (dv_falling_round T) rd_falling_round_ok
theorem dv_least_ways (T : Txt K mg) : ∀ (cdv : Value) (A : Around) (outer : List Env) (s : Shared) (H : Hp) (E : XK), Room 1 (A.deeper (envOfC "least_ways" (defScope s_least_ways) s.heap.objs.size T.f_least_ways cdv)) → DPSs (cxOf CX0 P w K mg base N_least_ways "least_ways" (defScope s_least_ways) T.f_least_ways cdv A outer s H E).nox (KG.top K) (defBody s_least_ways) rd_least_ways := by
    intro cdv A outer s H E hr
    unfold rd_least_ways
    exact (dpss_cons (dps_setLcM (i := 3) (tg := (.nm 4)) (own := [("_", 4)]) sc_least_ways.nd rfl rfl (sw_true rfl rfl rfl (by decide +kernel)) (dpi_range1 (by rfl) T.z_range (dpe_var 0)) (blkOk_by (own := [("_", 4)]) (N := N_least_ways) (sc := defScope s_least_ways) (by decide +kernel)) (fun _ _ _ _ _ => dpg_name 4 sc_least_ways.nd) (fun _ _ _ _ _ => dpt_yes) (fun _ _ _ _ _ => dpe_non))
    (dpss_cons (dps_asg dpe_int (dpg_sub (dpe_var 3) (dpe_var 2)))
    (dpss_cons (dps_set 5 sc_least_ways.nd dpe_bl)
    (dpss_cons (dps_while (dpt_truth (dpe_var 5)) (dpss_one (dps_set 5 sc_least_ways.nd (dpe_cmp dop_gt (dpe_callB dcall_len (by rfl) T.z_len boot_len (dpa_cons (dpe_call (ok_settle T) (hr.mono (by decide)) (by rfl) T.m_settle T.F_settle.kp T.b_settle (dpa_cons (dpe_var 3) (dpa_cons (dpe_var 1) dpa_nil))) dpa_nil)) dpe_int))))
    (dpss_one (dps_ret (dpe_callTy dcall_tuple (by rfl) T.z_tuple boot_tuple (dpa_cons (dpe_var 3) dpa_nil))))))))
theorem ok_least_ways (T : Txt K mg) : FnD P w K mg base 2 T.f_least_ways T.fd_least_ways ["many", "edges", "start"] (a3 sp_least_ways) := FnD.mk T.F_least_ways sc_least_ways a3_len (dv_least_ways T) rd_least_ways_ok
theorem dv_is_potentials (T : Txt K mg) : ∀ (cdv : Value) (A : Around) (outer : List Env) (s : Shared) (H : Hp) (E : XK), Room 1 (A.deeper (envOfC "is_potentials" (defScope s_is_potentials) s.heap.objs.size T.f_is_potentials cdv)) → DPSs (cxOf CX0 P w K mg base N_is_potentials "is_potentials" (defScope s_is_potentials) T.f_is_potentials cdv A outer s H E).nox (KG.top K) (defBody s_is_potentials) rd_is_potentials := by
    intro cdv A outer s H E hr
    unfold rd_is_potentials
    exact (dpss_cons (dps_if (DPW.pt (dpw_or (dpt_not (dpt_val (dpe_call (ok_is_tuple T) (hr.mono (by decide)) (by rfl) T.m_is_tuple T.F_is_tuple.kp T.b_is_tuple (dpa_cons (dpe_var 2) (dpa_cons (dpe_var 0) dpa_nil))))) (dpw_or1 (dpt_not (dpt_val (dpe_callB (dcall_all rfl) (by rfl) T.z_all boot_all (dpa_cons (dpe_lc (tg := (.nm 3)) (own := [("number", 3)]) sc_is_potentials.nd (dpi_tup (dpe_var 2)) (blkOk_by (own := [("number", 3)]) (N := N_is_potentials) (sc := defScope s_is_potentials) (by decide +kernel)) (fun _ _ _ _ _ => dpg_name 3 sc_is_potentials.nd) (fun _ _ _ _ _ => dpt_yes) (fun _ _ _ _ _ => (dpe_call (ok_is_integer T) (hr.mono (by decide)) (by rfl) T.m_is_integer T.F_is_integer.kp T.b_is_integer (dpa_cons (dpe_var 3) dpa_nil)))) dpa_nil))))))) (dpss_one (dps_ret dpe_bl)) dpss_nil)
    (dpss_one (dps_ret (dpe_callB (dcall_all rfl) (by rfl) T.z_all boot_all (dpa_cons (dpe_lc (tg := (.tp [4, 5, 6])) (own := [("one", 4), ("other", 5), ("weight", 6)]) sc_is_potentials.nd (dpi_tup (dpe_var 1)) (blkOk_by (own := [("one", 4), ("other", 5), ("weight", 6)]) (N := N_is_potentials) (sc := defScope s_is_potentials) (by decide +kernel)) (fun _ _ _ _ _ => (pg_tup rfl (pgs_cons (dpg_name 4 sc_is_potentials.nd) (pgs_cons (dpg_name 5 sc_is_potentials.nd) (pgs_cons (dpg_name 6 sc_is_potentials.nd) pgs_nil))))) (fun _ _ _ _ _ => dpt_yes) (fun _ _ _ _ _ => (dpe_cmp dop_ge (dpe_op dop_add (dpe_ix dix (dpe_var 2) (dpe_var 4)) (dpe_var 6)) (dpe_ix dix (dpe_var 2) (dpe_var 5))))) dpa_nil)))))
theorem ok_is_potentials (T : Txt K mg) : FnD P w K mg base 2 T.f_is_potentials T.fd_is_potentials ["many", "edges", "thing"] (a3 sp_is_potentials) := FnD.mk T.F_is_potentials sc_is_potentials a3_len (dv_is_potentials T) rd_is_potentials_ok
theorem dv_law_scale (T : Txt K mg) : ∀ (cdv : Value) (A : Around) (outer : List Env) (s : Shared) (H : Hp) (E : XK), Room 0 (A.deeper (envOfC "_law_scale" (defScope s_law_scale) s.heap.objs.size T.f_law_scale cdv)) → DPSs (cxOf CX0 P w K mg base N_law_scale "_law_scale" (defScope s_law_scale) T.f_law_scale cdv A outer s H E).nox (KG.top K) (defBody s_law_scale) rd_law_scale := by
    intro cdv A outer s H E hr
    unfold rd_law_scale
    exact (dpss_cons (dps_set 1 sc_law_scale.nd (dpe_lstM dpa_nil))
    (dpss_cons (dps_set 2 sc_law_scale.nd dpe_int)
    (dpss_cons (dps_for (dpi_seq (dpe_slice dsl (dpe_var 0) dpo_none (dpo_some dpe_int))) (dpg_tg (dpg_name 3 sc_law_scale.nd)) (dpss_cons (dps_set 4 sc_law_scale.nd (dpe_op dop_mod (dpe_callB dcall_abs (by rfl) T.z_abs boot_abs (dpa_cons (dpe_callTy dcall_int (by rfl) T.z_int boot_int (dpa_cons (dpe_var 3) dpa_nil)) dpa_nil)) (dpe_op dop_shl dpe_int dpe_int)))
    (dpss_cons (dps_set 2 sc_law_scale.nd (dpe_op dop_mod (dpe_callTy dcall_int (by rfl) T.z_int boot_int (dpa_cons (dpe_op dop_add (dpe_op dop_add (dpe_op dop_add (dpe_op dop_mul (dpe_var 2) dpe_int) (dpe_op dop_mul (dpe_op dop_mod (dpe_var 4) dpe_int) dpe_int)) (dpe_callTy dcall_int (by rfl) T.z_int boot_int (dpa_cons (dpe_cmp dop_lt (dpe_callTy dcall_int (by rfl) T.z_int boot_int (dpa_cons (dpe_var 3) dpa_nil)) dpe_int) dpa_nil))) dpe_int) dpa_nil)) dpe_int))
    (dpss_one (dps_if (dpt_cmp dop_ge (dpe_var 4) (dpe_op dop_pow dpe_int dpe_int)) (dpss_one (dps_set 1 sc_law_scale.nd (dpe_op dop_addM (dpe_lst (dpa_cons (dpe_var 4) dpa_nil)) (dpe_var 1)))) dpss_nil)))))
    (dpss_cons (dps_set 5 sc_law_scale.nd (dpe_lstM dpa_nil))
    (dpss_cons (dps_for (dpi_range1 (by rfl) T.z_range dpe_int) (dpg_tg (dpg_name 6 sc_law_scale.nd)) (dpss_cons (dps_set 2 sc_law_scale.nd (dpe_op dop_mod (dpe_callTy dcall_int (by rfl) T.z_int boot_int (dpa_cons (dpe_op dop_add (dpe_op dop_add (dpe_op dop_mul (dpe_var 2) dpe_int) (dpe_op dop_mul dpe_int (dpe_var 6))) dpe_int) dpa_nil)) dpe_int))
    (dpss_one (dps_expr (dpe_lm PySem.F.slot_list_append PySem.F.type_list_append mt_append lr_append (dpe_var 5) (dpa_cons (dpe_op dop_mod (dpe_callTy dcall_int (by rfl) T.z_int boot_int (dpa_cons (dpe_op dop_div (dpe_var 2) dpe_int) dpa_nil)) dpe_int) dpa_nil))))))
    (dpss_one (dps_ret (dpe_lstM (dpa_cons (dpe_var 1) (dpa_cons (dpe_var 2) (dpa_cons dpe_int (dpa_cons (dpe_var 5) dpa_nil))))))))))))
theorem ok_law_scale (T : Txt K mg) : FnD P w K mg base 1 T.f_law_scale T.fd_law_scale ["script"] (a1 sp_law_scale) := FnD.mk T.F_law_scale sc_law_scale a1_len (dv_law_scale T) rd_law_scale_ok
theorem dv_law_load (T : Txt K mg) : ∀ (cdv : Value) (A : Around) (outer : List Env) (s : Shared) (H : Hp) (E : XK), Room 0 (A.deeper (envOfC "_law_load" (defScope s_law_load) s.heap.objs.size T.f_law_load cdv)) → DPSs (cxOf CX0 P w K mg base N_law_load "_law_load" (defScope s_law_load) T.f_law_load cdv A outer s H E).nox (KG.top K) (defBody s_law_load) rd_law_load := by
    intro cdv A outer s H E hr
    unfold rd_law_load
    exact (dpss_cons (dps_asg (dpe_op dop_add (dpe_ix dix (dpe_var 0) dpe_int) dpe_int) (dpg_sub (dpe_var 0) dpe_int))
    (dpss_cons (dps_if (dpt_truth (dpe_ix dix (dpe_var 0) dpe_int)) (dpss_cons (dps_set 3 sc_law_load.nd (dpe_callTy dcall_int (by rfl) T.z_int boot_int (dpa_cons (dpe_lm0 PySem.F.slot_list_pop PySem.F.type_list_pop mt_pop lr_pop (dpe_ix dix (dpe_var 0) dpe_int)) dpa_nil)))
    (dpss_cons (dps_if (dpt_cmp dop_ge (dpe_var 3) (dpe_var 2)) (dpss_one (dps_expr (dpe_lm PySem.F.slot_list_append PySem.F.type_list_append mt_append lr_append (dpe_ix dix (dpe_var 0) dpe_int) (dpa_cons (dpe_op dop_div (dpe_var 3) (dpe_var 2)) dpa_nil)))) dpss_nil)
    (dpss_one (dps_ret (dpe_op dop_mod (dpe_var 3) (dpe_var 2)))))) dpss_nil)
    (dpss_cons (dps_asg (dpe_op dop_mod (dpe_callTy dcall_int (by rfl) T.z_int boot_int (dpa_cons (dpe_op dop_add (dpe_op dop_add (dpe_op dop_mul (dpe_ix dix (dpe_var 0) dpe_int) dpe_int) (dpe_op dop_mul (dpe_ix dix (dpe_var 0) dpe_int) dpe_int)) (dpe_var 1)) dpa_nil)) dpe_int) (dpg_sub (dpe_var 0) dpe_int))
    (dpss_cons (dps_set 4 sc_law_load.nd (dpe_ix dix (dpe_ix dix (dpe_var 0) dpe_int) (dpe_var 1)))
    (dpss_cons (dps_if (dpt_cmp dop_lt (dpe_var 4) dpe_int) (dpss_one (dps_ret dpe_int)) dpss_nil)
    (dpss_cons (dps_if (dpt_cmp dop_lt (dpe_var 4) dpe_int) (dpss_one (dps_ret (dpe_op dop_sub (dpe_var 2) dpe_int))) dpss_nil)
    (dpss_cons (dps_if (dpt_cmp dop_lt (dpe_var 4) dpe_int) (dpss_one (dps_ret (dpe_op dop_mod (dpe_callTy dcall_int (by rfl) T.z_int boot_int (dpa_cons (dpe_op dop_add (dpe_op dop_mul (dpe_var 4) dpe_int) dpe_int) dpa_nil)) (dpe_var 2)))) dpss_nil)
    (dpss_one (dps_ret (dpe_op dop_mod (dpe_callTy dcall_int (by rfl) T.z_int boot_int (dpa_cons (dpe_op dop_div (dpe_ix dix (dpe_var 0) dpe_int) dpe_int) dpa_nil)) (dpe_var 2)))))))))))
theorem ok_law_load (T : Txt K mg) : FnD P w K mg base 1 T.f_law_load T.fd_law_load ["scale", "place", "many"] (a3 sp_law_load) := FnD.mk T.F_law_load sc_law_load a3_len (dv_law_load T) rd_law_load_ok
theorem dv_law_weight (T : Txt K mg) : ∀ (cdv : Value) (A : Around) (outer : List Env) (s : Shared) (H : Hp) (E : XK), Room 1 (A.deeper (envOfC "_law_weight" (defScope s_law_weight) s.heap.objs.size T.f_law_weight cdv)) → DPSs (cxOf CX0 P w K mg base N_law_weight "_law_weight" (defScope s_law_weight) T.f_law_weight cdv A outer s H E).nox (KG.top K) (defBody s_law_weight) rd_law_weight := by
    intro cdv A outer s H E hr
    unfold rd_law_weight
    exact (dpss_cons (dps_set 2 sc_law_weight.nd (dpe_ix dix (dpe_tup (dpa_cons (dpe_op dop_sub (dpe_call (ok_law_load T) (hr.mono (by decide)) (by rfl) T.m_law_load T.F_law_load.kp T.b_law_load (dpa_cons (dpe_var 0) (dpa_cons dpe_int (dpa_cons dpe_int dpa_nil)))) dpe_int) (dpa_cons (dpe_op dop_sub (dpe_call (ok_law_load T) (hr.mono (by decide)) (by rfl) T.m_law_load T.F_law_load.kp T.b_law_load (dpa_cons (dpe_var 0) (dpa_cons dpe_int (dpa_cons dpe_int dpa_nil)))) dpe_int) (dpa_cons dpe_int dpa_nil)))) (dpe_call (ok_law_load T) (hr.mono (by decide)) (by rfl) T.m_law_load T.F_law_load.kp T.b_law_load (dpa_cons (dpe_var 0) (dpa_cons dpe_int (dpa_cons dpe_int dpa_nil))))))
    (dpss_one (dps_ret (dpe_ifExp (dpt_truth (dpe_var 1)) (dpe_op dop_add (dpe_op dop_mul (dpe_var 2) (dpe_op dop_pow dpe_int dpe_int)) (dpe_call (ok_law_load T) (hr.mono (by decide)) (by rfl) T.m_law_load T.F_law_load.kp T.b_law_load (dpa_cons (dpe_var 0) (dpa_cons dpe_int (dpa_cons dpe_int dpa_nil))))) (dpe_var 2)))))
theorem ok_law_weight (T : Txt K mg) : FnD P w K mg base 2 T.f_law_weight T.fd_law_weight ["scale", "great"] (a2 sp_law_weight) := FnD.mk T.F_law_weight sc_law_weight a2_len (dv_law_weight T) rd_law_weight_ok
theorem dv_law_edges (T : Txt K mg) : ∀ (cdv : Value) (A : Around) (outer : List Env) (s : Shared) (H : Hp) (E : XK), Room 2 (A.deeper (envOfC "_law_edges" (defScope s_law_edges) s.heap.objs.size T.f_law_edges cdv)) → DPSs (cxOf CX0 P w K mg base N_law_edges "_law_edges" (defScope s_law_edges) T.f_law_edges cdv A outer s H E).nox (KG.top K) (defBody s_law_edges) rd_law_edges := by
    intro cdv A outer s H E hr
    unfold rd_law_edges
    exact (dpss_cons (dps_setLc (i := 4) (tg := (.nm 5)) (own := [("k", 5)]) sc_law_edges.nd rfl rfl (sw_true rfl rfl rfl (by decide +kernel)) (dpi_range1 (by rfl) T.z_range (dpe_var 1)) (blkOk_by (own := [("k", 5)]) (N := N_law_edges) (sc := defScope s_law_edges) (by decide +kernel)) (fun _ _ _ _ _ => dpg_name 5 sc_law_edges.nd) (fun _ _ _ _ _ => dpt_yes) (fun _ _ _ _ _ => (dpe_call (ok_law_weight T) (hr.mono (by decide)) (by rfl) T.m_law_weight T.F_law_weight.kp T.b_law_weight (dpa_cons (dpe_var 0) (dpa_cons (dpe_var 3) dpa_nil)))))
    (dpss_cons (dps_set 6 sc_law_edges.nd (dpe_lstM dpa_nil))
    (dpss_cons (dps_for (dpi_range1 (by rfl) T.z_range (dpe_var 2)) (dpg_tg (dpg_name 7 sc_law_edges.nd)) (dpss_cons (dps_par (i := 8) (j := 9) sc_law_edges.nd rfl rfl (by decide) rfl rfl (dpa_cons (dpe_call (ok_law_load T) (hr.mono (by decide)) (by rfl) T.m_law_load T.F_law_load.kp T.b_law_load (dpa_cons (dpe_var 0) (dpa_cons dpe_int (dpa_cons (dpe_var 1) dpa_nil)))) (dpa_cons (dpe_call (ok_law_load T) (hr.mono (by decide)) (by rfl) T.m_law_load T.F_law_load.kp T.b_law_load (dpa_cons (dpe_var 0) (dpa_cons dpe_int (dpa_cons (dpe_var 1) dpa_nil)))) dpa_nil)))
    (dpss_cons (dps_set 10 sc_law_edges.nd (dpe_ix dix (dpe_tup (dpa_cons dpe_int (dpa_cons dpe_int (dpa_cons (dpe_call (ok_law_load T) (hr.mono (by decide)) (by rfl) T.m_law_load T.F_law_load.kp T.b_law_load (dpa_cons (dpe_var 0) (dpa_cons dpe_int (dpa_cons dpe_int dpa_nil)))) dpa_nil)))) (dpe_call (ok_law_load T) (hr.mono (by decide)) (by rfl) T.m_law_load T.F_law_load.kp T.b_law_load (dpa_cons (dpe_var 0) (dpa_cons dpe_int (dpa_cons dpe_int dpa_nil))))))
    (dpss_one (dps_expr (dpe_lm PySem.F.slot_list_append PySem.F.type_list_append mt_append lr_append (dpe_var 6) (dpa_cons (dpe_tup (dpa_cons (dpe_var 8) (dpa_cons (dpe_var 9) (dpa_cons (dpe_op dop_add (dpe_op dop_sub (dpe_ix dix (dpe_var 4) (dpe_var 9)) (dpe_ix dix (dpe_var 4) (dpe_var 8))) (dpe_var 10)) dpa_nil)))) dpa_nil)))))))
    (dpss_one (dps_ret (dpe_var 6))))))
theorem ok_law_edges (T : Txt K mg) : FnD P w K mg base 3 T.f_law_edges T.fd_law_edges ["scale", "many", "rows", "great"] (a4 sp_law_edges) := FnD.mk T.F_law_edges sc_law_edges a4_len (dv_law_edges T) rd_law_edges_ok
theorem dv_law_round (T : Txt K mg) : ∀ (cdv : Value) (A : Around) (outer : List Env) (s : Shared) (H : Hp) (E : XK), Room 2 (A.deeper (envOfC "_law_round" (defScope s_law_round) s.heap.objs.size T.f_law_round cdv)) → DPSs (cxOf CX0 P w K mg base N_law_round "_law_round" (defScope s_law_round) T.f_law_round cdv A outer s H E).nox (KG.top K) (defBody s_law_round) rd_law_round := by
    intro cdv A outer s H E hr
    unfold rd_law_round
    exact (dpss_cons (dps_set 4 sc_law_round.nd (dpe_lstRgM (by rfl) T.z_list (by rfl) T.z_range (dpe_var 1)))
    (dpss_cons (dps_set 5 sc_law_round.nd (dpe_lstM dpa_nil))
    (dpss_cons (dps_for (dpi_range1 (by rfl) T.z_range (dpe_op dop_add dpe_int (dpe_call (ok_law_load T) (hr.mono (by decide)) (by rfl) T.m_law_load T.F_law_load.kp T.b_law_load (dpa_cons (dpe_var 0) (dpa_cons dpe_int (dpa_cons (dpe_var 1) dpa_nil)))))) (dpg_tg (dpg_name 6 sc_law_round.nd)) (dpss_one (dps_expr (dpe_lm PySem.F.slot_list_append PySem.F.type_list_append mt_append lr_append (dpe_var 5) (dpa_cons (dpe_lm PySem.F.slot_list_pop PySem.F.type_list_pop mt_popAt lr_popAt (dpe_var 4) (dpa_cons (dpe_call (ok_law_load T) (hr.mono (by decide)) (by rfl) T.m_law_load T.F_law_load.kp T.b_law_load (dpa_cons (dpe_var 0) (dpa_cons dpe_int (dpa_cons (dpe_callB dcall_len (by rfl) T.z_len boot_len (dpa_cons (dpe_var 4) dpa_nil)) dpa_nil)))) dpa_nil)) dpa_nil)))))
    (dpss_cons (dps_set 7 sc_law_round.nd (dpe_lstM dpa_nil))
    (dpss_cons (dps_set 8 sc_law_round.nd (dpe_var 3))
    (dpss_cons (dps_for (dpi_range1 (by rfl) T.z_range (dpe_callB dcall_len (by rfl) T.z_len boot_len (dpa_cons (dpe_var 5) dpa_nil))) (dpg_tg (dpg_name 9 sc_law_round.nd)) (dpss_cons (dps_set 10 sc_law_round.nd (dpe_ifExp (dpt_cmp dop_lt (dpe_op dop_add (dpe_var 9) dpe_int) (dpe_callB dcall_len (by rfl) T.z_len boot_len (dpa_cons (dpe_var 5) dpa_nil))) (dpe_call (ok_law_weight T) (hr.mono (by decide)) (by rfl) T.m_law_weight T.F_law_weight.kp T.b_law_weight (dpa_cons (dpe_var 0) (dpa_cons (dpe_var 2) dpa_nil))) (dpe_var 8)))
    (dpss_cons (dps_set 8 sc_law_round.nd (dpe_op dop_sub (dpe_var 8) (dpe_var 10)))
    (dpss_one (dps_expr (dpe_lm PySem.F.slot_list_append PySem.F.type_list_append mt_append lr_append (dpe_var 7) (dpa_cons (dpe_tup (dpa_cons (dpe_ix dix (dpe_var 5) (dpe_var 9)) (dpa_cons (dpe_ix dix (dpe_var 5) (dpe_op dop_mod (dpe_callTy dcall_int (by rfl) T.z_int boot_int (dpa_cons (dpe_op dop_add (dpe_var 9) dpe_int) dpa_nil)) (dpe_callB dcall_len (by rfl) T.z_len boot_len (dpa_cons (dpe_var 5) dpa_nil)))) (dpa_cons (dpe_var 10) dpa_nil)))) dpa_nil)))))))
    (dpss_one (dps_ret (dpe_var 7)))))))))
theorem ok_law_round (T : Txt K mg) : FnD P w K mg base 3 T.f_law_round T.fd_law_round ["scale", "many", "great", "total"] (a4 sp_law_round) := FnD.mk T.F_law_round sc_law_round a4_len (dv_law_round T) rd_law_round_ok
theorem dv_law_settled (T : Txt K mg) : ∀ (cdv : Value) (A : Around) (outer : List Env) (s : Shared) (H : Hp) (E : XK), Room 0 (A.deeper (envOfC "_law_settled" (defScope s_law_settled) s.heap.objs.size T.f_law_settled cdv)) → DPSs (cxOf CX0 P w K mg base N_law_settled "_law_settled" (defScope s_law_settled) T.f_law_settled cdv A outer s H E).nox (KG.top K) (defBody s_law_settled) rd_law_settled := by
    intro cdv A outer s H E hr
    unfold rd_law_settled
    exact (dpss_cons (dps_set 3 sc_law_settled.nd (dpe_callTy dcall_listM (by rfl) T.z_list boot_list (dpa_cons (dpe_var 2) dpa_nil)))
    (dpss_cons (dps_for (dpi_range1 (by rfl) T.z_range (dpe_op dop_add (dpe_var 0) dpe_int)) (dpg_tg (dpg_name 4 sc_law_settled.nd)) (dpss_cons (dps_set 5 sc_law_settled.nd dpe_bl)
    (dpss_cons (dps_for (dpi_tup (dpe_var 1)) (dpg_tg (tg := .tp [6, 7, 8]) (pg_tup rfl (pgs_cons (dpg_name 6 sc_law_settled.nd) (pgs_cons (dpg_name 7 sc_law_settled.nd) (pgs_cons (dpg_name 8 sc_law_settled.nd) pgs_nil))))) (dpss_one (dps_if (DPW.pt (dpw_and (dpt_cmp dop_isnot (dpe_ix dix (dpe_var 3) (dpe_var 6)) dpe_non) (dpw_and1 (DPW.pt (dpw_or (dpt_cmp dop_is (dpe_ix dix (dpe_var 3) (dpe_var 7)) dpe_non) (dpw_or1 (dpt_cmp dop_lt (dpe_op dop_add (dpe_ix dix (dpe_var 3) (dpe_var 6)) (dpe_var 8)) (dpe_ix dix (dpe_var 3) (dpe_var 7))))))))) (dpss_cons (dps_asg (dpe_op dop_add (dpe_ix dix (dpe_var 3) (dpe_var 6)) (dpe_var 8)) (dpg_sub (dpe_var 3) (dpe_var 7)))
    (dpss_one (dps_set 5 sc_law_settled.nd dpe_bl))) dpss_nil)))
    (dpss_one (dps_if (dpt_not (dpt_truth (dpe_var 5))) (dpss_one (dps_ret (dpe_callTy dcall_tuple (by rfl) T.z_tuple boot_tuple (dpa_cons (dpe_var 3) dpa_nil)))) dpss_nil)))))
    (dpss_one (dps_ret dpe_non))))
theorem ok_law_settled (T : Txt K mg) : FnD P w K mg base 1 T.f_law_settled T.fd_law_settled ["many", "edges", "begins"] (a3 sp_law_settled) := FnD.mk T.F_law_settled sc_law_settled a3_len (dv_law_settled T) rd_law_settled_ok
theorem dv_law_is_falling (T : Txt K mg) : ∀ (cdv : Value) (A : Around) (outer : List Env) (s : Shared) (H : Hp) (E : XK), Room 0 (A.deeper (envOfC "_law_is_falling" (defScope s_law_is_falling) s.heap.objs.size T.f_law_is_falling cdv)) → DPSs (cxOf CX0 P w K mg base N_law_is_falling "_law_is_falling" (defScope s_law_is_falling) T.f_law_is_falling cdv A outer s H E).nox (KG.top K) (defBody s_law_is_falling) rd_law_is_falling := by
    intro cdv A outer s H E hr
    unfold rd_law_is_falling
    exact (dpss_cons (dps_if (DPW.pt (dpw_or (dpt_not (dpt_val (dpe_callB dcall_isi (by rfl) T.z_isinstance boot_isinstance (dpa_cons (dpe_var 1) (dpa_cons (dpe_ty (by rfl) T.z_tuple boot_tuple) dpa_nil))))) (dpw_or (dpt_cmp (dop_eq hr.units) (dpe_callB dcall_len (by rfl) T.z_len boot_len (dpa_cons (dpe_var 1) dpa_nil)) dpe_int) (dpw_or1 (dpt_cmp dop_gt (dpe_callB dcall_len (by rfl) T.z_len boot_len (dpa_cons (dpe_var 1) dpa_nil)) (dpe_callB dcall_len (by rfl) T.z_len boot_len (dpa_cons (dpe_var 0) dpa_nil))))))) (dpss_one (dps_ret dpe_bl)) dpss_nil)
    (dpss_cons (dps_if (dpt_cmp dop_gt (dpe_callB dcall_len (by rfl) T.z_len boot_len (dpa_cons (dpe_lc (tg := (.nm 2)) (own := [("at", 2)]) sc_law_is_falling.nd (dpi_tup (dpe_var 1)) (blkOk_by (own := [("at", 2)]) (N := N_law_is_falling) (sc := defScope s_law_is_falling) (by decide +kernel)) (fun _ _ _ _ _ => dpg_name 2 sc_law_is_falling.nd) (fun _ _ _ _ _ => dpts_one (DPW.pt (dpw_or (dpt_not (dpt_val (dpe_callB dcall_isi (by rfl) T.z_isinstance boot_isinstance (dpa_cons (dpe_var 2) (dpa_cons (dpe_ty (by rfl) T.z_int boot_int) dpa_nil))))) (dpw_or (dpt_val (dpe_callB dcall_isi (by rfl) T.z_isinstance boot_isinstance (dpa_cons (dpe_var 2) (dpa_cons (dpe_ty (by rfl) T.z_bool boot_bool) dpa_nil)))) (dpw_or1 (dpt_not (dpt_chain dop_le dop_lt dpe_int (dpe_var 2) (dpe_callB dcall_len (by rfl) T.z_len boot_len (dpa_cons (dpe_var 0) dpa_nil))))))))) (fun _ _ _ _ _ => (dpe_var 2))) dpa_nil)) dpe_int) (dpss_one (dps_ret dpe_bl)) dpss_nil)
    (dpss_cons (dps_if (dpt_cmp dop_lt (dpe_lenSet (by rfl) T.z_len (by rfl) T.z_set (dpe_var 1)) (dpe_callB dcall_len (by rfl) T.z_len boot_len (dpa_cons (dpe_var 1) dpa_nil))) (dpss_one (dps_ret dpe_bl)) dpss_nil)
    (dpss_cons (dps_for (dpi_range1 (by rfl) T.z_range (dpe_callB dcall_len (by rfl) T.z_len boot_len (dpa_cons (dpe_var 1) dpa_nil))) (dpg_tg (dpg_name 3 sc_law_is_falling.nd)) (dpss_one (dps_if (dpt_cmp (dop_ne hr.units) (dpe_ix dix (dpe_ix dix (dpe_var 0) (dpe_ix dix (dpe_var 1) (dpe_op dop_sub (dpe_var 3) dpe_int))) dpe_int) (dpe_ix dix (dpe_ix dix (dpe_var 0) (dpe_ix dix (dpe_var 1) (dpe_var 3))) dpe_int)) (dpss_one (dps_ret dpe_bl)) dpss_nil)))
    (dpss_one (dps_ret (dpe_cmp dop_lt (dpe_callB (dcall_sum rfl) (by rfl) T.z_sum boot_sum (dpa_cons (dpe_lc (tg := (.nm 2)) (own := [("at", 2)]) sc_law_is_falling.nd (dpi_tup (dpe_var 1)) (blkOk_by (own := [("at", 2)]) (N := N_law_is_falling) (sc := defScope s_law_is_falling) (by decide +kernel)) (fun _ _ _ _ _ => dpg_name 2 sc_law_is_falling.nd) (fun _ _ _ _ _ => dpt_yes) (fun _ _ _ _ _ => (dpe_ix dix (dpe_ix dix (dpe_var 0) (dpe_var 2)) dpe_int))) dpa_nil)) dpe_int)))))))
theorem ok_law_is_falling (T : Txt K mg) : FnD P w K mg base 1 T.f_law_is_falling T.fd_law_is_falling ["edges", "thing"] (a2 sp_law_is_falling) := FnD.mk T.F_law_is_falling sc_law_is_falling a2_len (dv_law_is_falling T) rd_law_is_falling_ok
theorem dv_law_are_potentials (T : Txt K mg) : ∀ (cdv : Value) (A : Around) (outer : List Env) (s : Shared) (H : Hp) (E : XK), Room 0 (A.deeper (envOfC "_law_are_potentials" (defScope s_law_are_potentials) s.heap.objs.size T.f_law_are_potentials cdv)) → DPSs (cxOf CX0 P w K mg base N_law_are_potentials "_law_are_potentials" (defScope s_law_are_potentials) T.f_law_are_potentials cdv A outer s H E).nox (KG.top K) (defBody s_law_are_potentials) rd_law_are_potentials := by
    intro cdv A outer s H E hr
    unfold rd_law_are_potentials
    exact (dpss_cons (dps_if (DPW.pt (dpw_or (dpt_not (dpt_val (dpe_callB dcall_isi (by rfl) T.z_isinstance boot_isinstance (dpa_cons (dpe_var 2) (dpa_cons (dpe_ty (by rfl) T.z_tuple boot_tuple) dpa_nil))))) (dpw_or1 (dpt_cmp (dop_ne hr.units) (dpe_callB dcall_len (by rfl) T.z_len boot_len (dpa_cons (dpe_var 2) dpa_nil)) (dpe_var 0))))) (dpss_one (dps_ret dpe_bl)) dpss_nil)
    (dpss_cons (dps_if (dpt_cmp dop_gt (dpe_callB dcall_len (by rfl) T.z_len boot_len (dpa_cons (dpe_lc (tg := (.nm 3)) (own := [("one", 3)]) sc_law_are_potentials.nd (dpi_tup (dpe_var 2)) (blkOk_by (own := [("one", 3)]) (N := N_law_are_potentials) (sc := defScope s_law_are_potentials) (by decide +kernel)) (fun _ _ _ _ _ => dpg_name 3 sc_law_are_potentials.nd) (fun _ _ _ _ _ => dpts_one (DPW.pt (dpw_or (dpt_not (dpt_val (dpe_callB dcall_isi (by rfl) T.z_isinstance boot_isinstance (dpa_cons (dpe_var 3) (dpa_cons (dpe_ty (by rfl) T.z_int boot_int) dpa_nil))))) (dpw_or1 (dpt_val (dpe_callB dcall_isi (by rfl) T.z_isinstance boot_isinstance (dpa_cons (dpe_var 3) (dpa_cons (dpe_ty (by rfl) T.z_bool boot_bool) dpa_nil)))))))) (fun _ _ _ _ _ => (dpe_var 3))) dpa_nil)) dpe_int) (dpss_one (dps_ret dpe_bl)) dpss_nil)
    (dpss_one (dps_ret (dpe_cmp (dop_eq hr.units) (dpe_callB dcall_len (by rfl) T.z_len boot_len (dpa_cons (dpe_lc (tg := (.tp [3, 4, 5])) (own := [("one", 3), ("other", 4), ("weight", 5)]) sc_law_are_potentials.nd (dpi_tup (dpe_var 1)) (blkOk_by (own := [("one", 3), ("other", 4), ("weight", 5)]) (N := N_law_are_potentials) (sc := defScope s_law_are_potentials) (by decide +kernel)) (fun _ _ _ _ _ => (pg_tup rfl (pgs_cons (dpg_name 3 sc_law_are_potentials.nd) (pgs_cons (dpg_name 4 sc_law_are_potentials.nd) (pgs_cons (dpg_name 5 sc_law_are_potentials.nd) pgs_nil))))) (fun _ _ _ _ _ => dpts_one (dpt_cmp dop_lt (dpe_op dop_add (dpe_var 5) (dpe_ix dix (dpe_var 2) (dpe_var 3))) (dpe_ix dix (dpe_var 2) (dpe_var 4)))) (fun _ _ _ _ _ => dpe_int)) dpa_nil)) dpe_int)))))
theorem ok_law_are_potentials (T : Txt K mg) : FnD P w K mg base 1 T.f_law_are_potentials T.fd_law_are_potentials ["many", "edges", "thing"] (a3 sp_law_are_potentials) := FnD.mk T.F_law_are_potentials sc_law_are_potentials a3_len (dv_law_are_potentials T) rd_law_are_potentials_ok
theorem dv_law_same (T : Txt K mg) : ∀ (cdv : Value) (A : Around) (outer : List Env) (s : Shared) (H : Hp) (E : XK), Room 0 (A.deeper (envOfC "_law_same" (defScope s_law_same) s.heap.objs.size T.f_law_same cdv)) → DPSs (cxOf CX0 P w K mg base N_law_same "_law_same" (defScope s_law_same) T.f_law_same cdv A outer s H E).nox (KG.top K) (defBody s_law_same) rd_law_same := by
    intro cdv A outer s H E hr
    unfold rd_law_same
    exact (dpss_cons (dps_if (DPW.pt (dpw_or (dpt_not (dpt_val (dpe_callB dcall_isi (by rfl) T.z_isinstance boot_isinstance (dpa_cons (dpe_var 0) (dpa_cons (dpe_ty (by rfl) T.z_tuple boot_tuple) dpa_nil))))) (dpw_or1 (dpt_cmp (dop_ne hr.units) (dpe_callB dcall_len (by rfl) T.z_len boot_len (dpa_cons (dpe_var 0) dpa_nil)) (dpe_callB dcall_len (by rfl) T.z_len boot_len (dpa_cons (dpe_var 1) dpa_nil)))))) (dpss_one (dps_ret dpe_bl)) dpss_nil)
    (dpss_cons (dps_for (dpi_range1 (by rfl) T.z_range (dpe_callB dcall_len (by rfl) T.z_len boot_len (dpa_cons (dpe_var 1) dpa_nil))) (dpg_tg (dpg_name 2 sc_law_same.nd)) (dpss_one (dps_if (dpt_cmp dop_is (dpe_ix dix (dpe_var 1) (dpe_var 2)) dpe_non) (dpss_one (dps_if (dpt_cmp dop_isnot (dpe_ix dix (dpe_var 0) (dpe_var 2)) dpe_non) (dpss_one (dps_ret dpe_bl)) dpss_nil)) (dpss_one (dps_if (DPW.pt (dpw_or (dpt_not (dpt_val (dpe_callB dcall_isi (by rfl) T.z_isinstance boot_isinstance (dpa_cons (dpe_ix dix (dpe_var 0) (dpe_var 2)) (dpa_cons (dpe_ty (by rfl) T.z_int boot_int) dpa_nil))))) (dpw_or (dpt_val (dpe_callB dcall_isi (by rfl) T.z_isinstance boot_isinstance (dpa_cons (dpe_ix dix (dpe_var 0) (dpe_var 2)) (dpa_cons (dpe_ty (by rfl) T.z_bool boot_bool) dpa_nil)))) (dpw_or1 (dpt_cmp (dop_ne hr.units) (dpe_ix dix (dpe_var 0) (dpe_var 2)) (dpe_ix dix (dpe_var 1) (dpe_var 2))))))) (dpss_one (dps_ret dpe_bl)) dpss_nil)))))
    (dpss_one (dps_ret dpe_bl))))
theorem ok_law_same (T : Txt K mg) : FnD P w K mg base 1 T.f_law_same T.fd_law_same ["told", "due"] (a2 sp_law_same) := FnD.mk T.F_law_same sc_law_same a2_len (dv_law_same T) rd_law_same_ok
theorem dv_law_bool (T : Txt K mg) : ∀ (cdv : Value) (A : Around) (outer : List Env) (s : Shared) (H : Hp) (E : XK), Room 0 (A.deeper (envOfC "_law_bool" (defScope s_law_bool) s.heap.objs.size T.f_law_bool cdv)) → DPSs (cxOf CX0 P w K mg base N_law_bool "_law_bool" (defScope s_law_bool) T.f_law_bool cdv A outer s H E).nox (KG.top K) (defBody s_law_bool) rd_law_bool := by
    intro cdv A outer s H E hr
    unfold rd_law_bool
    exact (dpss_one (dps_ret (dpe_and (dpe_callB dcall_isi (by rfl) T.z_isinstance boot_isinstance (dpa_cons (dpe_var 0) (dpa_cons (dpe_ty (by rfl) T.z_bool boot_bool) dpa_nil))) (dpe_one (dpe_cmp (dop_eq hr.units) (dpe_var 0) (dpe_var 1))))))
theorem ok_law_bool (T : Txt K mg) : FnD P w K mg base 1 T.f_law_bool T.fd_law_bool ["told", "due"] (a2 sp_law_bool) := FnD.mk T.F_law_bool sc_law_bool a2_len (dv_law_bool T) rd_law_bool_ok
theorem dv_law_asked (T : Txt K mg) : ∀ (cdv : Value) (A : Around) (outer : List Env) (s : Shared) (H : Hp) (E : XK), Room 2 (A.deeper (envOfC "_law_asked" (defScope s_law_asked) s.heap.objs.size T.f_law_asked cdv)) → DPSs (cxOf CX0 P w K mg base N_law_asked "_law_asked" (defScope s_law_asked) T.f_law_asked cdv A outer s H E).nox (KG.top K) (defBody s_law_asked) rd_law_asked := by
    intro cdv A outer s H E hr
    unfold rd_law_asked
    exact (dpss_cons (dps_set 4 sc_law_asked.nd (dpe_call (ok_law_settled T) (hr.mono (by decide)) (by rfl) T.m_law_settled T.F_law_settled.kp T.b_law_settled (dpa_cons (dpe_var 1) (dpa_cons (dpe_var 2) (dpa_cons (dpe_op dop_mul (dpe_lst (dpa_cons dpe_int dpa_nil)) (dpe_var 1)) dpa_nil)))))
    (dpss_cons (dps_asg (dpe_op dop_add (dpe_ix dix (dpe_var 3) (dpe_callTy dcall_int (by rfl) T.z_int boot_int (dpa_cons (dpe_cmp dop_is (dpe_var 4) dpe_non) dpa_nil))) dpe_int) (dpg_sub (dpe_var 3) (dpe_callTy dcall_int (by rfl) T.z_int boot_int (dpa_cons (dpe_cmp dop_is (dpe_var 4) dpe_non) dpa_nil))))
    (dpss_cons (dps_set 5 sc_law_asked.nd (dpe_call (ok_falling_round T) (hr.mono (by decide)) (by rfl) T.m_falling_round T.F_falling_round.kp T.b_falling_round (dpa_cons (dpe_var 1) (dpa_cons (dpe_var 2) dpa_nil))))
    (dpss_cons (dps_if (dpt_cmp dop_is (dpe_var 4) dpe_non) (dpss_cons (dps_if (dpt_not (dpt_val (dpe_call (ok_law_is_falling T) (hr.mono (by decide)) (by rfl) T.m_law_is_falling T.F_law_is_falling.kp T.b_law_is_falling (dpa_cons (dpe_var 2) (dpa_cons (dpe_var 5) dpa_nil))))) (dpss_one (dps_ret dpe_bl)) dpss_nil)
    (dpss_cons (dps_set 6 sc_law_asked.nd (dpe_callTy dcall_tuple (by rfl) T.z_tuple boot_tuple (dpa_cons (dpe_lc (tg := (.nm 7)) (own := [("k", 7)]) sc_law_asked.nd (dpi_range1 (by rfl) T.z_range (dpe_var 1)) (blkOk_by (own := [("k", 7)]) (N := N_law_asked) (sc := defScope s_law_asked) (by decide +kernel)) (fun _ _ _ _ _ => dpg_name 7 sc_law_asked.nd) (fun _ _ _ _ _ => dpt_yes) (fun _ _ _ _ _ => (dpe_op dop_sub (dpe_call (ok_law_load T) (hr.mono (by decide)) (by rfl) T.m_law_load T.F_law_load.kp T.b_law_load (dpa_cons (dpe_var 0) (dpa_cons dpe_int (dpa_cons dpe_int dpa_nil)))) dpe_int))) dpa_nil)))
    (dpss_one (dps_ret (dpe_and (dpe_call (ok_law_bool T) (hr.mono (by decide)) (by rfl) T.m_law_bool T.F_law_bool.kp T.b_law_bool (dpa_cons (dpe_call (ok_is_potentials T) (hr.mono (by decide)) (by rfl) T.m_is_potentials T.F_is_potentials.kp T.b_is_potentials (dpa_cons (dpe_var 1) (dpa_cons (dpe_var 2) (dpa_cons (dpe_var 6) dpa_nil)))) (dpa_cons dpe_bl dpa_nil))) (dpe_one (dpe_call (ok_law_bool T) (hr.mono (by decide)) (by rfl) T.m_law_bool T.F_law_bool.kp T.b_law_bool (dpa_cons (dpe_call (ok_is_potentials T) (hr.mono (by decide)) (by rfl) T.m_is_potentials T.F_is_potentials.kp T.b_is_potentials (dpa_cons (dpe_var 1) (dpa_cons (dpe_var 2) (dpa_cons (dpe_op dop_mul (dpe_tup (dpa_cons dpe_int dpa_nil)) (dpe_var 1)) dpa_nil)))) (dpa_cons dpe_bl dpa_nil))))))))) dpss_nil)
    (dpss_cons (dps_if (DPW.pt (dpw_or (dpt_cmp dop_isnot (dpe_var 5) dpe_non) (dpw_or1 (dpt_not (dpt_val (dpe_call (ok_law_bool T) (hr.mono (by decide)) (by rfl) T.m_law_bool T.F_law_bool.kp T.b_law_bool (dpa_cons (dpe_call (ok_is_potentials T) (hr.mono (by decide)) (by rfl) T.m_is_potentials T.F_is_potentials.kp T.b_is_potentials (dpa_cons (dpe_var 1) (dpa_cons (dpe_var 2) (dpa_cons (dpe_var 4) dpa_nil)))) (dpa_cons dpe_bl dpa_nil)))))))) (dpss_one (dps_ret dpe_bl)) dpss_nil)
    (dpss_cons (dps_set 8 sc_law_asked.nd (dpe_lst (dpa_cons dpe_int (dpa_cons (dpe_op dop_sub (dpe_var 1) dpe_int) (dpa_cons (dpe_call (ok_law_load T) (hr.mono (by decide)) (by rfl) T.m_law_load T.F_law_load.kp T.b_law_load (dpa_cons (dpe_var 0) (dpa_cons dpe_int (dpa_cons (dpe_var 1) dpa_nil)))) dpa_nil)))))
    (dpss_cons (dps_for (dpi_seq (dpe_var 8)) (dpg_tg (dpg_name 9 sc_law_asked.nd)) (dpss_cons (dps_set 10 sc_law_asked.nd (dpe_op dop_mulM (dpe_lst (dpa_cons dpe_non dpa_nil)) (dpe_var 1)))
    (dpss_cons (dps_asg dpe_int (dpg_sub (dpe_var 10) (dpe_var 9)))
    (dpss_one (dps_if (dpt_not (dpt_val (dpe_call (ok_law_same T) (hr.mono (by decide)) (by rfl) T.m_law_same T.F_law_same.kp T.b_law_same (dpa_cons (dpe_call (ok_least_ways T) (hr.mono (by decide)) (by rfl) T.m_least_ways T.F_least_ways.kp T.b_least_ways (dpa_cons (dpe_var 1) (dpa_cons (dpe_var 2) (dpa_cons (dpe_var 9) dpa_nil)))) (dpa_cons (dpe_call (ok_law_settled T) (hr.mono (by decide)) (by rfl) T.m_law_settled T.F_law_settled.kp T.b_law_settled (dpa_cons (dpe_var 1) (dpa_cons (dpe_var 2) (dpa_cons (dpe_var 10) dpa_nil)))) dpa_nil))))) (dpss_one (dps_ret dpe_bl)) dpss_nil)))))
    (dpss_cons (dps_set 11 sc_law_asked.nd (dpe_call (ok_law_load T) (hr.mono (by decide)) (by rfl) T.m_law_load T.F_law_load.kp T.b_law_load (dpa_cons (dpe_var 0) (dpa_cons dpe_int (dpa_cons (dpe_var 1) dpa_nil)))))
    (dpss_cons (dps_set 12 sc_law_asked.nd (dpe_lstM (dpa_cons (dpe_callTy dcall_tuple (by rfl) T.z_tuple boot_tuple (dpa_cons (dpe_lc (tg := (.nm 13)) (own := [("one", 13)]) sc_law_asked.nd (dpi_tup (dpe_var 4)) (blkOk_by (own := [("one", 13)]) (N := N_law_asked) (sc := defScope s_law_asked) (by decide +kernel)) (fun _ _ _ _ _ => dpg_name 13 sc_law_asked.nd) (fun _ _ _ _ _ => dpt_yes) (fun _ _ _ _ _ => (dpe_op dop_add (dpe_var 13) (dpe_op dop_pow dpe_int dpe_int)))) dpa_nil)) (dpa_cons (dpe_callTy dcall_tuple (by rfl) T.z_tuple boot_tuple (dpa_cons (dpe_lc (tg := (.nm 13)) (own := [("one", 13)]) sc_law_asked.nd (dpi_tup (dpe_var 4)) (blkOk_by (own := [("one", 13)]) (N := N_law_asked) (sc := defScope s_law_asked) (by decide +kernel)) (fun _ _ _ _ _ => dpg_name 13 sc_law_asked.nd) (fun _ _ _ _ _ => dpt_yes) (fun _ _ _ _ _ => (dpe_op dop_sub dpe_int (dpe_var 13)))) dpa_nil)) (dpa_cons (dpe_op dop_mul (dpe_tup (dpa_cons dpe_int dpa_nil)) (dpe_var 1)) (dpa_cons (dpe_callTy dcall_list (by rfl) T.z_list boot_list (dpa_cons (dpe_var 4) dpa_nil)) (dpa_cons (dpe_slice dsl (dpe_var 4) dpo_none (dpo_some (dpe_un dun_neg dpe_int))) (dpa_cons (dpe_op dop_add (dpe_var 4) (dpe_tup (dpa_cons dpe_int dpa_nil))) (dpa_cons dpe_non (dpa_cons dpe_int (dpa_cons dpe_str (dpa_cons (dpe_callTy dcall_tuple (by rfl) T.z_tuple boot_tuple (dpa_cons (dpe_lc (tg := (.nm 13)) (own := [("one", 13)]) sc_law_asked.nd (dpi_tup (dpe_var 4)) (blkOk_by (own := [("one", 13)]) (N := N_law_asked) (sc := defScope s_law_asked) (by decide +kernel)) (fun _ _ _ _ _ => dpg_name 13 sc_law_asked.nd) (fun _ _ _ _ _ => dpt_yes) (fun _ _ _ _ _ => (dpe_cmp (dop_eq hr.units) (dpe_var 13) dpe_int))) dpa_nil)) (dpa_cons (dpe_tup (dpa_cons (dpe_var 4) dpa_nil)) dpa_nil)))))))))))))
    (dpss_cons (dps_for (dpi_tup (dpe_tup (dpa_cons (dpe_op dop_add (dpe_ix dix (dpe_var 4) (dpe_var 11)) dpe_int) (dpa_cons (dpe_op dop_sub (dpe_ix dix (dpe_var 4) (dpe_var 11)) dpe_int) (dpa_cons (dpe_op dop_sub (dpe_ix dix (dpe_var 4) (dpe_var 11)) (dpe_op dop_pow dpe_int dpe_int)) (dpa_cons dpe_non (dpa_cons (dpe_callTy dcall_str (by rfl) T.z_str boot_str (dpa_cons (dpe_ix dix (dpe_var 4) (dpe_var 11)) dpa_nil)) (dpa_cons (dpe_tup (dpa_cons (dpe_ix dix (dpe_var 4) (dpe_var 11)) dpa_nil)) (dpa_cons dpe_bl (dpa_cons dpe_bl dpa_nil)))))))))) (dpg_tg (dpg_name 14 sc_law_asked.nd)) (dpss_one (dps_expr (dpe_lm PySem.F.slot_list_append PySem.F.type_list_append mt_append lr_append (dpe_var 12) (dpa_cons (dpe_op dop_add (dpe_op dop_add (dpe_slice dsl (dpe_var 4) dpo_none (dpo_some (dpe_var 11))) (dpe_tup (dpa_cons (dpe_var 14) dpa_nil))) (dpe_slice dsl (dpe_var 4) (dpo_some (dpe_op dop_add (dpe_var 11) dpe_int)) dpo_none)) dpa_nil)))))
    (dpss_cons (dps_for (dpi_seq (dpe_var 12)) (dpg_tg (dpg_name 15 sc_law_asked.nd)) (dpss_one (dps_if (dpt_not (dpt_val (dpe_call (ok_law_bool T) (hr.mono (by decide)) (by rfl) T.m_law_bool T.F_law_bool.kp T.b_law_bool (dpa_cons (dpe_call (ok_is_potentials T) (hr.mono (by decide)) (by rfl) T.m_is_potentials T.F_is_potentials.kp T.b_is_potentials (dpa_cons (dpe_var 1) (dpa_cons (dpe_var 2) (dpa_cons (dpe_var 15) dpa_nil)))) (dpa_cons (dpe_call (ok_law_are_potentials T) (hr.mono (by decide)) (by rfl) T.m_law_are_potentials T.F_law_are_potentials.kp T.b_law_are_potentials (dpa_cons (dpe_var 1) (dpa_cons (dpe_var 2) (dpa_cons (dpe_var 15) dpa_nil)))) dpa_nil))))) (dpss_one (dps_ret dpe_bl)) dpss_nil)))
    (dpss_cons (dps_par (i := 13) (j := 16) sc_law_asked.nd rfl rfl (by decide) rfl rfl (dpa_cons (dpe_call (ok_law_load T) (hr.mono (by decide)) (by rfl) T.m_law_load T.F_law_load.kp T.b_law_load (dpa_cons (dpe_var 0) (dpa_cons dpe_int (dpa_cons (dpe_var 1) dpa_nil)))) (dpa_cons (dpe_call (ok_law_load T) (hr.mono (by decide)) (by rfl) T.m_law_load T.F_law_load.kp T.b_law_load (dpa_cons (dpe_var 0) (dpa_cons dpe_int (dpa_cons (dpe_var 1) dpa_nil)))) dpa_nil)))
    (dpss_cons (dps_set 10 sc_law_asked.nd (dpe_op dop_mulM (dpe_lst (dpa_cons dpe_non dpa_nil)) (dpe_var 1)))
    (dpss_cons (dps_asg dpe_int (dpg_sub (dpe_var 10) (dpe_var 13)))
    (dpss_cons (dps_set 17 sc_law_asked.nd (dpe_ix dix (dpe_call (ok_law_settled T) (hr.mono (by decide)) (by rfl) T.m_law_settled T.F_law_settled.kp T.b_law_settled (dpa_cons (dpe_var 1) (dpa_cons (dpe_var 2) (dpa_cons (dpe_var 10) dpa_nil)))) (dpe_var 16)))
    (dpss_cons (dps_if (dpt_cmp dop_is (dpe_var 17) dpe_non) (dpss_one (dps_ret dpe_bl)) dpss_nil)
    (dpss_cons (dps_for (dpi_tup (dpe_tup (dpa_cons (dpe_tup (dpa_cons dpe_int (dpa_cons dpe_bl dpa_nil))) (dpa_cons (dpe_tup (dpa_cons (dpe_un dun_neg dpe_int) (dpa_cons dpe_bl dpa_nil))) dpa_nil)))) (dpg_tg (tg := .tp [18, 19]) (pg_tup rfl (pgs_cons (dpg_name 18 sc_law_asked.nd) (pgs_cons (dpg_name 19 sc_law_asked.nd) pgs_nil)))) (dpss_cons (dps_set 20 sc_law_asked.nd (dpe_op dop_add (dpe_var 2) (dpe_tup (dpa_cons (dpe_tup (dpa_cons (dpe_var 16) (dpa_cons (dpe_var 13) (dpa_cons (dpe_op dop_sub (dpe_var 18) (dpe_var 17)) dpa_nil)))) dpa_nil))))
    (dpss_cons (dps_set 5 sc_law_asked.nd (dpe_call (ok_falling_round T) (hr.mono (by decide)) (by rfl) T.m_falling_round T.F_falling_round.kp T.b_falling_round (dpa_cons (dpe_var 1) (dpa_cons (dpe_var 20) dpa_nil))))
    (dpss_one (dps_if (DPW.pt (dpw_or (dpt_cmp (dop_ne hr.units) (dpe_var 19) (dpe_cmp dop_isnot (dpe_var 5) dpe_non)) (dpw_or1 (DPW.pt (dpw_and (dpt_truth (dpe_var 19)) (dpw_and1 (dpt_not (dpt_val (dpe_call (ok_law_is_falling T) (hr.mono (by decide)) (by rfl) T.m_law_is_falling T.F_law_is_falling.kp T.b_law_is_falling (dpa_cons (dpe_var 20) (dpa_cons (dpe_var 5) dpa_nil))))))))))) (dpss_one (dps_ret dpe_bl)) dpss_nil)))))
    (dpss_one (dps_ret dpe_bl)))))))))))))))))))
theorem ok_law_asked (T : Txt K mg) : FnD P w K mg base 3 T.f_law_asked T.fd_law_asked ["scale", "many", "edges", "counts"] (a4 sp_law_asked) := FnD.mk T.F_law_asked sc_law_asked a4_len (dv_law_asked T) rd_law_asked_ok
theorem dv_law_by_hand (T : Txt K mg) : ∀ (cdv : Value) (A : Around) (outer : List Env) (s : Shared) (H : Hp) (E : XK), Room 2 (A.deeper (envOfC "_law_by_hand" (defScope s_law_by_hand) s.heap.objs.size T.f_law_by_hand cdv)) → DPSs (cxOf CX0 P w K mg base N_law_by_hand "_law_by_hand" (defScope s_law_by_hand) T.f_law_by_hand cdv A outer s H E).nox (KG.top K) (defBody s_law_by_hand) rd_law_by_hand := by
    intro cdv A outer s H E hr
    unfold rd_law_by_hand
    exact (dpss_cons (dps_set 0 sc_law_by_hand.nd (dpe_tup (dpa_cons (dpe_call (ok_falling_round T) (hr.mono (by decide)) (by rfl) T.m_falling_round T.F_falling_round.kp T.b_falling_round (dpa_cons dpe_int (dpa_cons (dpe_tup (dpa_cons (dpe_tup (dpa_cons dpe_int (dpa_cons dpe_int (dpa_cons dpe_int dpa_nil)))) (dpa_cons (dpe_tup (dpa_cons dpe_int (dpa_cons dpe_int (dpa_cons (dpe_un dun_neg dpe_int) dpa_nil)))) dpa_nil))) dpa_nil))) (dpa_cons (dpe_kw0 (tk := [(dTup (dCons (dTup (dCons (dC (.int 0)) (dCons (dC (.int 0)) (dCons (dUn vNeg (dC (.int 1))) dNil)))) dNil)), (dC (.int 1))]) (sp' := (kw2 (fun x0 x1 => [x1, x0]) (a2 sp_falling_round))) (ok_falling_round T) (hr.mono (by decide)) (by rfl) T.m_falling_round T.F_falling_round.kp T.kw_2 kw2_ok rfl (dpk_cons (dpe_tup (dpa_cons (dpe_tup (dpa_cons dpe_int (dpa_cons dpe_int (dpa_cons (dpe_un dun_neg dpe_int) dpa_nil)))) dpa_nil)) (dpk_cons dpe_int dpk_nil))) (dpa_cons (dpe_call (ok_falling_round T) (hr.mono (by decide)) (by rfl) T.m_falling_round T.F_falling_round.kp T.b_falling_round (dpa_cons dpe_int (dpa_cons (dpe_tup (dpa_cons (dpe_tup (dpa_cons dpe_int (dpa_cons dpe_int (dpa_cons (dpe_un dun_neg dpe_int) dpa_nil)))) (dpa_cons (dpe_tup (dpa_cons dpe_int (dpa_cons dpe_int (dpa_cons dpe_int dpa_nil)))) (dpa_cons (dpe_tup (dpa_cons dpe_int (dpa_cons dpe_int (dpa_cons dpe_int dpa_nil)))) dpa_nil)))) dpa_nil))) dpa_nil)))))
    (dpss_cons (dps_if (DPW.pt (dpw_or (dpt_cmp (dop_notinT (units65 hr)) (dpe_ix dix (dpe_var 0) dpe_int) (dpe_tup (dpa_cons (dpe_tup (dpa_cons dpe_int (dpa_cons dpe_int dpa_nil))) (dpa_cons (dpe_tup (dpa_cons dpe_int (dpa_cons dpe_int dpa_nil))) dpa_nil)))) (dpw_or (dpt_cmp (dop_ne hr.units) (dpe_ix dix (dpe_var 0) dpe_int) (dpe_tup (dpa_cons dpe_int dpa_nil))) (dpw_or1 (dpt_cmp (dop_notinT (units65 hr)) (dpe_ix dix (dpe_var 0) dpe_int) (dpe_tup (dpa_cons (dpe_tup (dpa_cons dpe_int (dpa_cons dpe_int dpa_nil))) (dpa_cons (dpe_tup (dpa_cons dpe_int (dpa_cons dpe_int dpa_nil))) dpa_nil)))))))) (dpss_one (dps_ret dpe_bl)) dpss_nil)
    (dpss_cons (dps_if (DPW.pt (dpw_or (dpt_cmp dop_isnot (dpe_call (ok_falling_round T) (hr.mono (by decide)) (by rfl) T.m_falling_round T.F_falling_round.kp T.b_falling_round (dpa_cons dpe_int (dpa_cons (dpe_tup dpa_nil) dpa_nil))) dpe_non) (dpw_or (dpt_cmp dop_isnot (dpe_call (ok_falling_round T) (hr.mono (by decide)) (by rfl) T.m_falling_round T.F_falling_round.kp T.b_falling_round (dpa_cons dpe_int (dpa_cons (dpe_tup (dpa_cons (dpe_tup (dpa_cons dpe_int (dpa_cons dpe_int (dpa_cons (dpe_un dun_neg dpe_int) dpa_nil)))) (dpa_cons (dpe_tup (dpa_cons dpe_int (dpa_cons dpe_int (dpa_cons (dpe_un dun_neg dpe_int) dpa_nil)))) dpa_nil))) dpa_nil))) dpe_non) (dpw_or1 (dpt_cmp dop_isnot (dpe_call (ok_falling_round T) (hr.mono (by decide)) (by rfl) T.m_falling_round T.F_falling_round.kp T.b_falling_round (dpa_cons dpe_int (dpa_cons (dpe_tup (dpa_cons (dpe_tup (dpa_cons dpe_int (dpa_cons dpe_int (dpa_cons (dpe_un dun_neg dpe_int) dpa_nil)))) (dpa_cons (dpe_tup (dpa_cons dpe_int (dpa_cons dpe_int (dpa_cons dpe_int dpa_nil)))) (dpa_cons (dpe_tup (dpa_cons dpe_int (dpa_cons dpe_int (dpa_cons dpe_int dpa_nil)))) dpa_nil)))) dpa_nil))) dpe_non))))) (dpss_one (dps_ret dpe_bl)) dpss_nil)
    (dpss_cons (dps_set 1 sc_law_by_hand.nd (dpe_tup (dpa_cons (dpe_tup (dpa_cons (dpe_call (ok_least_ways T) (hr.mono (by decide)) (by rfl) T.m_least_ways T.F_least_ways.kp T.b_least_ways (dpa_cons dpe_int (dpa_cons (dpe_tup (dpa_cons (dpe_tup (dpa_cons dpe_int (dpa_cons dpe_int (dpa_cons dpe_int dpa_nil)))) (dpa_cons (dpe_tup (dpa_cons dpe_int (dpa_cons dpe_int (dpa_cons (dpe_un dun_neg dpe_int) dpa_nil)))) dpa_nil))) (dpa_cons dpe_int dpa_nil)))) (dpa_cons (dpe_tup (dpa_cons dpe_int (dpa_cons (dpe_un dun_neg dpe_int) (dpa_cons dpe_non dpa_nil)))) dpa_nil))) (dpa_cons (dpe_tup (dpa_cons (dpe_kw0 (tk := [(dC (.int 1)), (dTup (dCons (dTup (dCons (dC (.int 0)) (dCons (dC (.int 1)) (dCons (dC (.int 1)) dNil)))) dNil)), (dC (.int 2))]) (sp' := (kw3 (fun x0 x1 x2 => [x2, x1, x0]) (a3 sp_least_ways))) (ok_least_ways T) (hr.mono (by decide)) (by rfl) T.m_least_ways T.F_least_ways.kp T.kw_1 kw3_ok rfl (dpk_cons dpe_int (dpk_cons (dpe_tup (dpa_cons (dpe_tup (dpa_cons dpe_int (dpa_cons dpe_int (dpa_cons dpe_int dpa_nil)))) dpa_nil)) (dpk_cons dpe_int dpk_nil)))) (dpa_cons (dpe_tup (dpa_cons dpe_non (dpa_cons dpe_int dpa_nil))) dpa_nil))) (dpa_cons (dpe_tup (dpa_cons (dpe_call (ok_least_ways T) (hr.mono (by decide)) (by rfl) T.m_least_ways T.F_least_ways.kp T.b_least_ways (dpa_cons dpe_int (dpa_cons (dpe_tup dpa_nil) (dpa_cons dpe_int dpa_nil)))) (dpa_cons (dpe_tup (dpa_cons dpe_int dpa_nil)) dpa_nil))) (dpa_cons (dpe_tup (dpa_cons (dpe_call (ok_least_ways T) (hr.mono (by decide)) (by rfl) T.m_least_ways T.F_least_ways.kp T.b_least_ways (dpa_cons dpe_int (dpa_cons (dpe_tup (dpa_cons (dpe_tup (dpa_cons dpe_int (dpa_cons dpe_int (dpa_cons dpe_int dpa_nil)))) (dpa_cons (dpe_tup (dpa_cons dpe_int (dpa_cons dpe_int (dpa_cons dpe_int dpa_nil)))) (dpa_cons (dpe_tup (dpa_cons dpe_int (dpa_cons dpe_int (dpa_cons (dpe_un dun_neg dpe_int) dpa_nil)))) dpa_nil)))) (dpa_cons dpe_int dpa_nil)))) (dpa_cons (dpe_tup (dpa_cons (dpe_un dun_neg dpe_int) (dpa_cons dpe_int dpa_nil))) dpa_nil))) (dpa_cons (dpe_tup (dpa_cons (dpe_call (ok_least_ways T) (hr.mono (by decide)) (by rfl) T.m_least_ways T.F_least_ways.kp T.b_least_ways (dpa_cons dpe_int (dpa_cons (dpe_tup (dpa_cons (dpe_tup (dpa_cons dpe_int (dpa_cons dpe_int (dpa_cons dpe_int dpa_nil)))) (dpa_cons (dpe_tup (dpa_cons dpe_int (dpa_cons dpe_int (dpa_cons (dpe_un dun_neg dpe_int) dpa_nil)))) (dpa_cons (dpe_tup (dpa_cons dpe_int (dpa_cons dpe_int (dpa_cons (dpe_un dun_neg dpe_int) dpa_nil)))) (dpa_cons (dpe_tup (dpa_cons dpe_int (dpa_cons dpe_int (dpa_cons dpe_int dpa_nil)))) (dpa_cons (dpe_tup (dpa_cons dpe_int (dpa_cons dpe_int (dpa_cons dpe_int dpa_nil)))) dpa_nil)))))) (dpa_cons dpe_int dpa_nil)))) (dpa_cons (dpe_tup (dpa_cons dpe_int (dpa_cons dpe_int (dpa_cons (dpe_un dun_neg dpe_int) (dpa_cons (dpe_un dun_neg dpe_int) dpa_nil))))) dpa_nil))) dpa_nil)))))))
    (dpss_cons (dps_for (dpi_tup (dpe_var 1)) (dpg_tg (tg := .tp [2, 3]) (pg_tup rfl (pgs_cons (dpg_name 2 sc_law_by_hand.nd) (pgs_cons (dpg_name 3 sc_law_by_hand.nd) pgs_nil)))) (dpss_one (dps_if (dpt_not (dpt_val (dpe_call (ok_law_same T) (hr.mono (by decide)) (by rfl) T.m_law_same T.F_law_same.kp T.b_law_same (dpa_cons (dpe_var 2) (dpa_cons (dpe_var 3) dpa_nil))))) (dpss_one (dps_ret dpe_bl)) dpss_nil)))
    (dpss_cons (dps_set 4 sc_law_by_hand.nd (dpe_tup (dpa_cons (dpe_tup (dpa_cons dpe_int (dpa_cons (dpe_tup (dpa_cons (dpe_tup (dpa_cons dpe_int (dpa_cons dpe_int (dpa_cons dpe_int dpa_nil)))) (dpa_cons (dpe_tup (dpa_cons dpe_int (dpa_cons dpe_int (dpa_cons (dpe_un dun_neg dpe_int) dpa_nil)))) dpa_nil))) (dpa_cons (dpe_tup (dpa_cons dpe_int (dpa_cons dpe_int dpa_nil))) (dpa_cons dpe_bl dpa_nil))))) (dpa_cons (dpe_tup (dpa_cons dpe_int (dpa_cons (dpe_tup (dpa_cons (dpe_tup (dpa_cons dpe_int (dpa_cons dpe_int (dpa_cons dpe_int dpa_nil)))) (dpa_cons (dpe_tup (dpa_cons dpe_int (dpa_cons dpe_int (dpa_cons (dpe_un dun_neg dpe_int) dpa_nil)))) dpa_nil))) (dpa_cons (dpe_tup (dpa_cons dpe_int (dpa_cons dpe_int dpa_nil))) (dpa_cons dpe_bl dpa_nil))))) (dpa_cons (dpe_tup (dpa_cons dpe_int (dpa_cons (dpe_tup (dpa_cons (dpe_tup (dpa_cons dpe_int (dpa_cons dpe_int (dpa_cons dpe_int dpa_nil)))) (dpa_cons (dpe_tup (dpa_cons dpe_int (dpa_cons dpe_int (dpa_cons (dpe_un dun_neg dpe_int) dpa_nil)))) dpa_nil))) (dpa_cons (dpe_tup (dpa_cons dpe_int (dpa_cons dpe_int dpa_nil))) (dpa_cons dpe_bl dpa_nil))))) (dpa_cons (dpe_tup (dpa_cons dpe_int (dpa_cons (dpe_tup (dpa_cons (dpe_tup (dpa_cons dpe_int (dpa_cons dpe_int (dpa_cons (dpe_un dun_neg dpe_int) dpa_nil)))) dpa_nil)) (dpa_cons (dpe_tup (dpa_cons dpe_int dpa_nil)) (dpa_cons dpe_bl dpa_nil))))) (dpa_cons (dpe_tup (dpa_cons dpe_int (dpa_cons (dpe_tup (dpa_cons (dpe_tup (dpa_cons dpe_int (dpa_cons dpe_int (dpa_cons dpe_int dpa_nil)))) dpa_nil)) (dpa_cons (dpe_tup (dpa_cons dpe_int dpa_nil)) (dpa_cons dpe_bl dpa_nil))))) (dpa_cons (dpe_tup (dpa_cons dpe_int (dpa_cons (dpe_tup dpa_nil) (dpa_cons (dpe_tup (dpa_cons dpe_int (dpa_cons dpe_bl dpa_nil))) (dpa_cons dpe_bl dpa_nil))))) (dpa_cons (dpe_tup (dpa_cons dpe_int (dpa_cons (dpe_tup dpa_nil) (dpa_cons (dpe_tup (dpa_cons dpe_int (dpa_cons (dpe_un dun_neg dpe_int) dpa_nil))) (dpa_cons dpe_bl dpa_nil))))) (dpa_cons (dpe_tup (dpa_cons dpe_int (dpa_cons (dpe_tup dpa_nil) (dpa_cons (dpe_lst (dpa_cons dpe_int (dpa_cons dpe_int dpa_nil))) (dpa_cons dpe_bl dpa_nil))))) dpa_nil))))))))))
    (dpss_cons (dps_for (dpi_tup (dpe_var 4)) (dpg_tg (tg := .tp [5, 6, 7, 3]) (pg_tup rfl (pgs_cons (dpg_name 5 sc_law_by_hand.nd) (pgs_cons (dpg_name 6 sc_law_by_hand.nd) (pgs_cons (dpg_name 7 sc_law_by_hand.nd) (pgs_cons (dpg_name 3 sc_law_by_hand.nd) pgs_nil)))))) (dpss_one (dps_if (DPW.pt (dpw_or (dpt_not (dpt_val (dpe_call (ok_law_bool T) (hr.mono (by decide)) (by rfl) T.m_law_bool T.F_law_bool.kp T.b_law_bool (dpa_cons (dpe_call (ok_is_potentials T) (hr.mono (by decide)) (by rfl) T.m_is_potentials T.F_is_potentials.kp T.b_is_potentials (dpa_cons (dpe_var 5) (dpa_cons (dpe_var 6) (dpa_cons (dpe_var 7) dpa_nil)))) (dpa_cons (dpe_var 3) dpa_nil))))) (dpw_or1 (dpt_not (dpt_val (dpe_call (ok_law_bool T) (hr.mono (by decide)) (by rfl) T.m_law_bool T.F_law_bool.kp T.b_law_bool (dpa_cons (dpe_kw0 (tk := [(dVar 7), (dVar 5), (dVar 6)]) (sp' := (kw3 (fun x0 x1 x2 => [x1, x2, x0]) (a3 sp_is_potentials))) (ok_is_potentials T) (hr.mono (by decide)) (by rfl) T.m_is_potentials T.F_is_potentials.kp T.kw_0 kw3_ok rfl (dpk_cons (dpe_var 7) (dpk_cons (dpe_var 5) (dpk_cons (dpe_var 6) dpk_nil)))) (dpa_cons (dpe_var 3) dpa_nil)))))))) (dpss_one (dps_ret dpe_bl)) dpss_nil)))
    (dpss_one (dps_ret dpe_bl)))))))))
theorem ok_law_by_hand (T : Txt K mg) : FnD P w K mg base 3 T.f_law_by_hand T.fd_law_by_hand [] (a0 sp_law_by_hand) := FnD.mk T.F_law_by_hand sc_law_by_hand a0_len (dv_law_by_hand T) rd_law_by_hand_ok
theorem dv_law (T : Txt K mg) : ∀ (cdv : Value) (A : Around) (outer : List Env) (s : Shared) (H : Hp) (E : XK), Room 3 (A.deeper (envOfC "law" (defScope s_law) s.heap.objs.size T.f_law cdv)) → DPSs (cxOf CX0 P w K mg base N_law "law" (defScope s_law) T.f_law cdv A outer s H E).nox (KG.top K) (defBody s_law) rd_law := by
    intro cdv A outer s H E hr
    unfold rd_law
    exact (dpss_cons (dps_set 1 sc_law.nd (dpe_call (ok_law_scale T) (hr.mono (by decide)) (by rfl) T.m_law_scale T.F_law_scale.kp T.b_law_scale (dpa_cons (dpe_var 0) dpa_nil)))
    (dpss_cons (dps_set 2 sc_law.nd (dpe_cmp (dop_eq hr.units) (dpe_call (ok_law_load T) (hr.mono (by decide)) (by rfl) T.m_law_load T.F_law_load.kp T.b_law_load (dpa_cons (dpe_var 1) (dpa_cons dpe_int (dpa_cons dpe_int dpa_nil)))) dpe_int))
    (dpss_cons (dps_if (dpt_not (dpt_val (dpe_call0 (ok_law_by_hand T) (hr.mono (by decide)) (by rfl) T.m_law_by_hand T.F_law_by_hand.kp T.b_law_by_hand))) (dpss_one (dps_ret dpe_bl)) dpss_nil)
    (dpss_cons (dps_set 3 sc_law.nd (dpe_lstM (dpa_cons dpe_int (dpa_cons dpe_int dpa_nil))))
    (dpss_cons (dps_for (dpi_range1 (by rfl) T.z_range (dpe_op dop_add dpe_int (dpe_callTy dcall_int (by rfl) T.z_int boot_int (dpa_cons (dpe_var 2) dpa_nil)))) (dpg_tg (dpg_name 4 sc_law.nd)) (dpss_cons (dps_set 5 sc_law.nd (dpe_ifExp (dpt_cmp (dop_eq hr.units) (dpe_var 4) dpe_int) dpe_int (dpe_op dop_add dpe_int (dpe_call (ok_law_load T) (hr.mono (by decide)) (by rfl) T.m_law_load T.F_law_load.kp T.b_law_load (dpa_cons (dpe_var 1) (dpa_cons dpe_int (dpa_cons dpe_int dpa_nil)))))))
    (dpss_cons (dps_set 6 sc_law.nd (dpe_cmp (dop_eq hr.units) (dpe_call (ok_law_load T) (hr.mono (by decide)) (by rfl) T.m_law_load T.F_law_load.kp T.b_law_load (dpa_cons (dpe_var 1) (dpa_cons dpe_int (dpa_cons dpe_int dpa_nil)))) dpe_int))
    (dpss_cons (dps_set 7 sc_law.nd (dpe_call (ok_law_edges T) (hr.mono (by decide)) (by rfl) T.m_law_edges T.F_law_edges.kp T.b_law_edges (dpa_cons (dpe_var 1) (dpa_cons (dpe_var 5) (dpa_cons (dpe_ifExp (dpt_cmp (dop_eq hr.units) (dpe_var 4) dpe_int) dpe_int (dpe_call (ok_law_load T) (hr.mono (by decide)) (by rfl) T.m_law_load T.F_law_load.kp T.b_law_load (dpa_cons (dpe_var 1) (dpa_cons dpe_int (dpa_cons dpe_int dpa_nil))))) (dpa_cons (dpe_var 6) dpa_nil))))))
    (dpss_cons (dps_if (dpt_cmp (dop_ne hr.units) (dpe_var 4) dpe_int) (dpss_one (dps_for (dpi_seq (dpe_call (ok_law_round T) (hr.mono (by decide)) (by rfl) T.m_law_round T.F_law_round.kp T.b_law_round (dpa_cons (dpe_var 1) (dpa_cons (dpe_var 5) (dpa_cons (dpe_var 6) (dpa_cons (dpe_ix dix (dpe_tup (dpa_cons dpe_int (dpa_cons (dpe_un dun_neg dpe_int) (dpa_cons dpe_int (dpa_cons dpe_int (dpa_cons (dpe_un dun_neg dpe_int) (dpa_cons (dpe_un dun_neg dpe_int) dpa_nil))))))) (dpe_var 4)) dpa_nil)))))) (dpg_tg (dpg_name 8 sc_law.nd)) (dpss_one (dps_expr (dpe_lm PySem.F.slot_list_insert PySem.F.type_list_insert mt_insert lr_insert (dpe_var 7) (dpa_cons (dpe_call (ok_law_load T) (hr.mono (by decide)) (by rfl) T.m_law_load T.F_law_load.kp T.b_law_load (dpa_cons (dpe_var 1) (dpa_cons dpe_int (dpa_cons (dpe_op dop_add (dpe_callB dcall_len (by rfl) T.z_len boot_len (dpa_cons (dpe_var 7) dpa_nil)) dpe_int) dpa_nil)))) (dpa_cons (dpe_var 8) dpa_nil))))))) dpss_nil)
    (dpss_one (dps_if (dpt_not (dpt_val (dpe_call (ok_law_asked T) (hr.mono (by decide)) (by rfl) T.m_law_asked T.F_law_asked.kp T.b_law_asked (dpa_cons (dpe_var 1) (dpa_cons (dpe_var 5) (dpa_cons (dpe_callTy dcall_tuple (by rfl) T.z_tuple boot_tuple (dpa_cons (dpe_var 7) dpa_nil)) (dpa_cons (dpe_var 3) dpa_nil))))))) (dpss_one (dps_ret dpe_bl)) dpss_nil)))))))
    (dpss_one (dps_ret (dpe_and (dpe_cmp dop_gt (dpe_ix dix (dpe_var 3) dpe_int) dpe_int) (dpe_one (dpe_cmp dop_gt (dpe_ix dix (dpe_var 3) dpe_int) dpe_int))))))))))
theorem ok_law (T : Txt K mg) : FnD P w K mg base 4 T.f_law T.fd_law ["script"] spTrue := FnD.mk T.F_law sc_law (fun ds S P h => by obtain ⟨ns, rfl, _⟩ := h; rfl) (dv_law T) rd_law_ok
end
theorem all_mk {l : PySem.W.OpenLaw} {w : World} {K : PySem.W.Frag} {h : Heap} {mg : Str → Option Value} {fa : Addr} (X : K.In h) (G : h.Ns mainGlobals mg) (hfa : mg "law" = some (.ref fa))
    {f0 : Addr} {od0 an0 : Option Addr} {sl0 : Array (Option Value)} {oc0 kV0 dc0 pm0 cd0 ct0 : Value}
    (a0 : PySem.W.nsIn K mainGlobals "is_integer" = some (some (.ref f0))) (l0 : K.lookup f0 = some ⟨oc0, od0, .func (PySem.W.fnOf "is_integer" "is_integer" (defArgs s_is_integer) (defBody s_is_integer) (defScope s_is_integer) .none kV0 dc0 pm0 an0 cd0 ct0), sl0⟩) (c0 : PySem.W.codeIn K cd0 "is_integer" = true) (k0 : PySem.W.keepIn K (.ref f0) = true)
    {f1 : Addr} {od1 an1 : Option Addr} {sl1 : Array (Option Value)} {oc1 kV1 dc1 pm1 cd1 ct1 : Value}
    (a1 : PySem.W.nsIn K mainGlobals "is_tuple" = some (some (.ref f1))) (l1 : K.lookup f1 = some ⟨oc1, od1, .func (PySem.W.fnOf "is_tuple" "is_tuple" (defArgs s_is_tuple) (defBody s_is_tuple) (defScope s_is_tuple) .none kV1 dc1 pm1 an1 cd1 ct1), sl1⟩) (c1 : PySem.W.codeIn K cd1 "is_tuple" = true) (k1 : PySem.W.keepIn K (.ref f1) = true)
    {f2 : Addr} {od2 an2 : Option Addr} {sl2 : Array (Option Value)} {oc2 kV2 dc2 pm2 cd2 ct2 : Value}
    (a2 : PySem.W.nsIn K mainGlobals "settle" = some (some (.ref f2))) (l2 : K.lookup f2 = some ⟨oc2, od2, .func (PySem.W.fnOf "settle" "settle" (defArgs s_settle) (defBody s_settle) (defScope s_settle) .none kV2 dc2 pm2 an2 cd2 ct2), sl2⟩) (c2 : PySem.W.codeIn K cd2 "settle" = true) (k2 : PySem.W.keepIn K (.ref f2) = true)
    {f3 : Addr} {od3 an3 : Option Addr} {sl3 : Array (Option Value)} {oc3 kV3 dc3 pm3 cd3 ct3 : Value}
    (a3 : PySem.W.nsIn K mainGlobals "round_through" = some (some (.ref f3))) (l3 : K.lookup f3 = some ⟨oc3, od3, .func (PySem.W.fnOf "round_through" "round_through" (defArgs s_round_through) (defBody s_round_through) (defScope s_round_through) .none kV3 dc3 pm3 an3 cd3 ct3), sl3⟩) (c3 : PySem.W.codeIn K cd3 "round_through" = true) (k3 : PySem.W.keepIn K (.ref f3) = true)
    {f4 : Addr} {od4 an4 : Option Addr} {sl4 : Array (Option Value)} {oc4 kV4 dc4 pm4 cd4 ct4 : Value}
    (a4 : PySem.W.nsIn K mainGlobals "falling_round" = some (some (.ref f4))) (l4 : K.lookup f4 = some ⟨oc4, od4, .func (PySem.W.fnOf "falling_round" "falling_round" (defArgs s_falling_round) (defBody s_falling_round) (defScope s_falling_round) .none kV4 dc4 pm4 an4 cd4 ct4), sl4⟩) (c4 : PySem.W.codeIn K cd4 "falling_round" = true) (k4 : PySem.W.keepIn K (.ref f4) = true)
    {f5 : Addr} {od5 an5 : Option Addr} {sl5 : Array (Option Value)} {oc5 kV5 dc5 pm5 cd5 ct5 : Value}
    (a5 : PySem.W.nsIn K mainGlobals "least_ways" = some (some (.ref f5))) (l5 : K.lookup f5 = some ⟨oc5, od5, .func (PySem.W.fnOf "least_ways" "least_ways" (defArgs s_least_ways) (defBody s_least_ways) (defScope s_least_ways) .none kV5 dc5 pm5 an5 cd5 ct5), sl5⟩) (c5 : PySem.W.codeIn K cd5 "least_ways" = true) (k5 : PySem.W.keepIn K (.ref f5) = true)
    {f6 : Addr} {od6 an6 : Option Addr} {sl6 : Array (Option Value)} {oc6 kV6 dc6 pm6 cd6 ct6 : Value}
    (a6 : PySem.W.nsIn K mainGlobals "is_potentials" = some (some (.ref f6))) (l6 : K.lookup f6 = some ⟨oc6, od6, .func (PySem.W.fnOf "is_potentials" "is_potentials" (defArgs s_is_potentials) (defBody s_is_potentials) (defScope s_is_potentials) .none kV6 dc6 pm6 an6 cd6 ct6), sl6⟩) (c6 : PySem.W.codeIn K cd6 "is_potentials" = true) (k6 : PySem.W.keepIn K (.ref f6) = true)
    {f7 : Addr} {od7 an7 : Option Addr} {sl7 : Array (Option Value)} {oc7 kV7 dc7 pm7 cd7 ct7 : Value}
    (a7 : PySem.W.nsIn K mainGlobals "_law_scale" = some (some (.ref f7))) (l7 : K.lookup f7 = some ⟨oc7, od7, .func (PySem.W.fnOf "_law_scale" "_law_scale" (defArgs s_law_scale) (defBody s_law_scale) (defScope s_law_scale) .none kV7 dc7 pm7 an7 cd7 ct7), sl7⟩) (c7 : PySem.W.codeIn K cd7 "_law_scale" = true) (k7 : PySem.W.keepIn K (.ref f7) = true)
    {f8 : Addr} {od8 an8 : Option Addr} {sl8 : Array (Option Value)} {oc8 kV8 dc8 pm8 cd8 ct8 : Value}
    (a8 : PySem.W.nsIn K mainGlobals "_law_load" = some (some (.ref f8))) (l8 : K.lookup f8 = some ⟨oc8, od8, .func (PySem.W.fnOf "_law_load" "_law_load" (defArgs s_law_load) (defBody s_law_load) (defScope s_law_load) .none kV8 dc8 pm8 an8 cd8 ct8), sl8⟩) (c8 : PySem.W.codeIn K cd8 "_law_load" = true) (k8 : PySem.W.keepIn K (.ref f8) = true)
    {f9 : Addr} {od9 an9 : Option Addr} {sl9 : Array (Option Value)} {oc9 kV9 dc9 pm9 cd9 ct9 : Value}
    (a9 : PySem.W.nsIn K mainGlobals "_law_weight" = some (some (.ref f9))) (l9 : K.lookup f9 = some ⟨oc9, od9, .func (PySem.W.fnOf "_law_weight" "_law_weight" (defArgs s_law_weight) (defBody s_law_weight) (defScope s_law_weight) .none kV9 dc9 pm9 an9 cd9 ct9), sl9⟩) (c9 : PySem.W.codeIn K cd9 "_law_weight" = true) (k9 : PySem.W.keepIn K (.ref f9) = true)
    {f10 : Addr} {od10 an10 : Option Addr} {sl10 : Array (Option Value)} {oc10 kV10 dc10 pm10 cd10 ct10 : Value}
    (a10 : PySem.W.nsIn K mainGlobals "_law_edges" = some (some (.ref f10))) (l10 : K.lookup f10 = some ⟨oc10, od10, .func (PySem.W.fnOf "_law_edges" "_law_edges" (defArgs s_law_edges) (defBody s_law_edges) (defScope s_law_edges) .none kV10 dc10 pm10 an10 cd10 ct10), sl10⟩) (c10 : PySem.W.codeIn K cd10 "_law_edges" = true) (k10 : PySem.W.keepIn K (.ref f10) = true)
    {f11 : Addr} {od11 an11 : Option Addr} {sl11 : Array (Option Value)} {oc11 kV11 dc11 pm11 cd11 ct11 : Value}
    (a11 : PySem.W.nsIn K mainGlobals "_law_round" = some (some (.ref f11))) (l11 : K.lookup f11 = some ⟨oc11, od11, .func (PySem.W.fnOf "_law_round" "_law_round" (defArgs s_law_round) (defBody s_law_round) (defScope s_law_round) .none kV11 dc11 pm11 an11 cd11 ct11), sl11⟩) (c11 : PySem.W.codeIn K cd11 "_law_round" = true) (k11 : PySem.W.keepIn K (.ref f11) = true)
    {f12 : Addr} {od12 an12 : Option Addr} {sl12 : Array (Option Value)} {oc12 kV12 dc12 pm12 cd12 ct12 : Value}
    (a12 : PySem.W.nsIn K mainGlobals "_law_settled" = some (some (.ref f12))) (l12 : K.lookup f12 = some ⟨oc12, od12, .func (PySem.W.fnOf "_law_settled" "_law_settled" (defArgs s_law_settled) (defBody s_law_settled) (defScope s_law_settled) .none kV12 dc12 pm12 an12 cd12 ct12), sl12⟩) (c12 : PySem.W.codeIn K cd12 "_law_settled" = true) (k12 : PySem.W.keepIn K (.ref f12) = true)
    {f13 : Addr} {od13 an13 : Option Addr} {sl13 : Array (Option Value)} {oc13 kV13 dc13 pm13 cd13 ct13 : Value}
    (a13 : PySem.W.nsIn K mainGlobals "_law_is_falling" = some (some (.ref f13))) (l13 : K.lookup f13 = some ⟨oc13, od13, .func (PySem.W.fnOf "_law_is_falling" "_law_is_falling" (defArgs s_law_is_falling) (defBody s_law_is_falling) (defScope s_law_is_falling) .none kV13 dc13 pm13 an13 cd13 ct13), sl13⟩) (c13 : PySem.W.codeIn K cd13 "_law_is_falling" = true) (k13 : PySem.W.keepIn K (.ref f13) = true)
    {f14 : Addr} {od14 an14 : Option Addr} {sl14 : Array (Option Value)} {oc14 kV14 dc14 pm14 cd14 ct14 : Value}
    (a14 : PySem.W.nsIn K mainGlobals "_law_are_potentials" = some (some (.ref f14))) (l14 : K.lookup f14 = some ⟨oc14, od14, .func (PySem.W.fnOf "_law_are_potentials" "_law_are_potentials" (defArgs s_law_are_potentials) (defBody s_law_are_potentials) (defScope s_law_are_potentials) .none kV14 dc14 pm14 an14 cd14 ct14), sl14⟩) (c14 : PySem.W.codeIn K cd14 "_law_are_potentials" = true) (k14 : PySem.W.keepIn K (.ref f14) = true)
    {f15 : Addr} {od15 an15 : Option Addr} {sl15 : Array (Option Value)} {oc15 kV15 dc15 pm15 cd15 ct15 : Value}
    (a15 : PySem.W.nsIn K mainGlobals "_law_same" = some (some (.ref f15))) (l15 : K.lookup f15 = some ⟨oc15, od15, .func (PySem.W.fnOf "_law_same" "_law_same" (defArgs s_law_same) (defBody s_law_same) (defScope s_law_same) .none kV15 dc15 pm15 an15 cd15 ct15), sl15⟩) (c15 : PySem.W.codeIn K cd15 "_law_same" = true) (k15 : PySem.W.keepIn K (.ref f15) = true)
    {f16 : Addr} {od16 an16 : Option Addr} {sl16 : Array (Option Value)} {oc16 kV16 dc16 pm16 cd16 ct16 : Value}
    (a16 : PySem.W.nsIn K mainGlobals "_law_bool" = some (some (.ref f16))) (l16 : K.lookup f16 = some ⟨oc16, od16, .func (PySem.W.fnOf "_law_bool" "_law_bool" (defArgs s_law_bool) (defBody s_law_bool) (defScope s_law_bool) .none kV16 dc16 pm16 an16 cd16 ct16), sl16⟩) (c16 : PySem.W.codeIn K cd16 "_law_bool" = true) (k16 : PySem.W.keepIn K (.ref f16) = true)
    {f17 : Addr} {od17 an17 : Option Addr} {sl17 : Array (Option Value)} {oc17 kV17 dc17 pm17 cd17 ct17 : Value}
    (a17 : PySem.W.nsIn K mainGlobals "_law_asked" = some (some (.ref f17))) (l17 : K.lookup f17 = some ⟨oc17, od17, .func (PySem.W.fnOf "_law_asked" "_law_asked" (defArgs s_law_asked) (defBody s_law_asked) (defScope s_law_asked) .none kV17 dc17 pm17 an17 cd17 ct17), sl17⟩) (c17 : PySem.W.codeIn K cd17 "_law_asked" = true) (k17 : PySem.W.keepIn K (.ref f17) = true)
    {f18 : Addr} {od18 an18 : Option Addr} {sl18 : Array (Option Value)} {oc18 kV18 dc18 pm18 cd18 ct18 : Value}
    (a18 : PySem.W.nsIn K mainGlobals "_law_by_hand" = some (some (.ref f18))) (l18 : K.lookup f18 = some ⟨oc18, od18, .func (PySem.W.fnOf "_law_by_hand" "_law_by_hand" (defArgs s_law_by_hand) (defBody s_law_by_hand) (defScope s_law_by_hand) .none kV18 dc18 pm18 an18 cd18 ct18), sl18⟩) (c18 : PySem.W.codeIn K cd18 "_law_by_hand" = true) (k18 : PySem.W.keepIn K (.ref f18) = true)
    {f19 : Addr} {od19 an19 : Option Addr} {sl19 : Array (Option Value)} {oc19 kV19 dc19 pm19 cd19 ct19 : Value}
    (a19 : PySem.W.nsIn K mainGlobals "law" = some (some (.ref f19))) (l19 : K.lookup f19 = some ⟨oc19, od19, .func (PySem.W.fnOf "law" "law" (defArgs s_law) (defBody s_law) (defScope s_law) .none kV19 dc19 pm19 an19 cd19 ct19), sl19⟩) (c19 : PySem.W.codeIn K cd19 "law" = true) (k19 : PySem.W.keepIn K (.ref f19) = true)
    (z_abs : PySem.W.nsIn K mainGlobals "abs" = some none)    (z_all : PySem.W.nsIn K mainGlobals "all" = some none)    (z_bool : PySem.W.nsIn K mainGlobals "bool" = some none)    (z_enumerate : PySem.W.nsIn K mainGlobals "enumerate" = some none)    (z_int : PySem.W.nsIn K mainGlobals "int" = some none)    (z_isinstance : PySem.W.nsIn K mainGlobals "isinstance" = some none)    (z_len : PySem.W.nsIn K mainGlobals "len" = some none)    (z_list : PySem.W.nsIn K mainGlobals "list" = some none)    (z_range : PySem.W.nsIn K mainGlobals "range" = some none)    (z_reversed : PySem.W.nsIn K mainGlobals "reversed" = some none)    (z_set : PySem.W.nsIn K mainGlobals "set" = some none)    (z_str : PySem.W.nsIn K mainGlobals "str" = some none)    (z_sum : PySem.W.nsIn K mainGlobals "sum" = some none)    (z_tuple : PySem.W.nsIn K mainGlobals "tuple" = some none) :
    ∃ fd : FuncData, (∀ (s : Shared) (v : Value), BindsTo s fd ⟨[v], []⟩ [("script", v)]) ∧ ∀ base : Heap, K.In base → base.Ns mainGlobals mg → FnOk l.prog w K mg base CX0 4 fa fd ["script"] (spLaw K) := by
  have e := hfa.symm.trans (PySem.W.mg_of X G a19)
  cases e
  have F0 := fun_mk (st := s_is_integer) l0 c0 k0
  have b0 := F0.binds (ps := ["thing"]) fun _ _ _ _ _ _  us hl => match us, hl with | [_], _ => rfl
  have F1 := fun_mk (st := s_is_tuple) l1 c1 k1
  have b1 := F1.binds (ps := ["thing", "many"]) fun _ _ _ _ _ _  us hl => match us, hl with | [_, _], _ => rfl
  have F2 := fun_mk (st := s_settle) l2 c2 k2
  have b2 := F2.binds (ps := ["sums", "edges"]) fun _ _ _ _ _ _  us hl => match us, hl with | [_, _], _ => rfl
  have F3 := fun_mk (st := s_round_through) l3 c3 k3
  have b3 := F3.binds (ps := ["edges", "ahead", "number"]) fun _ _ _ _ _ _  us hl => match us, hl with | [_, _, _], _ => rfl
  have F4 := fun_mk (st := s_falling_round) l4 c4 k4
  have b4 := F4.binds (ps := ["many", "edges"]) fun _ _ _ _ _ _  us hl => match us, hl with | [_, _], _ => rfl
  have F5 := fun_mk (st := s_least_ways) l5 c5 k5
  have b5 := F5.binds (ps := ["many", "edges", "start"]) fun _ _ _ _ _ _  us hl => match us, hl with | [_, _, _], _ => rfl
  have F6 := fun_mk (st := s_is_potentials) l6 c6 k6
  have b6 := F6.binds (ps := ["many", "edges", "thing"]) fun _ _ _ _ _ _  us hl => match us, hl with | [_, _, _], _ => rfl
  have F7 := fun_mk (st := s_law_scale) l7 c7 k7
  have b7 := F7.binds (ps := ["script"]) fun _ _ _ _ _ _  us hl => match us, hl with | [_], _ => rfl
  have F8 := fun_mk (st := s_law_load) l8 c8 k8
  have b8 := F8.binds (ps := ["scale", "place", "many"]) fun _ _ _ _ _ _  us hl => match us, hl with | [_, _, _], _ => rfl
  have F9 := fun_mk (st := s_law_weight) l9 c9 k9
  have b9 := F9.binds (ps := ["scale", "great"]) fun _ _ _ _ _ _  us hl => match us, hl with | [_, _], _ => rfl
  have F10 := fun_mk (st := s_law_edges) l10 c10 k10
  have b10 := F10.binds (ps := ["scale", "many", "rows", "great"]) fun _ _ _ _ _ _  us hl => match us, hl with | [_, _, _, _], _ => rfl
  have F11 := fun_mk (st := s_law_round) l11 c11 k11
  have b11 := F11.binds (ps := ["scale", "many", "great", "total"]) fun _ _ _ _ _ _  us hl => match us, hl with | [_, _, _, _], _ => rfl
  have F12 := fun_mk (st := s_law_settled) l12 c12 k12
  have b12 := F12.binds (ps := ["many", "edges", "begins"]) fun _ _ _ _ _ _  us hl => match us, hl with | [_, _, _], _ => rfl
  have F13 := fun_mk (st := s_law_is_falling) l13 c13 k13
  have b13 := F13.binds (ps := ["edges", "thing"]) fun _ _ _ _ _ _  us hl => match us, hl with | [_, _], _ => rfl
  have F14 := fun_mk (st := s_law_are_potentials) l14 c14 k14
  have b14 := F14.binds (ps := ["many", "edges", "thing"]) fun _ _ _ _ _ _  us hl => match us, hl with | [_, _, _], _ => rfl
  have F15 := fun_mk (st := s_law_same) l15 c15 k15
  have b15 := F15.binds (ps := ["told", "due"]) fun _ _ _ _ _ _  us hl => match us, hl with | [_, _], _ => rfl
  have F16 := fun_mk (st := s_law_bool) l16 c16 k16
  have b16 := F16.binds (ps := ["told", "due"]) fun _ _ _ _ _ _  us hl => match us, hl with | [_, _], _ => rfl
  have F17 := fun_mk (st := s_law_asked) l17 c17 k17
  have b17 := F17.binds (ps := ["scale", "many", "edges", "counts"]) fun _ _ _ _ _ _  us hl => match us, hl with | [_, _, _, _], _ => rfl
  have F18 := fun_mk (st := s_law_by_hand) l18 c18 k18
  have b18 := F18.binds (ps := []) fun _ _ _ _ _ _  us hl => match us, hl with | [], _ => rfl
  have F19 := fun_mk (st := s_law) l19 c19 k19
  have b19 := F19.binds (ps := ["script"]) fun _ _ _ _ _ _  us hl => match us, hl with | [_], _ => rfl
  have kwb0 := kwB_of (ps := ["many", "edges", "thing"]) (ks := ["thing", "many", "edges"]) (nu := 0) (p := [1, 2, 0]) F6 fun _ _ _ _ _ _  us ws hu hw => match us, ws, hu, hw with | [], [_, _, _], _, _ => rfl
  have kwb1 := kwB_of (ps := ["many", "edges", "start"]) (ks := ["start", "edges", "many"]) (nu := 0) (p := [2, 1, 0]) F5 fun _ _ _ _ _ _  us ws hu hw => match us, ws, hu, hw with | [], [_, _, _], _, _ => rfl
  have kwb2 := kwB_of (ps := ["many", "edges"]) (ks := ["edges", "many"]) (nu := 0) (p := [1, 0]) F4 fun _ _ _ _ _ _  us ws hu hw => match us, ws, hu, hw with | [], [_, _], _, _ => rfl
  have T : Txt K mg := ⟨f0, _, F0, PySem.W.mg_of X G a0, b0, f1, _, F1, PySem.W.mg_of X G a1, b1, f2, _, F2, PySem.W.mg_of X G a2, b2, f3, _, F3, PySem.W.mg_of X G a3, b3, f4, _, F4, PySem.W.mg_of X G a4, b4, f5, _, F5, PySem.W.mg_of X G a5, b5, f6, _, F6, PySem.W.mg_of X G a6, b6, f7, _, F7, PySem.W.mg_of X G a7, b7, f8, _, F8, PySem.W.mg_of X G a8, b8, f9, _, F9, PySem.W.mg_of X G a9, b9, f10, _, F10, PySem.W.mg_of X G a10, b10, f11, _, F11, PySem.W.mg_of X G a11, b11, f12, _, F12, PySem.W.mg_of X G a12, b12, f13, _, F13, PySem.W.mg_of X G a13, b13, f14, _, F14, PySem.W.mg_of X G a14, b14, f15, _, F15, PySem.W.mg_of X G a15, b15, f16, _, F16, PySem.W.mg_of X G a16, b16, f17, _, F17, PySem.W.mg_of X G a17, b17, f18, _, F18, PySem.W.mg_of X G a18, b18, fa, _, F19, PySem.W.mg_of X G a19, b19, PySem.W.mg_none_of X G z_abs, PySem.W.mg_none_of X G z_all, PySem.W.mg_none_of X G z_bool, PySem.W.mg_none_of X G z_enumerate, PySem.W.mg_none_of X G z_int, PySem.W.mg_none_of X G z_isinstance, PySem.W.mg_none_of X G z_len, PySem.W.mg_none_of X G z_list, PySem.W.mg_none_of X G z_range, PySem.W.mg_none_of X G z_reversed, PySem.W.mg_none_of X G z_set, PySem.W.mg_none_of X G z_str, PySem.W.mg_none_of X G z_sum, PySem.W.mg_none_of X G z_tuple, kwb0, kwb1, kwb2⟩
  exact ⟨_, fun s v => .of_eq rfl, fun base _ _ => (ok_law (base := base) (P := l.prog) (w := w) ⟨f0, _, F0, PySem.W.mg_of X G a0, b0, f1, _, F1, PySem.W.mg_of X G a1, b1, f2, _, F2, PySem.W.mg_of X G a2, b2, f3, _, F3, PySem.W.mg_of X G a3, b3, f4, _, F4, PySem.W.mg_of X G a4, b4, f5, _, F5, PySem.W.mg_of X G a5, b5, f6, _, F6, PySem.W.mg_of X G a6, b6, f7, _, F7, PySem.W.mg_of X G a7, b7, f8, _, F8, PySem.W.mg_of X G a8, b8, f9, _, F9, PySem.W.mg_of X G a9, b9, f10, _, F10, PySem.W.mg_of X G a10, b10, f11, _, F11, PySem.W.mg_of X G a11, b11, f12, _, F12, PySem.W.mg_of X G a12, b12, f13, _, F13, PySem.W.mg_of X G a13, b13, f14, _, F14, PySem.W.mg_of X G a14, b14, f15, _, F15, PySem.W.mg_of X G a15, b15, f16, _, F16, PySem.W.mg_of X G a16, b16, f17, _, F17, PySem.W.mg_of X G a17, b17, f18, _, F18, PySem.W.mg_of X G a18, b18, fa, _, F19, PySem.W.mg_of X G a19, b19, PySem.W.mg_none_of X G z_abs, PySem.W.mg_none_of X G z_all, PySem.W.mg_none_of X G z_bool, PySem.W.mg_none_of X G z_enumerate, PySem.W.mg_none_of X G z_int, PySem.W.mg_none_of X G z_isinstance, PySem.W.mg_none_of X G z_len, PySem.W.mg_none_of X G z_list, PySem.W.mg_none_of X G z_range, PySem.W.mg_none_of X G z_reversed, PySem.W.mg_none_of X G z_set, PySem.W.mg_none_of X G z_str, PySem.W.mg_none_of X G z_sum, PySem.W.mg_none_of X G z_tuple, kwb0, kwb1, kwb2⟩).law⟩
theorem walk {l : PySem.W.OpenLaw} {q : Program} {loose : List Str} {XP : (Str → Option Value) → Heap → Prop} {YP : World → Heap → Prop} {d : DefRec} {K : Params → PySem.W.Frag} (hn : l.most = some 63) (hdf : d.params.defaults = [])
    (hY : ∀ (w : World) (h : Heap), YP w h → (K w.params).In h)
    (F : ∀ (w : World) (mg : Str → Option Value) (fa : Addr) (h : Heap), (K w.params).In h → h.Ns mainGlobals mg → mg d.name = some (.ref fa) →
      ∃ fd : FuncData, (∀ (s : Shared) (u : Value), BindsTo s fd ⟨[u], []⟩ [("script", u)]) ∧ ∀ base : Heap, (K w.params).In base → base.Ns mainGlobals mg → FnOk l.prog w (K w.params) mg base CX0 4 fa fd ["script"] (spLaw (K w.params))) :
    PySem.W.WalkO q loose XP YP l.row.toRowW d [] (fun f vs => PySem.call f vs) :=
  L2.walk_of (n := 63) (k := 4) (x := "script") (CX := fun _ => CX0) (sp := fun w => spLaw (K w.params)) hn (by decide) hdf ⟨rfl, by decide, by decide⟩ hY F (fun _ _ a ns hl _ hS => ⟨a, ns, rfl, hS, hl, fun _ => rfl⟩) fun _ _ _ _ _ z => z
end L3

open PySem PySem.W PyProof.Rows in
set_option maxRecDepth 100000 in
set_option maxHeartbeats 0 in
theorem PySem.Challenge.cw_pilesfit_k69_whole_weights_holds : PySem.Challenge.rw_pilesfit_k69_whole_weights.Holds := by
  w_on; o_law; k_head; (case hw => w_witness2)
  k_fill
  refine L3.walk (l := PySem.Challenge.rw_pilesfit_k69_whole_weights) rfl rfl (fun w h Y => PySem.W.kIn_of Y) ?F
  case F =>
    intro w mg fa h KX G hmg
    refine' L3.all_mk KX G hmg ?a0 ?l0 ?c0 ?k0 ?a1 ?l1 ?c1 ?k1 ?a2 ?l2 ?c2 ?k2 ?a3 ?l3 ?c3 ?k3 ?a4 ?l4 ?c4 ?k4 ?a5 ?l5 ?c5 ?k5 ?a6 ?l6 ?c6 ?k6 ?a7 ?l7 ?c7 ?k7 ?a8 ?l8 ?c8 ?k8 ?a9 ?l9 ?c9 ?k9 ?a10 ?l10 ?c10 ?k10 ?a11 ?l11 ?c11 ?k11 ?a12 ?l12 ?c12 ?k12 ?a13 ?l13 ?c13 ?k13 ?a14 ?l14 ?c14 ?k14 ?a15 ?l15 ?c15 ?k15 ?a16 ?l16 ?c16 ?k16 ?a17 ?l17 ?c17 ?k17 ?a18 ?l18 ?c18 ?k18 ?a19 ?l19 ?c19 ?k19 ?z_abs ?z_all ?z_bool ?z_enumerate ?z_int ?z_isinstance ?z_len ?z_list ?z_range ?z_reversed ?z_set ?z_str ?z_sum ?z_tuple
    (case a0 => k_is)
    (case l0 => k_is)
    (case c0 => k_is)
    (case k0 => k_is)
    (case a1 => k_is)
    (case l1 => k_is)
    (case c1 => k_is)
    (case k1 => k_is)
    (case a2 => k_is)
    (case l2 => k_is)
    (case c2 => k_is)
    (case k2 => k_is)
    (case a3 => k_is)
    (case l3 => k_is)
    (case c3 => k_is)
    (case k3 => k_is)
    (case a4 => k_is)
    (case l4 => k_is)
    (case c4 => k_is)
    (case k4 => k_is)
    (case a5 => k_is)
    (case l5 => k_is)
    (case c5 => k_is)
    (case k5 => k_is)
    (case a6 => k_is)
    (case l6 => k_is)
    (case c6 => k_is)
    (case k6 => k_is)
    (case a7 => k_is)
    (case l7 => k_is)
    (case c7 => k_is)
    (case k7 => k_is)
    (case a8 => k_is)
    (case l8 => k_is)
    (case c8 => k_is)
    (case k8 => k_is)
    (case a9 => k_is)
    (case l9 => k_is)
    (case c9 => k_is)
    (case k9 => k_is)
    (case a10 => k_is)
    (case l10 => k_is)
    (case c10 => k_is)
    (case k10 => k_is)
    (case a11 => k_is)
    (case l11 => k_is)
    (case c11 => k_is)
    (case k11 => k_is)
    (case a12 => k_is)
    (case l12 => k_is)
    (case c12 => k_is)
    (case k12 => k_is)
    (case a13 => k_is)
    (case l13 => k_is)
    (case c13 => k_is)
    (case k13 => k_is)
    (case a14 => k_is)
    (case l14 => k_is)
    (case c14 => k_is)
    (case k14 => k_is)
    (case a15 => k_is)
    (case l15 => k_is)
    (case c15 => k_is)
    (case k15 => k_is)
    (case a16 => k_is)
    (case l16 => k_is)
    (case c16 => k_is)
    (case k16 => k_is)
    (case a17 => k_is)
    (case l17 => k_is)
    (case c17 => k_is)
    (case k17 => k_is)
    (case a18 => k_is)
    (case l18 => k_is)
    (case c18 => k_is)
    (case k18 => k_is)
    (case a19 => k_is)
    (case l19 => k_is)
    (case c19 => k_is)
    (case k19 => k_is)
    (case z_abs => k_is)
    (case z_all => k_is)
    (case z_bool => k_is)
    (case z_enumerate => k_is)
    (case z_int => k_is)
    (case z_isinstance => k_is)
    (case z_len => k_is)
    (case z_list => k_is)
    (case z_range => k_is)
    (case z_reversed => k_is)
    (case z_set => k_is)
    (case z_str => k_is)
    (case z_sum => k_is)
    (case z_tuple => k_is)
