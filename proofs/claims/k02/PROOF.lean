import PyProof.Rows.All
import Wide.All
import OpenK.AllK
import Wide.FinOn
import HandS.ForMost
import HandS.TupAny
import HandS.IsInst
import HandS.Conv
import HandS.Wide
import HandS.TupMul
import HandS.WordsDict
import HandS.Walk
import HandS.Flow
import PySem.Challenge.RW_pilesfit_k02_effect_looks
set_option Elab.async false
set_option maxRecDepth 100000
set_option linter.all false
/-! A layer of plain data over the hand layer: values are trees, only what is mutable stands in a store. -/
namespace L3
open PySem L2

/-- plain data; ref: a handle of a mutable object -/
inductive D where
  | non | bl (b : Bool) | int (i : Int) | str (x : Str)
  | tup (ds : List D) | lst (ds : List D) | ro (ds : List D) | ref (a : Addr) | ty (n : String)

/-- a mutable object -/
inductive SO where
  | lst (ds : List D)
  | dK (kvs : List (Key × D))
  | ins (C : Addr) (fs : List (Str × D))
abbrev Sto := Addr → Option SO
def sup (S : Sto) (a : Addr) (o : SO) : Sto := fun b => if b = a then some o else S b
theorem sup_same {S : Sto} {a : Addr} {o : SO} : sup S a o a = some o := by unfold sup; rw [if_pos rfl]
theorem sup_ne {S : Sto} {a b : Addr} {o : SO} (h : b ≠ a) : sup S a o b = S b := by unfold sup; rw [if_neg h]
theorem sup_sup {S : Sto} {a : Addr} {o u : SO} : sup (sup S a o) a u = sup S a u := by
  funext b; unfold sup; split <;> rfl
/-- the part of the heap that never changes: neither in the store nor hidden -/
def fz (F : Addr → Bool) (S : Sto) (H : Hp) : Hp := fun a => match F a, S a with | false, none => H a | _, _ => none
theorem fz_some {F : Addr → Bool} {S : Sto} {H : Hp} {a : Addr} {o : SO} (h : S a = some o) : fz F S H a = none := by
  unfold fz; rw [h]; cases F a <;> rfl
theorem fz_hid {F : Addr → Bool} {S : Sto} {H : Hp} {a : Addr} (h : F a = true) : fz F S H a = none := by
  unfold fz; rw [h]
theorem fz_none {F : Addr → Bool} {S : Sto} {H : Hp} {a : Addr} (f : F a = false) (h : S a = none) : fz F S H a = H a := by unfold fz; rw [h, f]
theorem fz_of {F : Addr → Bool} {S : Sto} {H : Hp} {a : Addr} {o : HO} (h : fz F S H a = some o) : F a = false ∧ S a = none ∧ H a = some o := by
  unfold fz at h
  cases f : F a with
  | true => rw [f] at h; cases h
  | false =>
    cases e : S a with
    | none => rw [f, e] at h; exact ⟨rfl, rfl, h⟩
    | some u => rw [f, e] at h; cases h
theorem fz_same (F : Addr → Bool) (S : Sto) (H : Hp) : Same (fz F S H) H := fun _ _ h => (fz_of h).2.2

mutual
inductive Rel (K : PySem.W.Frag) (G : Hp) : V → D → Prop
  | non : Rel K G .non .non
  | bl (b : Bool) : Rel K G (.bl b) (.bl b)
  | int (i : Int) : Rel K G (.int i) (.int i)
  | str (x : Str) : Rel K G (.str x) (.str x)
  | ref (a : Addr) : Rel K G (.ref a) (.ref a)
  | ty (n : String) : Rel K G (.ty n) (.ty n)
  | tup {a : Addr} {xs : List V} {ds : List D} : SqT K G a xs → RelL K G xs ds → Rel K G (.ref a) (.tup ds)
  | lst {a : Addr} {xs : List V} {ds : List D} : G a = some (.lst xs) → RelL K G xs ds → Rel K G (.ref a) (.lst ds)
  | ro {a : Addr} {xs : List V} {ds : List D} : SqL K G a xs → RelL K G xs ds → Rel K G (.ref a) (.ro ds)
inductive RelL (K : PySem.W.Frag) (G : Hp) : List V → List D → Prop
  | nil : RelL K G [] []
  | cons {v : V} {vs : List V} {d : D} {ds : List D} : Rel K G v d → RelL K G vs ds → RelL K G (v :: vs) (d :: ds)
end
theorem sqT_mono {K : PySem.W.Frag} {H H' : Hp} {a : Addr} {xs : List V} (e : Same H H') (h : SqT K H a xs) : SqT K H' a xs := by
  rcases h with (h | ⟨o, h⟩) | h
  · exact .inl (.inl (e _ _ h))
  · exact .inl (.inr ⟨o, e _ _ h⟩)
  · exact .inr h
section
variable {K : PySem.W.Frag} {G G' : Hp}
mutual
theorem Rel.mono (e : Same G G') : ∀ {v : V} {d : D}, Rel K G v d → Rel K G' v d
  | _, _, .non => .non
  | _, _, .bl b => .bl b
  | _, _, .int b => .int b
  | _, _, .str b => .str b
  | _, _, .ref b => .ref b
  | _, _, .ty b => .ty b
  | _, _, .tup h r => .tup (sqT_mono e h) (RelL.mono e r)
  | _, _, .lst h r => .lst (e _ _ h) (RelL.mono e r)
  | _, _, .ro h r => .ro (e.seq h) (RelL.mono e r)
theorem RelL.mono (e : Same G G') : ∀ {vs : List V} {ds : List D}, RelL K G vs ds → RelL K G' vs ds
  | _, _, .nil => .nil
  | _, _, .cons h r => .cons (Rel.mono e h) (RelL.mono e r)
end
theorem RelL.length : ∀ {vs : List V} {ds : List D}, RelL K G vs ds → vs.length = ds.length
  | _, _, .nil => rfl
  | _, _, .cons _ r => by simp [RelL.length r]
theorem RelL.append : ∀ {xs ys : List V} {ds es : List D}, RelL K G xs ds → RelL K G ys es → RelL K G (xs ++ ys) (ds ++ es)
  | _, _, _, _, .nil, s => s
  | _, _, _, _, .cons r t, s => .cons r (RelL.append t s)
theorem RelL.get : ∀ {xs : List V} {ds : List D} {i : Nat} {d : D}, RelL K G xs ds → ds[i]? = some d → ∃ v, xs[i]? = some v ∧ Rel K G v d
  | _, _, _, _, .nil, e => by simp at e
  | _, _, 0, _, .cons r _, e => by simp at e; subst e; exact ⟨_, rfl, r⟩
  | _, _, i + 1, _, .cons _ t, e => by
    obtain ⟨v, h1, h2⟩ := RelL.get (i := i) t (by simpa using e)
    exact ⟨v, by simpa using h1, h2⟩
theorem RelL.get' : ∀ {xs : List V} {ds : List D} {i : Nat} {v : V}, RelL K G xs ds → xs[i]? = some v → ∃ d, ds[i]? = some d ∧ Rel K G v d
  | _, _, _, _, .nil, e => by simp at e
  | _, _, 0, _, .cons r _, e => by simp at e; subst e; exact ⟨_, rfl, r⟩
  | _, _, i + 1, _, .cons _ t, e => by
    obtain ⟨v, h1, h2⟩ := RelL.get' (i := i) t (by simpa using e)
    exact ⟨v, by simpa using h1, h2⟩
theorem RelL.set {v : V} {d : D} (h : Rel K G v d) : ∀ {xs : List V} {ds : List D} (i : Nat), RelL K G xs ds → RelL K G (xs.set i v) (ds.set i d)
  | _, _, _, .nil => .nil
  | _, _, 0, .cons _ t => .cons h t
  | _, _, i + 1, .cons q t => .cons q (RelL.set h i t)
theorem RelL.take : ∀ {xs : List V} {ds : List D} (n : Nat), RelL K G xs ds → RelL K G (xs.take n) (ds.take n)
  | _, _, 0, _ => .nil
  | _, _, _ + 1, .nil => .nil
  | _, _, n + 1, .cons r t => .cons r (RelL.take n t)
theorem RelL.drop : ∀ {xs : List V} {ds : List D} (n : Nat), RelL K G xs ds → RelL K G (xs.drop n) (ds.drop n)
  | _, _, 0, r => r
  | _, _, _ + 1, .nil => .nil
  | _, _, n + 1, .cons _ t => RelL.drop n t
theorem RelL.reverse : ∀ {xs : List V} {ds : List D}, RelL K G xs ds → RelL K G xs.reverse ds.reverse
  | _, _, .nil => .nil
  | _, _, .cons r t => by
    rw [List.reverse_cons, List.reverse_cons]
    exact (RelL.reverse t).append (.cons r .nil)
theorem RelL.ints : ∀ {xs : List V} {ns : List Int}, RelL K G xs (ns.map D.int) → xs = ns.map V.int
  | _, [], h => by cases h; rfl
  | _, n :: ns, h => by
    cases h with
    | cons r t => cases r; rw [RelL.ints t]; rfl
theorem RelL.bls : ∀ {xs : List V} {ns : List Bool}, RelL K G xs (ns.map D.bl) → xs = ns.map V.bl
  | _, [], h => by cases h; rfl
  | _, n :: ns, h => by
    cases h with
    | cons r t => cases r; rw [RelL.bls t]; rfl
theorem RelL.strs : ∀ {xs : List V} {ns : List Str}, RelL K G xs (ns.map D.str) → xs = ns.map V.str
  | _, [], h => by cases h; rfl
  | _, n :: ns, h => by
    cases h with
    | cons r t => cases r; rw [RelL.strs t]; rfl
theorem RelL.ofInts : ∀ (ns : List Int), RelL K G (ns.map V.int) (ns.map D.int)
  | [] => .nil
  | n :: ns => .cons (.int n) (RelL.ofInts ns)
end

/-- fields, entries -/
inductive RelF (K : PySem.W.Frag) (G : Hp) {κ : Type} : List (κ × V) → List (κ × D) → Prop
  | nil : RelF K G [] []
  | cons {k : κ} {v : V} {vs : List (κ × V)} {d : D} {ds : List (κ × D)} : Rel K G v d → RelF K G vs ds → RelF K G ((k, v) :: vs) ((k, d) :: ds)
section
variable {K : PySem.W.Frag} {G G' : Hp} {κ : Type}
theorem RelF.mono (e : Same G G') : ∀ {vs : List (κ × V)} {ds : List (κ × D)}, RelF K G vs ds → RelF K G' vs ds
  | _, _, .nil => .nil
  | _, _, .cons h r => .cons (h.mono e) (RelF.mono e r)
end
def SOk (K : PySem.W.Frag) (G : Hp) (o : Option HO) : SO → Prop
  | .lst ds => ∃ vs, o = some (.lst vs) ∧ RelL K G vs ds
  | .dK kvs => ∃ vs, o = some (.dK vs) ∧ RelF K G vs kvs
  | .ins C fs => ∃ dx vs, o = some (.ins C dx vs) ∧ RelF K G vs fs
theorem SOk.mono {K : PySem.W.Frag} {G G' : Hp} {o : Option HO} (e : Same G G') {u : SO} (h : SOk K G o u) : SOk K G' o u := by
  cases u with
  | lst ds => obtain ⟨vs, e1, r⟩ := h; exact ⟨vs, e1, r.mono e⟩
  | dK ds => obtain ⟨vs, e1, r⟩ := h; exact ⟨vs, e1, r.mono e⟩
  | ins C ds => obtain ⟨dx, vs, e1, r⟩ := h; exact ⟨dx, vs, e1, r.mono e⟩
theorem SOk.some {K : PySem.W.Frag} {G : Hp} {o : Option HO} {u : SO} (h : SOk K G o u) : ∃ x, o = some x := by
  cases u with
  | lst ds => obtain ⟨vs, e1, r⟩ := h; exact ⟨_, e1⟩
  | dK ds => obtain ⟨vs, e1, r⟩ := h; exact ⟨_, e1⟩
  | ins C ds => obtain ⟨dx, vs, e1, r⟩ := h; exact ⟨_, e1⟩
/-- the store and the hidden objects stand in the heap -/
structure Sim (K : PySem.W.Frag) (F : Addr → Bool) (S : Sto) (H : Hp) : Prop where
  at_ : ∀ a o, S a = some o → F a = false ∧ SOk K (fz F S H) (H a) o
  hid : ∀ a, F a = true → ∃ o, H a = some o
/-- from one state to a later one -/
structure Go (K : PySem.W.Frag) (F : Addr → Bool) (S : Sto) (H : Hp) (S' : Sto) (H' : Hp) : Prop where
  same : Same (fz F S H) (fz F S' H')
  hid : ∀ a, F a = true → H' a = H a
  sim : Sim K F S' H'
section
variable {K : PySem.W.Frag} {F : Addr → Bool} {S S1 S2 : Sto} {H H1 H2 : Hp} {p a : Addr} {o : HO} {u u' : SO}
theorem Go.refl (s : Sim K F S H) : Go K F S H S H := ⟨Same.refl _, fun _ _ => rfl, s⟩
theorem Go.trans (g : Go K F S H S1 H1) (g' : Go K F S1 H1 S2 H2) : Go K F S H S2 H2 := ⟨g.same.trans g'.same, fun a h => (g'.hid a h).trans (g.hid a h), g'.sim⟩
theorem Sim.none (s : Sim K F S H) (h : H p = none) : F p = false ∧ S p = Option.none := by
  constructor
  · cases e : F p with
    | false => rfl
    | true =>
      obtain ⟨x, q⟩ := s.hid p e
      rw [h] at q; cases q
  · cases e : S p with
    | none => rfl
    | some u =>
      obtain ⟨x, q⟩ := (s.at_ p u e).2.some
      rw [h] at q; cases q
theorem same_new (h : H p = none) : Same (fz F S H) (fz F S (upd H p o)) := fun b x e => by
  obtain ⟨h0, h1, h2⟩ := fz_of e
  rw [fz_none h0 h1, upd_ne (ne_of_none h2 h)]
  exact h2
/-- a new object that never changes -/
theorem Sim.new (s : Sim K F S H) (h : H p = Option.none) : Go K F S H S (upd H p o) := by
  refine ⟨same_new h, fun a f => ?_, fun a u e => ?_, fun a f => ?_⟩
  · rw [upd_ne (fun z => by subst z; rw [(s.none h).1] at f; cases f)]
  · have np : a ≠ p := fun z => by subst z; rw [(s.none h).2] at e; cases e
    rw [upd_ne np]
    exact ⟨(s.at_ a u e).1, (s.at_ a u e).2.mono (same_new h)⟩
  · obtain ⟨x, q⟩ := s.hid a f
    exact ⟨x, by rw [upd_ne (ne_of_none q h)]; exact q⟩
theorem fz_new (s : Sim K F S H) (h : H p = Option.none) : fz F S (upd H p o) p = some o := by
  rw [fz_none (s.none h).1 (s.none h).2, upd_same]
theorem same_newM (h : H p = Option.none) : Same (fz F S H) (fz F (sup S p u) (upd H p o)) := fun b x e => by
  obtain ⟨h0, h1, h2⟩ := fz_of e
  have np := ne_of_none h2 h
  rw [fz_none h0 (by rw [sup_ne np]; exact h1), upd_ne np]
  exact h2
/-- a new object that may change -/
theorem Sim.newM (s : Sim K F S H) (h : H p = Option.none) (k : SOk K (fz F S H) (some o) u) : Go K F S H (sup S p u) (upd H p o) := by
  refine ⟨same_newM h, fun a f => ?_, fun a x e => ?_, fun a f => ?_⟩
  · rw [upd_ne (fun z => by subst z; rw [(s.none h).1] at f; cases f)]
  · by_cases np : a = p
    · subst np
      rw [sup_same] at e; cases e
      rw [upd_same]
      exact ⟨(s.none h).1, k.mono (same_newM h)⟩
    · rw [sup_ne np] at e
      rw [upd_ne np]
      exact ⟨(s.at_ a x e).1, (s.at_ a x e).2.mono (same_newM h)⟩
  · obtain ⟨x, q⟩ := s.hid a f
    exact ⟨x, by rw [upd_ne (ne_of_none q h)]; exact q⟩
theorem fz_put (h : S a = some u) : fz F (sup S a u') (upd H a o) = fz F S H := by
  funext b
  by_cases e : b = a
  · subst e
    rw [fz_some h, fz_some sup_same]
  · unfold fz
    rw [sup_ne e, upd_ne e]
/-- a mutable object changes -/
theorem Sim.put (s : Sim K F S H) (h : S a = some u) (k : SOk K (fz F S H) (some o) u') : Go K F S H (sup S a u') (upd H a o) := by
  refine ⟨by rw [fz_put h]; exact Same.refl _, fun b f => ?_, fun b x e => ?_, fun b f => ?_⟩
  · rw [upd_ne (fun z => by subst z; rw [(s.at_ _ _ h).1] at f; cases f)]
  · rw [fz_put h]
    by_cases np : b = a
    · subst np
      rw [sup_same] at e; cases e
      rw [upd_same]
      exact ⟨(s.at_ _ _ h).1, k⟩
    · rw [sup_ne np] at e
      rw [upd_ne np]
      exact s.at_ b x e
  · obtain ⟨x, q⟩ := s.hid b f
    exact ⟨x, by rw [upd_ne (fun z => by subst z; rw [(s.at_ _ _ h).1] at f; cases f)]; exact q⟩
/-- a part of the store is let go -/
theorem Go.drop (g : Go K F S H S1 H1) (h : ∀ a o, S2 a = some o → S1 a = some o) : Go K F S H S2 H1 := by
  have e : Same (fz F S1 H1) (fz F S2 H1) := fun b x e => by
    obtain ⟨h0, h1, h2⟩ := fz_of e
    rw [fz_none h0 ?_]
    · exact h2
    · cases q : S2 b with
      | none => rfl
      | some u => rw [h b u q] at h1; cases h1
  exact ⟨g.same.trans e, g.hid, fun a o q => ⟨(g.sim.at_ a o (h a o q)).1, (g.sim.at_ a o (h a o q)).2.mono e⟩, g.sim.hid⟩
end

abbrev DSt := List (Option D)
/-- slots -/
inductive RelS (K : PySem.W.Frag) (G : Hp) : St → DSt → Prop
  | nil : RelS K G [] []
  | cons {v : V} {σ : St} {d : D} {δ : DSt} : Rel K G v d → RelS K G σ δ → RelS K G (some v :: σ) (some d :: δ)
  | skip {v : Option V} {σ : St} {δ : DSt} : RelS K G σ δ → RelS K G (v :: σ) (none :: δ)
section
variable {K : PySem.W.Frag} {G G' : Hp}
theorem RelS.mono (e : Same G G') : ∀ {σ : St} {δ : DSt}, RelS K G σ δ → RelS K G' σ δ
  | _, _, .nil => .nil
  | _, _, .cons h r => .cons (h.mono e) (RelS.mono e r)
  | _, _, .skip r => .skip (RelS.mono e r)
theorem RelS.get : ∀ {σ : St} {δ : DSt} {i : Nat} {d : D}, RelS K G σ δ → δ[i]? = some (some d) → ∃ v, σ[i]? = some (some v) ∧ Rel K G v d
  | _, _, _, _, .nil, e => by simp at e
  | _, _, 0, _, .cons r _, e => by simp at e; subst e; exact ⟨_, rfl, r⟩
  | _, _, 0, _, .skip _, e => by simp at e
  | _, _, i + 1, _, .cons _ t, e => by
    obtain ⟨v, h1, h2⟩ := RelS.get (i := i) t (by simpa using e)
    exact ⟨v, by simpa using h1, h2⟩
  | _, _, i + 1, _, .skip t, e => by
    obtain ⟨v, h1, h2⟩ := RelS.get (i := i) t (by simpa using e)
    exact ⟨v, by simpa using h1, h2⟩
theorem RelS.set {v : V} {d : D} (h : Rel K G v d) : ∀ {σ : St} {δ : DSt} (i : Nat), RelS K G σ δ → RelS K G (σ.set i (some v)) (δ.set i (some d))
  | _, _, _, .nil => .nil
  | _, _, 0, .cons _ t => .cons h t
  | _, _, 0, .skip t => .cons h t
  | _, _, i + 1, .cons q t => .cons q (RelS.set h i t)
  | _, _, i + 1, .skip t => .skip (RelS.set h i t)
theorem RelS.unset : ∀ {σ : St} {δ : DSt} {v : Option V} (i : Nat), RelS K G σ δ → RelS K G (σ.set i v) (δ.set i none)
  | _, _, _, _, .nil => .nil
  | _, _, _, 0, .cons _ t => .skip t
  | _, _, _, 0, .skip t => .skip t
  | _, _, _, i + 1, .cons q t => .cons q (RelS.unset i t)
  | _, _, _, i + 1, .skip t => .skip (RelS.unset i t)
theorem RelS.length : ∀ {σ : St} {δ : DSt}, RelS K G σ δ → σ.length = δ.length
  | _, _, .nil => rfl
  | _, _, .cons _ r => by simp [RelS.length r]
  | _, _, .skip r => by simp [RelS.length r]
theorem RelS.repl : ∀ (n : Nat), RelS K G (List.replicate n none) (List.replicate n none)
  | 0 => .nil
  | n + 1 => .skip (RelS.repl n)
theorem RelS.ofL : ∀ {vs : List V} {ds : List D} {σ : St} {δ : DSt}, RelL K G vs ds → RelS K G σ δ → RelS K G (vs.map some ++ σ) (ds.map some ++ δ)
  | _, _, _, _, .nil, s => s
  | _, _, _, _, .cons r t, s => .cons r (RelS.ofL t s)
end

abbrev DK := D → Sto → Prop
abbrev DTE := DSt → Sto → DK → Prop
abbrev DTT := DSt → Sto → (Bool → Sto → Prop) → Prop
abbrev DTA := DSt → Sto → (List D → Sto → Prop) → Prop
structure DEnds where
  nx : DSt → Sto → Prop
  rt : DK
  bk : DSt → Sto → Prop := fun _ _ => False
  ct : DSt → Sto → Prop := fun _ _ => False
abbrev DTS := DEnds → DSt → Sto → Prop

/-- what follows, by data -/
def Ct (K : PySem.W.Frag) (F : Addr → Bool) (S : Sto) (H : Hp) (P : DK) (Q : VK) : Prop := ∀ d S', P d S' → ∀ v H', Go K F S H S' H' → Rel K (fz F S' H') v d → Q v H'
def CtT (K : PySem.W.Frag) (F : Addr → Bool) (S : Sto) (H : Hp) (P : Bool → Sto → Prop) (Q : Bool → Hp → Prop) : Prop := ∀ b S', P b S' → ∀ H', Go K F S H S' H' → Q b H'
def CtA (K : PySem.W.Frag) (F : Addr → Bool) (S : Sto) (H : Hp) (P : List D → Sto → Prop) (Q : List V → Hp → Prop) : Prop := ∀ ds S', P ds S' → ∀ vs H', Go K F S H S' H' → RelL K (fz F S' H') vs ds → Q vs H'
def CtN (K : PySem.W.Frag) (F : Addr → Bool) (S : Sto) (H : Hp) (P : DSt → Sto → Prop) (Q : St → Hp → Prop) : Prop := ∀ δ' S', P δ' S' → ∀ σ' H', Go K F S H S' H' → RelS K (fz F S' H') σ' δ' → Q σ' H'
structure CtE (K : PySem.W.Frag) (F : Addr → Bool) (S : Sto) (H : Hp) (P : DEnds) (Q : Ends) : Prop where
  nx : CtN K F S H P.nx Q.nx
  rt : Ct K F S H P.rt Q.rt
  bk : CtN K F S H P.bk Q.bk
  ct : CtN K F S H P.ct Q.ct
section
variable {K : PySem.W.Frag} {F : Addr → Bool} {S S1 : Sto} {H H1 : Hp}
theorem Ct.mono {P : DK} {Q : VK} (c : Ct K F S H P Q) (e : Go K F S H S1 H1) : Ct K F S1 H1 P Q := fun d S' h v H' e' => c d S' h v H' (e.trans e')
theorem CtT.mono {P : Bool → Sto → Prop} {Q : Bool → Hp → Prop} (c : CtT K F S H P Q) (e : Go K F S H S1 H1) : CtT K F S1 H1 P Q := fun d S' h H' e' => c d S' h H' (e.trans e')
theorem CtA.mono {P : List D → Sto → Prop} {Q : List V → Hp → Prop} (c : CtA K F S H P Q) (e : Go K F S H S1 H1) : CtA K F S1 H1 P Q := fun d S' h v H' e' => c d S' h v H' (e.trans e')
theorem CtN.mono {P : DSt → Sto → Prop} {Q : St → Hp → Prop} (c : CtN K F S H P Q) (e : Go K F S H S1 H1) : CtN K F S1 H1 P Q := fun d S' h v H' e' => c d S' h v H' (e.trans e')
theorem CtE.mono {P : DEnds} {Q : Ends} (c : CtE K F S H P Q) (e : Go K F S H S1 H1) : CtE K F S1 H1 P Q := ⟨c.nx.mono e, c.rt.mono e, c.bk.mono e, c.ct.mono e⟩
theorem Ct.use {P : DK} {Q : VK} (c : Ct K F S H P Q) (s : Sim K F S H) {v : V} {d : D} (r : Rel K (fz F S H) v d) (h : P d S) : Q v H := c d S h v H (Go.refl s) r
theorem Ct.new {P : DK} {Q : VK} (c : Ct K F S H P Q) (s : Sim K F S H) {p : Addr} {o : HO} (hp : H p = none) {v : V} {d : D} (r : Rel K (fz F S (upd H p o)) v d) (h : P d S) : Q v (upd H p o) := c d S h v _ (s.new hp) r
theorem Ct.newM {P : DK} {Q : VK} (c : Ct K F S H P Q) (s : Sim K F S H) {p : Addr} {o : HO} {u : SO} (hp : H p = none) (k : SOk K (fz F S H) (some o) u) {v : V} {d : D} (r : Rel K (fz F (sup S p u) (upd H p o)) v d) (h : P d (sup S p u)) : Q v (upd H p o) :=
  c d _ h v _ (s.newM hp k) r
theorem Ct.put {P : DK} {Q : VK} (c : Ct K F S H P Q) (s : Sim K F S H) {a : Addr} {o : HO} {u u' : SO} (ha : S a = some u) (k : SOk K (fz F S H) (some o) u') {v : V} {d : D} (r : Rel K (fz F S H) v d) (h : P d (sup S a u')) : Q v (upd H a o) :=
  c d _ h v _ (s.put ha k) (by rw [fz_put ha]; exact r)
end

/-- a reading by data as a reading -/
def lf (K : PySem.W.Frag) (t : DTE) : TE := fun σ H Q => ∃ F δ S P, Sim K F S H ∧ RelS K (fz F S H) σ δ ∧ t δ S P ∧ Ct K F S H P Q
def lfT (K : PySem.W.Frag) (t : DTT) : TT := fun σ H Q => ∃ F δ S P, Sim K F S H ∧ RelS K (fz F S H) σ δ ∧ t δ S P ∧ CtT K F S H P Q
def lfA (K : PySem.W.Frag) (t : DTA) : TA := fun σ H Q => ∃ F δ S P, Sim K F S H ∧ RelS K (fz F S H) σ δ ∧ t δ S P ∧ CtA K F S H P Q
def lfS (K : PySem.W.Frag) (t : DTS) : TS := fun D σ H => ∃ F δ S P, Sim K F S H ∧ RelS K (fz F S H) σ δ ∧ t P δ S ∧ CtE K F S H P D
def DPE (X : Cx) (e : Expr) (t : DTE) : Prop := PE X e (lf X.K t)
def DPT (X : Cx) (e : Expr) (t : DTT) : Prop := PT X e (lfT X.K t)
def DPW (X : Cx) (e : Expr) (t : DTT) : Prop := PW X e (lfT X.K t)
def DPA (X : Cx) (es : List Expr) (t : DTA) : Prop := PA X es (lfA X.K t)
def DPS (X : Cx) (st : Stmt) (t : DTS) : Prop := PS X st (lfS X.K t)
def DPSs (X : Cx) (st : List Stmt) (t : DTS) : Prop := PSs X st (lfS X.K t)
section
variable {X : Cx}
theorem PEw {e : Expr} {t u : TE} (h : PE X e t) (w : ∀ σ H Q, u σ H Q → t σ H Q) : PE X e u := ⟨fun pins s σ H Q I q => h.run pins s σ H Q I (w _ _ _ q)⟩
theorem PTw {e : Expr} {t u : TT} (h : PT X e t) (w : ∀ σ H Q, u σ H Q → t σ H Q) : PT X e u := ⟨fun pins s σ H Q I q => h.run pins s σ H Q I (w _ _ _ q)⟩
theorem PWw {e : Expr} {t u : TT} (h : PW X e t) (w : ∀ σ H Q, u σ H Q → t σ H Q) : PW X e u := ⟨fun wh pins s σ H Q I q => h.run wh pins s σ H Q I (w _ _ _ q)⟩
theorem PAw {e : List Expr} {t u : TA} (h : PA X e t) (w : ∀ σ H Q, u σ H Q → t σ H Q) : PA X e u := ⟨fun pos pins s σ H Q I q => h.run pos pins s σ H Q I (w _ _ _ q)⟩
theorem PSw {e : Stmt} {t u : TS} (h : PS X e t) (w : ∀ D σ H, u D σ H → t D σ H) : PS X e u := ⟨fun pins s σ H Q I q => h.run pins s σ H Q I (w _ _ _ q)⟩
theorem PSsw {e : List Stmt} {t u : TS} (h : PSs X e t) (w : ∀ D σ H, u D σ H → t D σ H) : PSs X e u := ⟨fun pins s σ H Q I q => h.run pins s σ H Q I (w _ _ _ q)⟩
end
end L3

set_option Elab.async false
set_option maxRecDepth 100000
set_option linter.all false
namespace L3
open PySem L2
/-! ### rules: names, constants, operators -/
abbrev slot : DSt → Nat → Option D
  | [], _ => none
  | x :: _, 0 => x
  | _ :: r, i + 1 => slot r i
abbrev dset : DSt → Nat → Option D → DSt
  | [], _, _ => []
  | _ :: r, 0, d => d :: r
  | x :: r, i + 1, d => x :: dset r i d
theorem dset_eq : ∀ (δ : DSt) (i : Nat) (d : Option D), dset δ i d = δ.set i d
  | [], _, _ => rfl
  | _ :: _, 0, _ => rfl
  | x :: r, i + 1, d => by simp only [dset, List.set_cons_succ, dset_eq r i d]
theorem RelS.dset {K : PySem.W.Frag} {G : Hp} {v : V} {d : D} {σ : St} {δ : DSt} (h : Rel K G v d) (i : Nat) (r : RelS K G σ δ) : RelS K G (σ.set i (some v)) (L3.dset δ i (some d)) := by
  rw [dset_eq]; exact r.set h i
theorem slot_get : ∀ {δ : DSt} {i : Nat} {d : D}, slot δ i = some d → δ[i]? = some (some d)
  | [], _, _, h => by cases h
  | x :: r, 0, d, h => by simp only [slot] at h; subst h; rfl
  | x :: r, i + 1, d, h => by simpa using slot_get (δ := r) (i := i) h
abbrev dVar (i : Nat) : DTE := fun δ S Q => match slot δ i with | some d => Q d S | none => False
abbrev dC (d : D) : DTE := fun _ S Q => Q d S
abbrev dOp (r : D → D → Sto → DK → Prop) (ta tb : DTE) : DTE := fun δ S Q => ta δ S fun x S1 => tb δ S1 fun y S2 => r x y S2 Q
abbrev dUn (r : D → Sto → DK → Prop) (ta : DTE) : DTE := fun δ S Q => ta δ S fun x S1 => r x S1 Q
abbrev dNil : DTA := fun _ S Q => Q [] S
abbrev dCons (ta : DTE) (tr : DTA) : DTA := fun δ S Q => ta δ S fun x S1 => tr δ S1 fun xs S2 => Q (x :: xs) S2
abbrev dTup (t : DTA) : DTE := fun δ S Q => t δ S fun ds S1 => ds.length ≤ 1000 ∧ Q (.tup ds) S1
abbrev dLst (t : DTA) : DTE := fun δ S Q => t δ S fun ds S1 => ds.length ≤ 1000 ∧ Q (.lst ds) S1
abbrev dLstM (t : DTA) : DTE := fun δ S Q => t δ S fun ds S1 => ds.length ≤ 1000 ∧ ∀ p, S1 p = none → Q (.ref p) (sup S1 p (.lst ds))
abbrev dTest (t : DTE) : DTT := fun δ S Q => t δ S fun x S1 => match x with | .bl b => Q b S1 | _ => False
abbrev dChain (r r' : D → D → Sto → DK → Prop) (ta tb tc : DTE) : DTE := fun δ S Q => ta δ S fun x S1 => tb δ S1 fun y S2 => r x y S2 fun z S3 => match z with
  | .bl k => if k = true then tc δ S3 fun w S4 => r' y w S4 Q else Q (.bl false) S3
  | _ => False
abbrev dAnd (t u : DTT) : DTT := fun δ S Q => t δ S fun c S1 => if c = true then u δ S1 Q else Q false S1
abbrev dOr (t u : DTT) : DTT := fun δ S Q => t δ S fun c S1 => if c = true then Q true S1 else u δ S1 Q
abbrev dNot (t : DTT) : DTT := fun δ S Q => t δ S fun c S1 => Q (!c) S1
abbrev dAndV (ta tb : DTE) : DTE := fun δ S Q => ta δ S fun x S1 => match x with | .bl c => if c = true then tb δ S1 Q else Q (.bl false) S1 | _ => False
abbrev dOrV (ta tb : DTE) : DTE := fun δ S Q => ta δ S fun x S1 => match x with | .bl c => if c = true then Q (.bl true) S1 else tb δ S1 Q | _ => False
abbrev dNotV (ta : DTE) : DTE := fun δ S Q => ta δ S fun x S1 => match x with | .bl c => Q (.bl (!c)) S1 | _ => False
abbrev dIfE (t : DTT) (ta tb : DTE) : DTE := fun δ S Q => t δ S fun c S1 => if c = true then ta δ S1 Q else tb δ S1 Q

/-- a value's operation, lifted -/
def LR2 (K : PySem.W.Frag) (r : R2) (r' : D → D → Sto → DK → Prop) : Prop := ∀ x y dx dy F S H P Q, Sim K F S H → Rel K (fz F S H) x dx → Rel K (fz F S H) y dy → r' dx dy S P → Ct K F S H P Q → r x y H Q
def LR1 (K : PySem.W.Frag) (r : V → Hp → VK → Prop) (r' : D → Sto → DK → Prop) : Prop := ∀ x dx F S H P Q, Sim K F S H → Rel K (fz F S H) x dx → r' dx S P → Ct K F S H P Q → r x H Q
def LRL (K : PySem.W.Frag) (r : List V → Hp → VK → Prop) (r' : List D → Sto → DK → Prop) : Prop := ∀ xs ds F S H P Q, Sim K F S H → RelL K (fz F S H) xs ds → r' ds S P → Ct K F S H P Q → r xs H Q
def LRM (K : PySem.W.Frag) (r : V → List V → Hp → VK → Prop) (r' : D → List D → Sto → DK → Prop) : Prop := ∀ x xs dx ds F S H P Q, Sim K F S H → Rel K (fz F S H) x dx → RelL K (fz F S H) xs ds → r' dx ds S P → Ct K F S H P Q → r x xs H Q
theorem LR2.or {K : PySem.W.Frag} {r s : R2} {r' s' : D → D → Sto → DK → Prop} (h : LR2 K r r') (g : LR2 K s s') : LR2 K (fun x y H Q => r x y H Q ∨ s x y H Q) (fun x y S Q => r' x y S Q ∨ s' x y S Q) :=
  fun x y dx dy F S H P Q sm rx ry q c => q.elim (fun q => .inl (h x y dx dy F S H P Q sm rx ry q c)) fun q => .inr (g x y dx dy F S H P Q sm rx ry q c)
/-- an operation with its reading by data -/
structure DOp (X : Cx) (f : Value → Value → Sem Value) (r' : D → D → Sto → DK → Prop) : Prop where
  ex : ∃ r, OpR X f r ∧ LR2 X.K r r'
structure DIx (X : Cx) (r' : D → D → Sto → DK → Prop) : Prop where
  ex : ∃ r, IxR X r ∧ LR2 X.K r r'
structure DUn (X : Cx) (f : Value → Sem Value) (r' : D → Sto → DK → Prop) : Prop where
  ex : ∃ r, UnR X f r ∧ LR1 X.K r r'
structure DCall (X : Cx) (f : Value) (r' : List D → Sto → DK → Prop) : Prop where
  ex : ∃ r, CallR X f r ∧ LRL X.K r r'
theorem DOp.or {X : Cx} {f : Value → Value → Sem Value} {r s : D → D → Sto → DK → Prop} (h : DOp X f r) (g : DOp X f s) : DOp X f (fun x y S Q => r x y S Q ∨ s x y S Q) := by
  obtain ⟨a, h1, h2⟩ := h.ex
  obtain ⟨b, g1, g2⟩ := g.ex
  exact ⟨_, h1.or g1, h2.or g2⟩
theorem DOp.imp {X : Cx} {f : Value → Value → Sem Value} {r s : D → D → Sto → DK → Prop} (h : DOp X f r) (w : ∀ x y S Q, s x y S Q → r x y S Q) : DOp X f s := by
  obtain ⟨a, h1, h2⟩ := h.ex
  exact ⟨_, h1, fun x y dx dy F S H P Q sm rx ry q c => h2 x y dx dy F S H P Q sm rx ry (w _ _ _ _ q) c⟩
theorem DIx.or {X : Cx} {r s : D → D → Sto → DK → Prop} (h : DIx X r) (g : DIx X s) : DIx X (fun x y S Q => r x y S Q ∨ s x y S Q) := by
  obtain ⟨a, h1, h2⟩ := h.ex
  obtain ⟨b, g1, g2⟩ := g.ex
  exact ⟨_, h1.or g1, h2.or g2⟩
theorem DIx.imp {X : Cx} {r s : D → D → Sto → DK → Prop} (h : DIx X r) (w : ∀ x y S Q, s x y S Q → r x y S Q) : DIx X s := by
  obtain ⟨a, h1, h2⟩ := h.ex
  exact ⟨_, h1, fun x y dx dy F S H P Q sm rx ry q c => h2 x y dx dy F S H P Q sm rx ry (w _ _ _ _ q) c⟩
theorem DCall.or {X : Cx} {f : Value} {r s : List D → Sto → DK → Prop} (h : DCall X f r) (g : DCall X f s) : DCall X f (fun x S Q => r x S Q ∨ s x S Q) := by
  obtain ⟨a, h1, h2⟩ := h.ex
  obtain ⟨b, g1, g2⟩ := g.ex
  exact ⟨_, h1.or g1, fun xs ds F S H P Q sm rx q c => q.elim (fun q => .inl (h2 xs ds F S H P Q sm rx q c)) fun q => .inr (g2 xs ds F S H P Q sm rx q c)⟩
theorem DCall.imp {X : Cx} {f : Value} {r s : List D → Sto → DK → Prop} (h : DCall X f r) (w : ∀ x S Q, s x S Q → r x S Q) : DCall X f s := by
  obtain ⟨a, h1, h2⟩ := h.ex
  exact ⟨_, h1, fun xs ds F S H P Q sm rx q c => h2 xs ds F S H P Q sm rx (w _ _ _ q) c⟩

section
variable {X : Cx} {a b c : Expr} {ta tb tc : DTE} {tA tB' : DTT} {t : DTA} {pos : Pos} {es rest : List Expr} {r r' : D → D → Sto → DK → Prop}
theorem dpe_var (i : Nat) {x : Str} (hN : X.N[i]? = some x := by rfl) (hv : Vis X.env.scope x := by first | exact Or.inl rfl | exact Or.inr (Or.inl rfl) | exact Or.inr (Or.inr rfl)) (hd : (x == ("__debug__" : Str)) = false := by decide)
    (hcd : (x == ("__classdict__" : Str)) = false := by decide) : DPE X (.Name x pos) (dVar i) := PEw (pe_var hN hv hd hcd) fun σ H Q ⟨F, δ, S, P, sm, rs, h, c⟩ => by
  simp only [dVar] at h
  cases e : slot δ i with
  | none => rw [e] at h; exact h.elim
  | some d =>
    rw [e] at h
    obtain ⟨v, h1, h2⟩ := rs.get (slot_get e)
    exact ⟨v, h1, c.use sm h2 h⟩
theorem lf_C {K : PySem.W.Frag} {v : V} {d : D} (hr : ∀ G, Rel K G v d) (σ : St) (H : Hp) (Q : VK) (h : lf K (dC d) σ H Q) : tC v σ H Q := by
  obtain ⟨F, δ, S, P, sm, rs, h, c⟩ := h
  exact c.use sm (hr _) h
theorem dpe_int {i : Int} {j} : DPE X (.Constant (.int i) j pos) (dC (.int i)) := PEw pe_int (lf_C fun _ => .int i)
theorem dpe_bl {i : Bool} {j} : DPE X (.Constant (.bool i) j pos) (dC (.bl i)) := PEw pe_bl (lf_C fun _ => .bl i)
theorem dpe_non {j} : DPE X (.Constant .none j pos) (dC .non) := PEw pe_non (lf_C fun _ => .non)
theorem dpe_str {i : Str} {j} : DPE X (.Constant (.str i) j pos) (dC (.str i)) := PEw pe_str (lf_C fun _ => .str i)
/-- a module's constant -/
theorem dpe_glob {x : Str} {v : V} {d : D} {u : Value} (hg : Gl X x) (hm : X.mg x = some u) (q : RelV v u) (hr : ∀ G, Rel X.K G v d) (hd : (x == ("__debug__" : Str)) = false := by decide) : DPE X (.Name x pos) (dC d) :=
  PEw (pe_glob hg hm q hd) (lf_C hr)
theorem dpe_ty {x : Str} {n : String} (hg : Gl X x) (hm : X.mg x = none) (hv : bootBuiltins x = some (.type n)) (hn : x ≠ "__name__" := by decide) (hd : (x == ("__debug__" : Str)) = false := by decide) : DPE X (.Name x pos) (dC (.ty n)) :=
  PEw (pe_bltn (v := .ty n) hg hm hv rfl hn hd) (lf_C fun _ => .ty n)
theorem lf_op {K : PySem.W.Frag} {q : R2} (hl : LR2 K q r) (σ : St) (H : Hp) (Q : VK) (h : lf K (dOp r ta tb) σ H Q) : tOp q (lf K ta) (lf K tb) σ H Q := by
  obtain ⟨F, δ, S, P, sm, rs, h, c⟩ := h
  refine ⟨F, δ, S, _, sm, rs, h, fun dx S1 h1 x H1 g1 rx => ?_⟩
  refine ⟨F, δ, S1, _, g1.sim, rs.mono g1.same, h1, fun dy S2 h2 y H2 g2 ry => ?_⟩
  exact hl x y dx dy F S2 H2 P Q g2.sim (rx.mono g2.same) ry h2 (c.mono (g1.trans g2))
theorem dpe_op {op : Operator} (ho : DOp X (binaryOp op) r) (ha : DPE X a ta) (hb : DPE X b tb) : DPE X (.BinOp a op b pos) (dOp r ta tb) := by
  obtain ⟨q, h1, h2⟩ := ho.ex
  exact PEw (pe_op h1 ha hb) (lf_op h2)
theorem dpe_un {op : UnaryOp} {r : D → Sto → DK → Prop} (ho : DUn X (unaryOp op) r) (ha : DPE X a ta) : DPE X (.UnaryOp op a pos) (dUn r ta) := by
  obtain ⟨q, h1, h2⟩ := ho.ex
  refine PEw (pe_un h1 ha) fun σ H Q ⟨F, δ, S, P, sm, rs, h, c⟩ => ?_
  exact ⟨F, δ, S, _, sm, rs, h, fun dx S1 h1 x H1 g1 rx => h2 x dx F S1 H1 P Q g1.sim rx h1 (c.mono g1)⟩
theorem dpe_cmp {op : CmpOp} (ho : DOp X (compareOp op) r) (ha : DPE X a ta) (hb : DPE X b tb) (hm : behindInMarks op b = false := by first | exact nomark _ | rfl | with_unfolding_all rfl) : DPE X (.Compare a [op] [b] pos) (dOp r ta tb) := by
  obtain ⟨q, h1, h2⟩ := ho.ex
  exact PEw (pe_cmpR h1 ha hb hm) (lf_op h2)
theorem lf_test {K : PySem.W.Frag} {te : DTE} (σ : St) (H : Hp) (Q : Bool → Hp → Prop) (h : lfT K (dTest te) σ H Q) : lf K te σ H (fun x H' => ∃ k, x = .bl k ∧ Q k H') := by
  obtain ⟨F, δ, S, P, sm, rs, h, c⟩ := h
  refine ⟨F, δ, S, _, sm, rs, h, fun d S1 h1 v H1 g1 r1 => ?_⟩
  cases r1 <;> first | exact h1.elim | skip
  exact ⟨_, rfl, c _ _ h1 _ g1⟩
theorem dpt_cmp {op : CmpOp} (ho : DOp X (compareOp op) r) (ha : DPE X a ta) (hb : DPE X b tb) (hm : behindInMarks op b = false := by first | exact nomark _ | rfl | with_unfolding_all rfl) : DPT X (.Compare a [op] [b] pos) (dTest (dOp r ta tb)) := by
  obtain ⟨q, h1, h2⟩ := ho.ex
  refine PTw (pt_cmpR h1 ha hb hm) fun σ H Q h => ?_
  exact lf_op h2 σ H _ (lf_test σ H Q h)
theorem lf_chain {K : PySem.W.Frag} {q q' : R2} (hl : LR2 K q r) (hl' : LR2 K q' r') (σ : St) (H : Hp) (Q : VK) (h : lf K (dChain r r' ta tb tc) σ H Q) : tChain q q' (lf K ta) (lf K tb) (lf K tc) σ H Q := by
  obtain ⟨F, δ, S, P, sm, rs, h, c⟩ := h
  refine ⟨F, δ, S, _, sm, rs, h, fun dx S1 h1 x H1 g1 rx => ?_⟩
  refine ⟨F, δ, S1, _, g1.sim, rs.mono g1.same, h1, fun dy S2 h2 y H2 g2 ry => ?_⟩
  refine hl x y dx dy F S2 H2 _ _ g2.sim (rx.mono g2.same) ry h2 fun dz S3 h3 z H3 g3 rz => ?_
  cases rz <;> first | exact h3.elim | skip
  rename_i k
  refine ⟨k, rfl, ?_⟩
  have h3 : if k = true then tc δ S3 fun w S4 => r' dy w S4 P else P (.bl false) S3 := h3
  cases k with
  | false => exact (c.mono ((g1.trans g2).trans g3)).use g3.sim (.bl false) h3
  | true =>
    refine ⟨F, δ, S3, _, g3.sim, rs.mono ((g1.same.trans g2.same).trans g3.same), h3, fun dw S4 h4 w H4 g4 rw' => ?_⟩
    exact hl' y w dy dw F S4 H4 P Q g4.sim (ry.mono (g3.same.trans g4.same)) rw' h4 (c.mono (((g1.trans g2).trans g3).trans g4))
theorem dpe_chain {op op' : CmpOp} (ho : DOp X (compareOp op) r) (ho' : DOp X (compareOp op') r') (ha : DPE X a ta) (hb : DPE X b tb) (hc : DPE X c tc)
    (hm : lastMarks [op, op'] [b, c] = false := by with_unfolding_all rfl) : DPE X (.Compare a [op, op'] [b, c] pos) (dChain r r' ta tb tc) := by
  obtain ⟨q, h1, h2⟩ := ho.ex
  obtain ⟨q', h1', h2'⟩ := ho'.ex
  exact PEw (pe_chain h1 h1' ha hb hc hm) (lf_chain h2 h2')
theorem dpt_chain {op op' : CmpOp} (ho : DOp X (compareOp op) r) (ho' : DOp X (compareOp op') r') (ha : DPE X a ta) (hb : DPE X b tb) (hc : DPE X c tc)
    (hm : lastMarks [op, op'] [b, c] = false := by with_unfolding_all rfl) : DPT X (.Compare a [op, op'] [b, c] pos) (dTest (dChain r r' ta tb tc)) := by
  obtain ⟨q, h1, h2⟩ := ho.ex
  obtain ⟨q', h1', h2'⟩ := ho'.ex
  refine PTw (pt_chain h1 h1' ha hb hc hm) fun σ H Q h => ?_
  exact lf_chain h2 h2' σ H _ (lf_test σ H Q h)
theorem dpt_val (h : DPE X a ta) (he : ∀ whole, isTrue a X.env whole = (do let v ← whole; standAt a.pos; holding [v] (truthy v)) := by intro _; rfl) : DPT X a (dTest ta) :=
  PTw (pt_val h he) fun σ H Q h => lf_test σ H Q h
theorem dpw_and1 (ha : DPT X a tA) : DPW X (.BoolOp .And [a] pos) tA := pw_and1 ha
theorem dpw_or1 (ha : DPT X a tA) : DPW X (.BoolOp .Or [a] pos) tA := pw_or1 ha
theorem DPW.pt {e : Expr} (h : DPW X e tA) : DPT X e tA := PW.pt h
theorem dpw_and (ha : DPT X a tA) (hb : DPW X (.BoolOp .And (b :: rest) pos) tB') : DPW X (.BoolOp .And (a :: b :: rest) pos) (dAnd tA tB') :=
  PWw (pw_and ha hb) fun σ H Q ⟨F, δ, S, P, sm, rs, h, c⟩ => ⟨F, δ, S, _, sm, rs, h, fun k S1 h1 H1 g1 => by
    cases k with
    | false => exact c _ _ h1 _ g1
    | true => exact ⟨F, δ, S1, P, g1.sim, rs.mono g1.same, h1, c.mono g1⟩⟩
theorem dpw_or (ha : DPT X a tA) (hb : DPW X (.BoolOp .Or (b :: rest) pos) tB') : DPW X (.BoolOp .Or (a :: b :: rest) pos) (dOr tA tB') :=
  PWw (pw_or ha hb) fun σ H Q ⟨F, δ, S, P, sm, rs, h, c⟩ => ⟨F, δ, S, _, sm, rs, h, fun k S1 h1 H1 g1 => by
    cases k with
    | true => exact c _ _ h1 _ g1
    | false => exact ⟨F, δ, S1, P, g1.sim, rs.mono g1.same, h1, c.mono g1⟩⟩
theorem dpt_not (ha : DPT X a tA) : DPT X (.UnaryOp .Not a pos) (dNot tA) :=
  PTw (pt_not ha) fun σ H Q ⟨F, δ, S, P, sm, rs, h, c⟩ => ⟨F, δ, S, _, sm, rs, h, fun k S1 h1 H1 g1 => c _ _ h1 _ g1⟩
theorem dpe_one {op} (h : DPE X a ta) : DPE X (.BoolOp op [a] pos) ta := pe_one h
theorem dpe_and (ha : DPE X a ta) (hb : DPE X (.BoolOp .And (b :: rest) pos) tb) : DPE X (.BoolOp .And (a :: b :: rest) pos) (dAndV ta tb) :=
  PEw (pe_and ha hb) fun σ H Q ⟨F, δ, S, P, sm, rs, h, c⟩ => ⟨F, δ, S, _, sm, rs, h, fun d S1 h1 x H1 g1 rx => by
    cases rx <;> first | exact h1.elim | skip
    rename_i k
    refine ⟨k, rfl, ?_⟩
    cases k with
    | false => exact (c.mono g1).use g1.sim (.bl false) h1
    | true => exact ⟨F, δ, S1, P, g1.sim, rs.mono g1.same, h1, c.mono g1⟩⟩
theorem dpe_or (ha : DPE X a ta) (hb : DPE X (.BoolOp .Or (b :: rest) pos) tb) : DPE X (.BoolOp .Or (a :: b :: rest) pos) (dOrV ta tb) :=
  PEw (pe_or ha hb) fun σ H Q ⟨F, δ, S, P, sm, rs, h, c⟩ => ⟨F, δ, S, _, sm, rs, h, fun d S1 h1 x H1 g1 rx => by
    cases rx <;> first | exact h1.elim | skip
    rename_i k
    refine ⟨k, rfl, ?_⟩
    cases k with
    | true => exact (c.mono g1).use g1.sim (.bl true) h1
    | false => exact ⟨F, δ, S1, P, g1.sim, rs.mono g1.same, h1, c.mono g1⟩⟩
theorem dpe_not (ha : DPE X a ta) : DPE X (.UnaryOp .Not a pos) (dNotV ta) :=
  PEw (pe_not ha) fun σ H Q ⟨F, δ, S, P, sm, rs, h, c⟩ => ⟨F, δ, S, _, sm, rs, h, fun d S1 h1 x H1 g1 rx => by
    cases rx <;> first | exact h1.elim | skip
    exact ⟨_, rfl, (c.mono g1).use g1.sim (.bl _) h1⟩⟩
theorem dpe_ifExp (hc : DPT X c tA) (ha : DPE X a ta) (hb : DPE X b tb) : DPE X (.IfExp c a b pos) (dIfE tA ta tb) :=
  PEw (pe_ifExp hc ha hb) fun σ H Q ⟨F, δ, S, P, sm, rs, h, c⟩ => ⟨F, δ, S, _, sm, rs, h, fun k S1 h1 H1 g1 => by
    cases k with
    | true => exact ⟨F, δ, S1, P, g1.sim, rs.mono g1.same, h1, c.mono g1⟩
    | false => exact ⟨F, δ, S1, P, g1.sim, rs.mono g1.same, h1, c.mono g1⟩⟩
theorem dpa_nil : DPA X [] dNil := PAw pa_nil fun σ H Q ⟨F, δ, S, P, sm, rs, h, c⟩ => c _ _ h _ _ (Go.refl sm) .nil
theorem dpa_cons {e : Expr} {te : DTE} (ha : DPE X e te) (hr : DPA X es t) (hs : starEach (e :: es) X.env = (false, eval e X.env) :: starEach es X.env := by rfl) : DPA X (e :: es) (dCons te t) :=
  PAw (pa_cons ha hr hs) fun σ H Q ⟨F, δ, S, P, sm, rs, h, c⟩ => ⟨F, δ, S, _, sm, rs, h, fun d S1 h1 x H1 g1 rx =>
    ⟨F, δ, S1, _, g1.sim, rs.mono g1.same, h1, fun ds S2 h2 xs H2 g2 rxs => c _ _ h2 _ _ (g1.trans g2) (.cons (rx.mono g2.same) rxs)⟩⟩
theorem fz_newT {K : PySem.W.Frag} {F : Addr → Bool} {S : Sto} {H : Hp} {p : Addr} {xs : List V} {ds : List D} (sm : Sim K F S H) (hp : H p = none) (r : RelL K (fz F S H) xs ds) : Rel K (fz F S (upd H p (.tup xs))) (.ref p) (.tup ds) :=
  .tup (.of (fz_new sm hp)) (r.mono (same_new hp))
theorem fz_newL {K : PySem.W.Frag} {F : Addr → Bool} {S : Sto} {H : Hp} {p : Addr} {xs : List V} {ds : List D} (sm : Sim K F S H) (hp : H p = none) (r : RelL K (fz F S H) xs ds) : Rel K (fz F S (upd H p (.lst xs))) (.ref p) (.lst ds) :=
  .lst (fz_new sm hp) (r.mono (same_new hp))
theorem dpe_tup {x1} (h : DPA X es t) : DPE X (.Tuple es x1 pos) (dTup t) :=
  PEw (pe_tup h) fun σ H Q ⟨F, δ, S, P, sm, rs, h, c⟩ => ⟨F, δ, S, _, sm, rs, h, fun ds S1 ⟨hn, h1⟩ xs H1 g1 rx => ⟨by rw [rx.length, sizeLine_eq]; omega, fun p hp =>
    (c.mono g1).new g1.sim hp (fz_newT g1.sim hp rx) h1⟩⟩
theorem dpe_lst (h : DPA X es t) : DPE X (.List es pos) (dLst t) :=
  PEw (pe_lst h) fun σ H Q ⟨F, δ, S, P, sm, rs, h, c⟩ => ⟨F, δ, S, _, sm, rs, h, fun ds S1 ⟨hn, h1⟩ xs H1 g1 rx => ⟨by rw [rx.length, sizeLine_eq]; omega, fun p hp =>
    (c.mono g1).new g1.sim hp (fz_newL g1.sim hp rx) h1⟩⟩
theorem dpe_lstM (h : DPA X es t) : DPE X (.List es pos) (dLstM t) :=
  PEw (pe_lst h) fun σ H Q ⟨F, δ, S, P, sm, rs, h, c⟩ => ⟨F, δ, S, _, sm, rs, h, fun ds S1 ⟨hn, h1⟩ xs H1 g1 rx => ⟨by rw [rx.length, sizeLine_eq]; omega, fun p hp =>
    (c.mono g1).newM (u := .lst ds) g1.sim hp ⟨xs, rfl, rx⟩ (.ref p) (h1 p (g1.sim.none hp).2)⟩⟩
theorem lf_call {K : PySem.W.Frag} {q : List V → Hp → VK → Prop} {r : List D → Sto → DK → Prop} (hl : LRL K q r) (σ : St) (H : Hp) (Q : VK) (h : lf K (fun δ S Q => t δ S fun ds S1 => r ds S1 Q) σ H Q) : tCB q (lfA K t) σ H Q := by
  obtain ⟨F, δ, S, P, sm, rs, h, c⟩ := h
  exact ⟨F, δ, S, _, sm, rs, h, fun ds S1 h1 xs H1 g1 rx => hl xs ds F S1 H1 P Q g1.sim rx h1 (c.mono g1)⟩
end
abbrev dCB (r : List D → Sto → DK → Prop) (t : DTA) : DTE := fun δ S Q => t δ S fun ds S1 => r ds S1 Q
section
variable {X : Cx} {a b c e : Expr} {ta tb tc te : DTE} {tA tB' : DTT} {t : DTA} {pos p : Pos} {es rest : List Expr} {r r' : D → D → Sto → DK → Prop} {x : Str} {id T : String}
/-- a built-in function by its name -/
theorem dpe_callB {r : List D → Sto → DK → Prop} (hc : DCall X (.builtin id) r) (hg : Gl X x) (hm : X.mg x = none) (hv : bootBuiltins x = some (.builtin id)) (ha : DPA X (e :: es) t) (hn : x ≠ "__name__" := by decide) (hdb : (x == ("__debug__" : Str)) = false := by decide)
    (he : starEach (e :: es) X.env = (false, eval e X.env) :: starEach es X.env := by rfl) (hpl : (backTo pos (starEach es X.env)).any (·.1) = false := by rfl) : DPE X (.Call (.Name x p) (e :: es) [] pos) (dCB r t) := by
  obtain ⟨q, h1, h2⟩ := hc.ex
  exact PEw (pe_callB h1 hg hm hv ha hn hdb he hpl) (lf_call h2)
theorem dpe_callTy {r : List D → Sto → DK → Prop} (hc : DCall X (.type T) r) (hg : Gl X x) (hm : X.mg x = none) (hv : bootBuiltins x = some (.type T)) (ha : DPA X (e :: es) t) (hn : x ≠ "__name__" := by decide) (hdb : (x == ("__debug__" : Str)) = false := by decide)
    (he : starEach (e :: es) X.env = (false, eval e X.env) :: starEach es X.env := by rfl) (hpl : (backTo pos (starEach es X.env)).any (·.1) = false := by rfl) : DPE X (.Call (.Name x p) (e :: es) [] pos) (dCB r t) := by
  obtain ⟨q, h1, h2⟩ := hc.ex
  exact PEw (pe_callTy h1 hg hm hv ha hn hdb he hpl) (lf_call h2)
/-- a subscript -/
theorem dpe_ix (ho : DIx X r) (ha : DPE X a ta) (hb : DPE X b tb) (hs : PlainIx b := by exact fun _ _ => rfl) : DPE X (.Subscript a b pos) (dOp r ta tb) := by
  obtain ⟨q, h1, h2⟩ := ho.ex
  exact PEw (pe_ix h1 ha hb hs) (lf_op h2)
end
/-! ### slices -/
abbrev DTO := DSt → Sto → (Option Int → Sto → Prop) → Prop
def CtO (K : PySem.W.Frag) (F : Addr → Bool) (S : Sto) (H : Hp) (P : Option Int → Sto → Prop) (Q : Option Int → Hp → Prop) : Prop := ∀ b S', P b S' → ∀ H', Go K F S H S' H' → Q b H'
def lfO (K : PySem.W.Frag) (t : DTO) : TO := fun σ H Q => ∃ F δ S P, Sim K F S H ∧ RelS K (fz F S H) σ δ ∧ t δ S P ∧ CtO K F S H P Q
def DPO (X : Cx) (e : Option Expr) (t : DTO) : Prop := PO X e (lfO X.K t)
abbrev dNoPart : DTO := fun _ S Q => Q none S
abbrev dPart (t : DTE) : DTO := fun δ S Q => t δ S fun x S1 => match x with | .int i => Q (some i) S1 | _ => False
abbrev dSl (r : D → Option Int → Option Int → Sto → DK → Prop) (te : DTE) (tl th : DTO) : DTE := fun δ S Q => te δ S fun x S1 => tl δ S1 fun l S2 => th δ S2 fun u S3 => r x l u S3 Q
structure DSlR (X : Cx) (r' : D → Option Int → Option Int → Sto → DK → Prop) : Prop where
  ex : ∃ r, SlR X r ∧ ∀ x dx lo hi F S H P Q, Sim X.K F S H → Rel X.K (fz F S H) x dx → r' dx lo hi S P → Ct X.K F S H P Q → r x lo hi H Q
theorem DSlR.or {X : Cx} {r s : D → Option Int → Option Int → Sto → DK → Prop} (h : DSlR X r) (g : DSlR X s) : DSlR X (fun x l u S Q => r x l u S Q ∨ s x l u S Q) := by
  obtain ⟨a, h1, h2⟩ := h.ex
  obtain ⟨b, g1, g2⟩ := g.ex
  exact ⟨_, h1.or g1, fun x dx lo hi F S H P Q sm rx q c => q.elim (fun q => .inl (h2 x dx lo hi F S H P Q sm rx q c)) fun q => .inr (g2 x dx lo hi F S H P Q sm rx q c)⟩
theorem DSlR.imp {X : Cx} {r s : D → Option Int → Option Int → Sto → DK → Prop} (h : DSlR X r) (w : ∀ x l u S Q, s x l u S Q → r x l u S Q) : DSlR X s := by
  obtain ⟨a, h1, h2⟩ := h.ex
  exact ⟨_, h1, fun x dx lo hi F S H P Q sm rx q c => h2 x dx lo hi F S H P Q sm rx (w _ _ _ _ _ q) c⟩
section
variable {X : Cx} {a b c e : Expr} {ta tb tc te : DTE} {tl th : DTO} {pos p2 : Pos} {lo hi : Option Expr}
theorem dpo_none : DPO X none dNoPart := ⟨fun pins s σ H Q I ⟨F, δ, S, P, sm, rs, h, c⟩ => po_none.run pins s σ H Q I (c _ _ h _ (Go.refl sm))⟩
theorem dpo_some (h : DPE X e te) : DPO X (some e) (dPart te) := ⟨fun pins s σ H Q I ⟨F, δ, S, P, sm, rs, hh, c⟩ => (po_some h).run pins s σ H Q I (by
  refine ⟨F, δ, S, _, sm, rs, hh, fun d S1 h1 x H1 g1 rx => ?_⟩
  cases rx <;> first | exact h1.elim | skip
  exact ⟨_, rfl, c _ _ h1 _ g1⟩)⟩
theorem dpe_slice {r : D → Option Int → Option Int → Sto → DK → Prop} (hr : DSlR X r) (he : DPE X e te) (hl : DPO X lo tl) (hu : DPO X hi th) : DPE X (.Subscript e (.Slice lo hi none p2) pos) (dSl r te tl th) := by
  obtain ⟨q, h1, h2⟩ := hr.ex
  refine PEw (pe_slice h1 he hl hu) fun σ H Q ⟨F, δ, S, P, sm, rs, h, c⟩ => ?_
  refine ⟨F, δ, S, _, sm, rs, h, fun dx S1 k1 x H1 g1 rx => ?_⟩
  refine ⟨F, δ, S1, _, g1.sim, rs.mono g1.same, k1, fun l S2 k2 H2 g2 => ?_⟩
  refine ⟨F, δ, S2, _, g2.sim, rs.mono (g1.same.trans g2.same), k2, fun u S3 k3 H3 g3 => ?_⟩
  exact h2 x dx l u F S3 H3 P Q g3.sim (rx.mono (g2.same.trans g3.same)) k3 (c.mono ((g1.trans g2).trans g3))
end
end L3

set_option Elab.async false
set_option maxRecDepth 100000
set_option linter.all false
set_option maxHeartbeats 2000000
namespace L3
open PySem L2
/-! ### operations on data -/
mutual
def toP : D → PyData
  | .non => .none
  | .bl b => .bool b
  | .int i => .int i
  | .str x => .str x
  | .tup ds => .tuple (toPs ds)
  | .lst ds => .list (toPs ds)
  | .ro ds => .list (toPs ds)
  | .ref _ => .none
  | .ty _ => .none
def toPs : List D → List PyData
  | [] => []
  | d :: ds => toP d :: toPs ds
end
mutual
/-- data that == may be asked of -/
def okE : D → Bool
  | .non => true
  | .bl _ => true
  | .int _ => true
  | .str x => PyData.canLay0 (.str x)
  | .tup ds => okEs ds
  | .lst ds => okEs ds
  | .ro ds => okEs ds
  | .ref _ => false
  | .ty _ => false
def okEs : List D → Bool
  | [] => true
  | d :: ds => okE d && okEs ds
end
mutual
def dep : D → Nat
  | .tup ds => deps ds + 1
  | .lst ds => deps ds + 1
  | .ro ds => deps ds + 1
  | _ => 0
def deps : List D → Nat
  | [] => 0
  | d :: ds => max (dep d) (deps ds)
end
def eqv (x y : D) : Bool := PyData.eqv (toP x) (toP y)
mutual
theorem okE_lay : ∀ d : D, okE d = true → (toP d).canLay0 = true
  | .non, _ => by simp only [toP, PyData.canLay0]
  | .bl _, _ => by simp only [toP, PyData.canLay0]
  | .int _, _ => by simp only [toP, PyData.canLay0]
  | .str x, h => by simpa only [okE, toP] using h
  | .tup ds, h => by simp only [okE] at h; simp only [toP, PyData.canLay0]; exact okEs_lay ds h
  | .lst ds, h => by simp only [okE] at h; simp only [toP, PyData.canLay0]; exact okEs_lay ds h
  | .ro ds, h => by simp only [okE] at h; simp only [toP, PyData.canLay0]; exact okEs_lay ds h
  | .ref _, h => by simp [okE] at h
  | .ty _, h => by simp [okE] at h
theorem okEs_lay : ∀ ds : List D, okEs ds = true → PyData.canLayAll0 (toPs ds) = true
  | [], _ => by simp only [toPs, PyData.canLayAll0]
  | d :: ds, h => by
    simp only [okEs, Bool.and_eq_true] at h
    simp only [toPs, PyData.canLayAll0, okE_lay d h.1, okEs_lay ds h.2, Bool.and_self]
end
mutual
theorem dep_toP : ∀ d : D, (toP d).depth = dep d
  | .non => by simp only [toP, PyData.depth, dep]
  | .bl _ => by simp only [toP, PyData.depth, dep]
  | .int _ => by simp only [toP, PyData.depth, dep]
  | .str x => by simp only [toP, PyData.depth, dep]
  | .tup ds => by simp only [toP, PyData.depth, dep, dep_toPs ds]
  | .lst ds => by simp only [toP, PyData.depth, dep, dep_toPs ds]
  | .ro ds => by simp only [toP, PyData.depth, dep, dep_toPs ds]
  | .ref _ => by simp only [toP, PyData.depth, dep]
  | .ty _ => by simp only [toP, PyData.depth, dep]
theorem dep_toPs : ∀ ds : List D, PyData.depthAll (toPs ds) = deps ds
  | [] => by simp only [toPs, PyData.depthAll, deps]
  | d :: ds => by simp only [toPs, PyData.depthAll, deps, dep_toP d, dep_toPs ds]
end
theorem shaped_of {d : D} (h : okE d = true) (z : dep d ≤ 64) : SeqAt.shaped (toP d) = true := by
  unfold SeqAt.shaped
  rw [okE_lay d h, dep_toP]
  simpa using z
section
variable {K : PySem.W.Frag} {G : Hp}
mutual
theorem Rel.dp : ∀ {v : V} {d : D}, Rel K G v d → okE d = true → Dp K G v (toP d)
  | _, _, .non, _ => by simp only [toP]; exact .non
  | _, _, .bl b, _ => by simp only [toP]; exact .bl b
  | _, _, .int i, _ => by simp only [toP]; exact .int i
  | _, _, .str x, _ => by simp only [toP]; exact .str x
  | _, _, .ref _, h => by simp [okE] at h
  | _, _, .ty _, h => by simp [okE] at h
  | _, _, .tup h r, k => by simp only [toP]; exact .tup h (RelL.dp r (by simpa only [okE] using k))
  | _, _, .lst h r, k => by simp only [toP]; exact .lst (.of h) (RelL.dp r (by simpa only [okE] using k))
  | _, _, .ro h r, k => by simp only [toP]; exact .lst h (RelL.dp r (by simpa only [okE] using k))
theorem RelL.dp : ∀ {vs : List V} {ds : List D}, RelL K G vs ds → okEs ds = true → DpAll K G vs (toPs ds)
  | _, _, .nil, _ => by simp only [toPs]; exact .nil
  | _, _, .cons r t, k => by
    simp only [okEs, Bool.and_eq_true] at k
    simp only [toPs]
    exact .cons (Rel.dp r k.1) (RelL.dp t k.2)
end
end
/-- == by data -/
def vEq : D → D → Sto → DK → Prop
  | .int i, .int j, S, Q => Q (.bl (decide (i = j))) S
  | .str i, .str j, S, Q => Q (.bl (decide (i = j))) S
  | .bl i, .bl j, S, Q => Q (.bl (decide (i = j))) S
  | x, y, S, Q => okE x = true ∧ okE y = true ∧ dep x ≤ 64 ∧ dep y ≤ 64 ∧ Q (.bl (eqv x y)) S
def vNe : D → D → Sto → DK → Prop
  | .int i, .int j, S, Q => Q (.bl (!decide (i = j))) S
  | .str i, .str j, S, Q => Q (.bl (!decide (i = j))) S
  | .bl i, .bl j, S, Q => Q (.bl (!decide (i = j))) S
  | x, y, S, Q => okE x = true ∧ okE y = true ∧ dep x ≤ 64 ∧ dep y ≤ 64 ∧ Q (.bl (!eqv x y)) S
def rEqA (K : PySem.W.Frag) : R2 := fun x y H Q => rEq x y H Q ∨ rEqD K x y H Q
def rNeA (K : PySem.W.Frag) : R2 := fun x y H Q => rNe x y H Q ∨ rNeD K x y H Q
section
variable {X : Cx}
theorem dop_eq (hu : X.A.units + 64 < cLine) : DOp X (compareOp .Eq) vEq := by
  refine ⟨_, op_eq.or (op_eqD hu), fun x y dx dy F S H P Q sm rx ry h c => ?_⟩
  have fin : okE dx = true ∧ okE dy = true ∧ dep dx ≤ 64 ∧ dep dy ≤ 64 ∧ P (.bl (eqv dx dy)) S → rEq x y H Q ∨ rEqD X.K x y H Q := fun ⟨h1, h2, h3, h4, h5⟩ =>
    .inr ⟨_, _, (rx.mono (fz_same F S H)).dp h1, (ry.mono (fz_same F S H)).dp h2, shaped_of h1 h3, shaped_of h2 h4, c.use sm (.bl _) h5⟩
  cases dx <;> cases dy <;> first
    | exact fin h
    | (cases rx; cases ry
       refine .inl ⟨rfl, ?_⟩
       refine c.use sm ?_ h
       simp only [reduceCtorEq, V.int.injEq, V.str.injEq, V.bl.injEq]
       exact .bl _)
theorem dop_ne (hu : X.A.units + 64 < cLine) : DOp X (compareOp .NotEq) vNe := by
  refine ⟨_, op_ne.or (op_neD hu), fun x y dx dy F S H P Q sm rx ry h c => ?_⟩
  have fin : okE dx = true ∧ okE dy = true ∧ dep dx ≤ 64 ∧ dep dy ≤ 64 ∧ P (.bl (!eqv dx dy)) S → rNe x y H Q ∨ rNeD X.K x y H Q := fun ⟨h1, h2, h3, h4, h5⟩ =>
    .inr ⟨_, _, (rx.mono (fz_same F S H)).dp h1, (ry.mono (fz_same F S H)).dp h2, shaped_of h1 h3, shaped_of h2 h4, c.use sm (.bl _) h5⟩
  cases dx <;> cases dy <;> first
    | exact fin h
    | (cases rx; cases ry
       refine .inl ⟨rfl, ?_⟩
       refine c.use sm ?_ h
       simp only [reduceCtorEq, V.int.injEq, V.str.injEq, V.bl.injEq]
       exact .bl _)
end
/-! ints -/
abbrev vII (C : Int → Int → Prop) (g : Int → Int → D) : D → D → Sto → DK → Prop
  | .int i, .int j, S, Q => C i j ∧ Q (g i j) S
  | _, _, _, _ => False
abbrev vII0 (g : Int → Int → D) : D → D → Sto → DK → Prop
  | .int i, .int j, S, Q => Q (g i j) S
  | _, _, _, _ => False
section
variable {X : Cx} {f : Value → Value → Sem Value}
theorem dop_II {C : Int → Int → Prop} {g : Int → Int → V} {g' : Int → Int → D} (h : OpR X f (rI C g)) (hr : ∀ G i j, Rel X.K G (g i j) (g' i j)) : DOp X f (vII C g') :=
  ⟨_, h, fun x y dx dy F S H P Q sm rx ry q c => by
    cases dx <;> first | exact q.elim | skip
    cases dy <;> first | exact q.elim | skip
    cases rx; cases ry
    exact ⟨_, _, rfl, rfl, q.1, c.use sm (hr _ _ _) q.2⟩⟩
theorem dop_II0 {g : Int → Int → V} {g' : Int → Int → D} (h : OpR X f (rI0 g)) (hr : ∀ G i j, Rel X.K G (g i j) (g' i j)) : DOp X f (vII0 g') :=
  ⟨_, h, fun x y dx dy F S H P Q sm rx ry q c => by
    cases dx <;> first | exact q.elim | skip
    cases dy <;> first | exact q.elim | skip
    cases rx; cases ry
    exact ⟨_, _, rfl, rfl, c.use sm (hr _ _ _) q⟩⟩
end
def vLt : D → D → Sto → DK → Prop := vII0 fun i j => .bl (decide (i < j))
def vLe : D → D → Sto → DK → Prop := vII0 fun i j => .bl (decide (i ≤ j))
def vGt : D → D → Sto → DK → Prop := vII0 fun i j => .bl (decide (j < i))
def vGe : D → D → Sto → DK → Prop := vII0 fun i j => .bl (decide (j ≤ i))
def vSub : D → D → Sto → DK → Prop := vII0 fun i j => .int (i - j)
def vMod : D → D → Sto → DK → Prop := vII (fun _ j => 0 < j) fun i j => .int (i % j)
def vDiv : D → D → Sto → DK → Prop := vII CDiv fun i j => .int (i / j)
def vPow : D → D → Sto → DK → Prop := vII CPow fun i j => .int (i ^ j.toNat)
def vShl : D → D → Sto → DK → Prop := vII CPow fun i j => .int (i * 2 ^ j.toNat)
section
variable {X : Cx}
theorem dop_lt : DOp X (compareOp .Lt) vLt := dop_II0 op_lt fun _ _ _ => .bl _
theorem dop_le : DOp X (compareOp .LtE) vLe := dop_II0 op_le fun _ _ _ => .bl _
theorem dop_gt : DOp X (compareOp .Gt) vGt := dop_II0 op_gt fun _ _ _ => .bl _
theorem dop_ge : DOp X (compareOp .GtE) vGe := dop_II0 op_ge fun _ _ _ => .bl _
theorem dop_sub : DOp X (binaryOp .Sub) vSub := dop_II0 op_sub fun _ _ _ => .int _
theorem dop_mod : DOp X (binaryOp .Mod) vMod := dop_II op_mod fun _ _ _ => .int _
theorem dop_div : DOp X (binaryOp .FloorDiv) vDiv := dop_II op_fdiv fun _ _ _ => .int _
theorem dop_pow : DOp X (binaryOp .Pow) vPow := dop_II op_pow fun _ _ _ => .int _
theorem dop_shl : DOp X (binaryOp .LShift) vShl := dop_II op_shl fun _ _ _ => .int _
end
/-- a product: of ints (one small, or together below a million bits), of a tuple and a number -/
def vMul : D → D → Sto → DK → Prop
  | .int i, .int j, S, Q => (CMul i j ∨ CMulW i j) ∧ Q (.int (i * j)) S
  | .tup ds, .int k, S, Q => ds ≠ [] ∧ 2 ≤ k ∧ k ≤ 1000 ∧ ds.length ≤ 1000 ∧ Q (.tup (List.replicate k.toNat ds).flatten) S
  | .lst ds, .int k, S, Q => -(2 ^ 63) ≤ k ∧ k < 2 ^ 63 ∧ ds.length * k.toNat ≤ sizeLine ∧ Q (.lst (List.replicate k.toNat ds).flatten) S
  | _, _, _, _ => False
theorem RelL.rep {K : PySem.W.Frag} {G : Hp} {xs : List V} {ds : List D} (r : RelL K G xs ds) : ∀ n : Nat, RelL K G (List.replicate n xs).flatten (List.replicate n ds).flatten
  | 0 => .nil
  | n + 1 => by
    rw [List.replicate_succ, List.replicate_succ, List.flatten_cons, List.flatten_cons]
    exact r.append (RelL.rep r n)
section
variable {X : Cx}
theorem dop_mul : DOp X (binaryOp .Mult) vMul := by
  refine ⟨_, (op_mul.or op_mulW).or (op_repT.or op_rep), fun x y dx dy F S H P Q sm rx ry q c => ?_⟩
  cases dx <;> first | exact (q : False).elim | skip
  all_goals cases dy <;> first | exact (q : False).elim | skip
  · cases rx; cases ry
    obtain ⟨h1, h2⟩ := q
    rcases h1 with h1 | h1
    · exact .inl (.inl ⟨_, _, rfl, rfl, h1, c.use sm (.int _) h2⟩)
    · exact .inl (.inr ⟨_, _, rfl, rfl, h1, c.use sm (.int _) h2⟩)
  · cases ry
    cases rx with
    | tup hs rl =>
    obtain ⟨h1, h2, h3, h4, h5⟩ := q
    refine .inr (.inl ⟨_, _, _, rfl, rfl, sqT_mono (fz_same F S H) hs, fun z => h1 ?_, h2, h3, by rw [rl.length]; exact h4, fun p hp => c.new sm hp (fz_newT sm hp (rl.rep _)) h5⟩)
    subst z
    cases rl
    rfl
  · cases ry
    cases rx with
    | lst hs rl =>
    obtain ⟨h2, h3, h4, h5⟩ := q
    exact .inr (.inr ⟨_, _, _, rfl, rfl, fz_same F S H _ _ hs, h2, h3, by rw [rl.length]; exact h4, fun p hp => c.new sm hp (fz_newL sm hp (rl.rep _)) h5⟩)
end
/-- a sum -/
def vAdd : D → D → Sto → DK → Prop
  | .int i, .int j, S, Q => Q (.int (i + j)) S
  | .str a, .str b, S, Q => a.length + b.length ≤ sizeLine ∧ Q (.str (a ++ b)) S
  | .tup a, .tup b, S, Q => a.length + b.length ≤ sizeLine ∧ Q (.tup (a ++ b)) S
  | .lst a, .lst b, S, Q => a.length + b.length ≤ sizeLine ∧ Q (.lst (a ++ b)) S
  | .ref a, .lst b, S, Q => match S a with
    | some (.lst ds) => ds.length + b.length ≤ sizeLine ∧ Q (.lst (ds ++ b)) S
    | _ => False
  | _, _, _, _ => False
theorem Sim.lst {K : PySem.W.Frag} {F : Addr → Bool} {S : Sto} {H : Hp} {a : Addr} {ds : List D} (sm : Sim K F S H) (h : S a = some (.lst ds)) : ∃ vs, H a = some (.lst vs) ∧ RelL K (fz F S H) vs ds := (sm.at_ a _ h).2
section
variable {X : Cx}
theorem dop_add : DOp X (binaryOp .Add) vAdd := by
  refine ⟨_, (op_add.or op_add_str).or (op_catA.or op_cat), fun x y dx dy F S H P Q sm rx ry q c => ?_⟩
  cases dx <;> first | exact (q : False).elim | skip
  all_goals cases dy <;> first | exact (q : False).elim | skip
  · cases rx; cases ry
    exact .inl (.inl ⟨_, _, rfl, rfl, c.use sm (.int _) q⟩)
  · cases rx; cases ry
    exact .inl (.inr ⟨_, _, rfl, rfl, q.1, c.use sm (.str _) q.2⟩)
  · cases rx with
    | tup hs rl =>
    cases ry with
    | tup hs2 rl2 =>
    obtain ⟨h1, h2⟩ := q
    refine .inr (.inl ⟨_, _, _, _, rfl, rfl, sqT_mono (fz_same F S H) hs, sqT_mono (fz_same F S H) hs2, by rw [rl.length, rl2.length]; exact h1, fun z => ?_, fun _ z => ?_, fun _ _ p hp => ?_⟩)
    · subst z
      cases rl
      exact c.use sm (.tup hs2 rl2) h2
    · subst z
      cases rl2
      exact c.use sm (.tup hs (by rw [List.append_nil]; exact rl)) h2
    · exact c.new sm hp (fz_newT sm hp (rl.append rl2)) h2
  · cases rx with
    | lst hs rl =>
    cases ry with
    | lst hs2 rl2 =>
    obtain ⟨h1, h2⟩ := q
    exact .inr (.inr ⟨_, _, _, _, rfl, rfl, fz_same F S H _ _ hs, fz_same F S H _ _ hs2, by rw [rl.length, rl2.length]; exact h1, fun p hp => c.new sm hp (fz_newL sm hp (rl.append rl2)) h2⟩)
  · cases rx
    cases ry with
    | lst hs2 rl2 =>
    rename_i a ds _ _
    simp only [vAdd] at q
    split at q
    · rename_i ds' e
      obtain ⟨vs, e1, r1⟩ := sm.lst e
      obtain ⟨h1, h2⟩ := q
      exact .inr (.inr ⟨_, _, _, _, rfl, rfl, e1, fz_same F S H _ _ hs2, by rw [r1.length, rl2.length]; exact h1, fun p hp => c.new sm hp (fz_newL sm hp (r1.append rl2)) h2⟩)
    · exact q.elim
end
/-! is None -/
def isN : D → Bool
  | .non => true
  | _ => false
theorem Rel.isN {K : PySem.W.Frag} {G : Hp} {v : V} {d : D} (r : Rel K G v d) : decide (v = .non) = isN d := by
  cases r <;> simp [L3.isN]
def vIs : D → D → Sto → DK → Prop
  | x, .non, S, Q => Q (.bl (isN x)) S
  | _, _, _, _ => False
def vIsNot : D → D → Sto → DK → Prop
  | x, .non, S, Q => Q (.bl (!isN x)) S
  | _, _, _, _ => False
section
variable {X : Cx}
theorem dop_is : DOp X (compareOp .Is) vIs := by
  refine ⟨_, op_isN, fun x y dx dy F S H P Q sm rx ry q c => ?_⟩
  cases ry <;> first | exact (q : False).elim | skip
  exact ⟨rfl, c.use sm (d := .bl (isN dx)) (by rw [rx.isN]; exact .bl _) q⟩
theorem dop_isnot : DOp X (compareOp .IsNot) vIsNot := by
  refine ⟨_, op_notN, fun x y dx dy F S H P Q sm rx ry q c => ?_⟩
  cases ry <;> first | exact (q : False).elim | skip
  exact ⟨rfl, c.use sm (d := .bl (!isN dx)) (by rw [rx.isN]; exact .bl _) q⟩
def vNeg : D → Sto → DK → Prop
  | .int i, S, Q => Q (.int (-i)) S
  | _, _, _ => False
theorem dun_neg : DUn X (unaryOp .USub) vNeg := by
  refine ⟨_, un_neg, fun x dx F S H P Q sm rx q c => ?_⟩
  cases rx <;> first | exact (q : False).elim | skip
  exact ⟨_, rfl, c.use sm (.int _) q⟩
end
/-! subscripts -/
def vIx : D → D → Sto → DK → Prop
  | .tup ds, .int i, S, Q => match atI ds i with | some d => Q d S | none => False
  | .lst ds, .int i, S, Q => match atI ds i with | some d => Q d S | none => False
  | .ro ds, .int i, S, Q => match atI ds i with | some d => Q d S | none => False
  | .str z, .int i, S, Q => z.length ≤ sizeLine ∧ match atI z.cps.toList i with | some c => Q (.str ⟨#[c]⟩) S | none => False
  | .ref a, .int i, S, Q => match S a with
    | some (.lst ds) => match atI ds i with | some d => Q d S | none => False
    | _ => False
  | _, _, _, _ => False
theorem RelL.atI {K : PySem.W.Frag} {G : Hp} {xs : List V} {ds : List D} {i : Int} {d : D} (r : RelL K G xs ds) (h : L2.atI ds i = some d) : ∃ v, L2.atI xs i = some v ∧ Rel K G v d := by
  unfold L2.atI at h ⊢
  rw [r.length]
  cases e : ixN ds.length i with
  | none => rw [e] at h; cases h
  | some j =>
    rw [e] at h
    exact r.get h
section
variable {X : Cx}
theorem dix : DIx X vIx := by
  refine ⟨_, ix_seq, fun x y dx dy F S H P Q sm rx ry q c => ?_⟩
  cases dx <;> first | exact (q : False).elim | skip
  all_goals cases dy <;> first | exact (q : False).elim | skip
  all_goals cases ry
  · cases rx
    obtain ⟨h1, h2⟩ := q
    split at h2
    · rename_i e
      exact .inr (.inr ⟨_, _, _, rfl, rfl, h1, e, c.use sm (.str _) h2⟩)
    · exact h2.elim
  · cases rx with
    | tup hs rl =>
    simp only [vIx] at q
    split at q
    · rename_i e
      obtain ⟨v, e1, r1⟩ := rl.atI e
      exact .inr (.inl ⟨_, _, _, _, rfl, rfl, sqT_mono (fz_same F S H) hs, e1, c.use sm r1 q⟩)
    · exact q.elim
  · cases rx with
    | lst hs rl =>
    simp only [vIx] at q
    split at q
    · rename_i e
      obtain ⟨v, e1, r1⟩ := rl.atI e
      exact .inl ⟨_, _, _, _, rfl, rfl, .of (fz_same F S H _ _ hs), e1, c.use sm r1 q⟩
    · exact q.elim
  · cases rx with
    | ro hs rl =>
    simp only [vIx] at q
    split at q
    · rename_i e
      obtain ⟨v, e1, r1⟩ := rl.atI e
      exact .inl ⟨_, _, _, _, rfl, rfl, (fz_same F S H).seq hs, e1, c.use sm r1 q⟩
    · exact q.elim
  · cases rx
    simp only [vIx] at q
    split at q
    · rename_i e
      obtain ⟨vs, e1, r1⟩ := sm.lst e
      split at q
      · rename_i e2
        obtain ⟨v, e3, r3⟩ := r1.atI e2
        exact .inl ⟨_, _, _, _, rfl, rfl, .of e1, e3, c.use sm r3 q⟩
      · exact q.elim
    · exact q.elim
end
/-! slices -/
def cut {α : Type} (xs : List α) (lo hi : Option Int) : List α := (xs.drop (HT.sIx xs.length 0 lo)).take (HT.sIx xs.length xs.length hi - HT.sIx xs.length 0 lo)
theorem RelL.cut {K : PySem.W.Frag} {G : Hp} {xs : List V} {ds : List D} (r : RelL K G xs ds) (lo hi : Option Int) : RelL K G (cutV xs lo hi) (L3.cut ds lo hi) := by
  unfold cutV L3.cut
  rw [r.length]
  exact (r.drop _).take _
theorem cut_whole {α : Type} {xs : List α} {lo hi : Option Int} (h : HT.sIx xs.length 0 lo = 0 ∧ HT.sIx xs.length xs.length hi = xs.length) : cut xs lo hi = xs := by
  unfold cut
  rw [h.1, h.2]
  simp
def vSl : D → Option Int → Option Int → Sto → DK → Prop
  | .tup ds, lo, hi, S, Q => Q (.tup (cut ds lo hi)) S
  | .lst ds, lo, hi, S, Q => Q (.lst (cut ds lo hi)) S
  | .ro ds, lo, hi, S, Q => Q (.lst (cut ds lo hi)) S
  | .str z, lo, hi, S, Q => z.length ≤ sizeLine ∧ Q (.str (cutS z lo hi)) S
  | .ref a, lo, hi, S, Q => match S a with
    | some (.lst ds) => Q (.lst (cut ds lo hi)) S
    | _ => False
  | _, _, _, _, _ => False
section
variable {X : Cx}
theorem dsl : DSlR X vSl := by
  refine ⟨_, (sl_tupA.or sl_list).or sl_str, fun x dx lo hi F S H P Q sm rx q c => ?_⟩
  cases rx <;> first | exact (q : False).elim | skip
  · exact .inr ⟨_, rfl, q.1, c.use sm (.str _) q.2⟩
  · simp only [vSl] at q
    split at q
    · rename_i e
      obtain ⟨vs, e1, r1⟩ := sm.lst e
      exact .inl (.inr ⟨_, _, rfl, .of e1, fun p hp => c.new sm hp (fz_newL sm hp (r1.cut lo hi)) q⟩)
    · exact q.elim
  · rename_i hs rl
    refine .inl (.inl ⟨_, _, rfl, sqT_mono (fz_same F S H) hs, fun z => ?_, fun _ p hp => c.new sm hp (fz_newT sm hp (rl.cut lo hi)) q⟩)
    have e := cut_whole z
    have z' := z
    rw [rl.length] at z'
    have q : P (.tup (cut _ lo hi)) S := q
    rw [cut_whole z'] at q
    exact c.use sm (.tup hs rl) q
  · rename_i hs rl
    exact .inl (.inr ⟨_, _, rfl, .of (fz_same F S H _ _ hs), fun p hp => c.new sm hp (fz_newL sm hp (rl.cut lo hi)) q⟩)
  · rename_i hs rl
    exact .inl (.inr ⟨_, _, rfl, (fz_same F S H).seq hs, fun p hp => c.new sm hp (fz_newL sm hp (rl.cut lo hi)) q⟩)
end
/-! built-in functions -/
def vLen : List D → Sto → DK → Prop
  | [.str z], S, Q => z.length ≤ sizeLine ∧ Q (.int z.length) S
  | [.tup ds], S, Q => Q (.int ds.length) S
  | [.lst ds], S, Q => Q (.int ds.length) S
  | [.ro ds], S, Q => Q (.int ds.length) S
  | [.ref a], S, Q => match S a with
    | some (.lst ds) => Q (.int ds.length) S
    | some (.dK kvs) => Q (.int kvs.length) S
    | _ => False
  | _, _, _ => False
theorem RelF.length {K : PySem.W.Frag} {G : Hp} {κ : Type} : ∀ {vs : List (κ × V)} {ds : List (κ × D)}, RelF K G vs ds → vs.length = ds.length
  | _, _, .nil => rfl
  | _, _, .cons _ r => by simp [RelF.length r]
section
variable {X : Cx}
theorem dcall_len : DCall X (.builtin "len") vLen := by
  refine ⟨_, call_len.or call_lenD, fun xs ds F S H P Q sm rx q c => ?_⟩
  cases rx with
  | nil => exact (q : False).elim
  | cons r1 r2 =>
  cases r2 with
  | cons _ _ => cases r1 <;> exact (q : False).elim
  | nil =>
  cases r1 <;> first | exact (q : False).elim | skip
  · exact .inl ⟨_, _, rfl, ⟨q.1, rfl⟩, c.use sm (.int _) q.2⟩
  · simp only [vLen] at q
    split at q
    · rename_i e
      obtain ⟨vs, e1, r1⟩ := sm.lst e
      exact .inl ⟨_, _, rfl, .inl ⟨_, .of e1, rfl⟩, c.use sm (by rw [r1.length]; exact .int _) q⟩
    · rename_i e
      obtain ⟨vs, e1, r1⟩ := (sm.at_ _ _ e).2
      exact .inr ⟨_, _, rfl, e1, c.use sm (by rw [r1.length]; exact .int _) q⟩
    · exact q.elim
  · rename_i hs rl
    exact .inl ⟨_, _, rfl, .inr ⟨_, sqT_mono (fz_same F S H) hs, rfl⟩, c.use sm (by rw [rl.length]; exact .int _) q⟩
  · rename_i hs rl
    exact .inl ⟨_, _, rfl, .inl ⟨_, .of (fz_same F S H _ _ hs), rfl⟩, c.use sm (by rw [rl.length]; exact .int _) q⟩
  · rename_i hs rl
    exact .inl ⟨_, _, rfl, .inl ⟨_, (fz_same F S H).seq hs, rfl⟩, c.use sm (by rw [rl.length]; exact .int _) q⟩
def vAbs : List D → Sto → DK → Prop
  | [.int i], S, Q => Q (.int (if i < 0 then -i else i)) S
  | _, _, _ => False
def vMin2 : List D → Sto → DK → Prop
  | [.int i, .int j], S, Q => Q (.int (if j < i then j else i)) S
  | _, _, _ => False
def vMax2 : List D → Sto → DK → Prop
  | [.int i, .int j], S, Q => Q (.int (if j > i then j else i)) S
  | _, _, _ => False
def vInt : List D → Sto → DK → Prop
  | [.int i], S, Q => Q (.int i) S
  | [.bl k], S, Q => Q (.int (if k then 1 else 0)) S
  | _, _, _ => False
def vBool : List D → Sto → DK → Prop
  | [.int i], S, Q => Q (.bl (i != 0)) S
  | [.bl k], S, Q => Q (.bl k) S
  | _, _, _ => False
theorem dcall_abs : DCall X (.builtin "abs") vAbs := by
  refine ⟨_, call_abs, fun xs ds F S H P Q sm rx q c => ?_⟩
  cases rx with
  | nil => exact (q : False).elim
  | cons r1 r2 =>
  cases r2 with
  | cons _ _ => cases r1 <;> exact (q : False).elim
  | nil =>
  cases r1 <;> first | exact (q : False).elim | skip
  exact ⟨_, rfl, c.use sm (.int _) q⟩
theorem dcall_int : DCall X (.type "int") vInt := by
  refine ⟨_, call_int1, fun xs ds F S H P Q sm rx q c => ?_⟩
  cases rx with
  | nil => exact (q : False).elim
  | cons r1 r2 =>
  cases r2 with
  | cons _ _ => cases r1 <;> exact (q : False).elim
  | nil =>
  cases r1 <;> first | exact (q : False).elim | skip
  · exact .inr ⟨_, rfl, c.use sm (.int _) q⟩
  · exact .inl ⟨_, rfl, c.use sm (.int _) q⟩
theorem dcall_bool : DCall X (.type "bool") vBool := by
  refine ⟨_, call_bool1, fun xs ds F S H P Q sm rx q c => ?_⟩
  cases rx with
  | nil => exact (q : False).elim
  | cons r1 r2 =>
  cases r2 with
  | cons _ _ => cases r1 <;> exact (q : False).elim
  | nil =>
  cases r1 <;> first | exact (q : False).elim | skip
  · exact .inr ⟨_, rfl, c.use sm (.bl _) q⟩
  · exact .inl ⟨_, rfl, c.use sm (.bl _) q⟩
theorem dcall_min2 (hc : X.calm = true) : DCall X (.builtin "min") vMin2 := by
  refine ⟨_, call_min2 hc, fun xs ds F S H P Q sm rx q c => ?_⟩
  rcases ds with _ | ⟨d1, _ | ⟨d2, _ | ⟨d3, ds⟩⟩⟩ <;> first | exact (q : False).elim | (cases d1 <;> exact (q : False).elim) | skip
  · cases d1 <;> first | exact (q : False).elim | skip
    cases d2 <;> first | exact (q : False).elim | skip
    cases rx with
    | cons r1 r2 =>
    cases r2 with
    | cons r2 r3 =>
    cases r1; cases r2; cases r3
    exact ⟨_, _, rfl, c.use sm (.int _) q⟩
  · cases d1 <;> first | exact (q : False).elim | skip
    cases d2 <;> exact (q : False).elim
theorem dcall_max2 (hc : X.calm = true) : DCall X (.builtin "max") vMax2 := by
  refine ⟨_, call_max2 hc, fun xs ds F S H P Q sm rx q c => ?_⟩
  rcases ds with _ | ⟨d1, _ | ⟨d2, _ | ⟨d3, ds⟩⟩⟩ <;> first | exact (q : False).elim | (cases d1 <;> exact (q : False).elim) | skip
  · cases d1 <;> first | exact (q : False).elim | skip
    cases d2 <;> first | exact (q : False).elim | skip
    cases rx with
    | cons r1 r2 =>
    cases r2 with
    | cons r2 r3 =>
    cases r1; cases r2; cases r3
    exact ⟨_, _, rfl, c.use sm (.int _) q⟩
  · cases d1 <;> first | exact (q : False).elim | skip
    cases d2 <;> exact (q : False).elim
/-- tuple(x) -/
def vTuple : List D → Sto → DK → Prop
  | [.tup ds], S, Q => Q (.tup ds) S
  | [.lst ds], S, Q => Q (.tup ds) S
  | [.ro ds], S, Q => Q (.tup ds) S
  | [.ref a], S, Q => match S a with
    | some (.lst ds) => Q (.tup ds) S
    | _ => False
  | _, _, _ => False
theorem dcall_tuple : DCall X (.type "tuple") vTuple := by
  refine ⟨_, call_tuple_of, fun xs ds F S H P Q sm rx q c => ?_⟩
  cases rx with
  | nil => exact (q : False).elim
  | cons r1 r2 =>
  cases r2 with
  | cons _ _ => cases r1 <;> exact (q : False).elim
  | nil =>
  cases r1 <;> first | exact (q : False).elim | skip
  · simp only [vTuple] at q
    split at q
    · rename_i e
      obtain ⟨vs, e1, r1⟩ := sm.lst e
      exact ⟨_, _, rfl, .inl ⟨.of e1, fun p hp => c.new sm hp (fz_newT sm hp r1) q⟩⟩
    · exact q.elim
  · rename_i hs rl
    exact ⟨_, _, rfl, .inr ⟨sqT_mono (fz_same F S H) hs, c.use sm (.tup hs rl) q⟩⟩
  · rename_i hs rl
    exact ⟨_, _, rfl, .inl ⟨.of (fz_same F S H _ _ hs), fun p hp => c.new sm hp (fz_newT sm hp rl) q⟩⟩
  · rename_i hs rl
    exact ⟨_, _, rfl, .inl ⟨(fz_same F S H).seq hs, fun p hp => c.new sm hp (fz_newT sm hp rl) q⟩⟩
/-- list(x), a list that nobody changes -/
def vList : List D → Sto → DK → Prop
  | [.tup ds], S, Q => Q (.lst ds) S
  | [.lst ds], S, Q => Q (.lst ds) S
  | [.ro ds], S, Q => Q (.lst ds) S
  | [.ref a], S, Q => match S a with
    | some (.lst ds) => Q (.lst ds) S
    | _ => False
  | _, _, _ => False
theorem dcall_list : DCall X (.type "list") vList := by
  refine ⟨_, call_list_of, fun xs ds F S H P Q sm rx q c => ?_⟩
  cases rx with
  | nil => exact (q : False).elim
  | cons r1 r2 =>
  cases r2 with
  | cons _ _ => cases r1 <;> exact (q : False).elim
  | nil =>
  cases r1 <;> first | exact (q : False).elim | skip
  · simp only [vList] at q
    split at q
    · rename_i e
      obtain ⟨vs, e1, r1⟩ := sm.lst e
      exact ⟨_, _, rfl, .inl (.of e1), fun p hp => c.new sm hp (fz_newL sm hp r1) q⟩
    · exact q.elim
  · rename_i hs rl
    exact ⟨_, _, rfl, .inr (sqT_mono (fz_same F S H) hs), fun p hp => c.new sm hp (fz_newL sm hp rl) q⟩
  · rename_i hs rl
    exact ⟨_, _, rfl, .inl (.of (fz_same F S H _ _ hs)), fun p hp => c.new sm hp (fz_newL sm hp rl) q⟩
  · rename_i hs rl
    exact ⟨_, _, rfl, .inl ((fz_same F S H).seq hs), fun p hp => c.new sm hp (fz_newL sm hp rl) q⟩
def asBls : List D → Option (List Bool)
  | [] => some []
  | .bl b :: r => (asBls r).map (b :: ·)
  | _ :: _ => none
def asInts : List D → Option (List Int)
  | [] => some []
  | .int b :: r => (asInts r).map (b :: ·)
  | _ :: _ => none
theorem asBls_map (bs : List Bool) : asBls (bs.map D.bl) = some bs := by
  induction bs with
  | nil => rfl
  | cons b bs ih => simp [asBls, ih]
theorem asInts_map (bs : List Int) : asInts (bs.map D.int) = some bs := by
  induction bs with
  | nil => rfl
  | cons b bs ih => simp [asInts, ih]
theorem asBls_eq : ∀ {ds : List D} {bs : List Bool}, asBls ds = some bs → ds = bs.map D.bl
  | [], bs, h => by cases h; rfl
  | .bl b :: r, bs, h => by
    simp only [asBls, Option.map_eq_some_iff] at h
    obtain ⟨t, h1, rfl⟩ := h
    rw [asBls_eq h1]; rfl
  | .non :: _, _, h | .int _ :: _, _, h | .str _ :: _, _, h | .tup _ :: _, _, h | .lst _ :: _, _, h | .ro _ :: _, _, h | .ref _ :: _, _, h | .ty _ :: _, _, h => by cases h
theorem asInts_eq : ∀ {ds : List D} {bs : List Int}, asInts ds = some bs → ds = bs.map D.int
  | [], bs, h => by cases h; rfl
  | .int b :: r, bs, h => by
    simp only [asInts, Option.map_eq_some_iff] at h
    obtain ⟨t, h1, rfl⟩ := h
    rw [asInts_eq h1]; rfl
  | .non :: _, _, h | .bl _ :: _, _, h | .str _ :: _, _, h | .tup _ :: _, _, h | .lst _ :: _, _, h | .ro _ :: _, _, h | .ref _ :: _, _, h | .ty _ :: _, _, h => by cases h
/-- the items of a list (or, where t is true, of a tuple) -/
def seqOf (S : Sto) : D → Option (List D)
  | .lst ds => some ds
  | .ro ds => some ds
  | .ref a => match S a with | some (.lst ds) => some ds | _ => none
  | _ => none
theorem seqOf_rel {K : PySem.W.Frag} {F : Addr → Bool} {S : Sto} {H : Hp} {v : V} {d : D} {ds : List D} (sm : Sim K F S H) (r : Rel K (fz F S H) v d) (h : seqOf S d = some ds) : ∃ a vs, v = .ref a ∧ SqL K H a vs ∧ RelL K (fz F S H) vs ds := by
  cases r <;> first | (cases h; done) | skip
  · rename_i a
    simp only [seqOf] at h
    split at h
    · rename_i e
      cases h
      obtain ⟨vs, e1, r1⟩ := sm.lst e
      exact ⟨_, _, rfl, .of e1, r1⟩
    · cases h
  · rename_i hs rl
    cases h
    exact ⟨_, _, rfl, .of (fz_same F S H _ _ hs), rl⟩
  · rename_i hs rl
    cases h
    exact ⟨_, _, rfl, (fz_same F S H).seq hs, rl⟩
def vAll : List D → Sto → DK → Prop
  | [x], S, Q => match (seqOf S x).bind asBls with | some bs => Q (.bl (bs.all id)) S | none => False
  | _, _, _ => False
def vAny : List D → Sto → DK → Prop
  | [x], S, Q => match (seqOf S x).bind asBls with | some bs => Q (.bl (bs.any id)) S | none => False
  | _, _, _ => False
def vSum : List D → Sto → DK → Prop
  | [x], S, Q => match (seqOf S x).bind asInts with | some bs => Q (.int bs.sum) S | none => False
  | _, _, _ => False
theorem dcall_all (hc : X.calm = true) : DCall X (.builtin "all") vAll := by
  refine ⟨_, cr_all hc, fun xs ds F S H P Q sm rx q c => ?_⟩
  rcases ds with _ | ⟨d1, _ | ⟨d2, ds⟩⟩ <;> first | exact (q : False).elim | skip
  cases rx with
  | cons r1 r2 =>
  cases r2
  have q : match (seqOf S d1).bind asBls with | some bs => P (.bl (bs.all id)) S | none => False := q
  split at q
  · rename_i bs e
    obtain ⟨ds, e1, e2⟩ := Option.bind_eq_some_iff.mp e
    obtain ⟨a, vs, rfl, hs, rl⟩ := seqOf_rel sm r1 e1
    rw [asBls_eq e2] at rl
    exact ⟨a, bs, rfl, by rw [← rl.bls]; exact hs, c.use sm (.bl _) q⟩
  · exact q.elim
theorem dcall_any (hc : X.calm = true) : DCall X (.builtin "any") vAny := by
  refine ⟨_, cr_any hc, fun xs ds F S H P Q sm rx q c => ?_⟩
  rcases ds with _ | ⟨d1, _ | ⟨d2, ds⟩⟩ <;> first | exact (q : False).elim | skip
  cases rx with
  | cons r1 r2 =>
  cases r2
  have q : match (seqOf S d1).bind asBls with | some bs => P (.bl (bs.any id)) S | none => False := q
  split at q
  · rename_i bs e
    obtain ⟨ds, e1, e2⟩ := Option.bind_eq_some_iff.mp e
    obtain ⟨a, vs, rfl, hs, rl⟩ := seqOf_rel sm r1 e1
    rw [asBls_eq e2] at rl
    exact ⟨a, bs, rfl, by rw [← rl.bls]; exact hs, c.use sm (.bl _) q⟩
  · exact q.elim
theorem dcall_sum (hc : X.calm = true) : DCall X (.builtin "sum") vSum := by
  refine ⟨_, cr_sum hc, fun xs ds F S H P Q sm rx q c => ?_⟩
  rcases ds with _ | ⟨d1, _ | ⟨d2, ds⟩⟩ <;> first | exact (q : False).elim | skip
  cases rx with
  | cons r1 r2 =>
  cases r2
  have q : match (seqOf S d1).bind asInts with | some bs => P (.int bs.sum) S | none => False := q
  split at q
  · rename_i bs e
    obtain ⟨ds, e1, e2⟩ := Option.bind_eq_some_iff.mp e
    obtain ⟨a, vs, rfl, hs, rl⟩ := seqOf_rel sm r1 e1
    rw [asInts_eq e2] at rl
    exact ⟨a, bs, rfl, by rw [← rl.ints]; exact hs, c.use sm (.int _) q⟩
  · exact q.elim
/-- isinstance of plain data and a built-in class -/
def tyOf : D → Option String
  | .non => some "NoneType"
  | .bl _ => some "bool"
  | .int _ => some "int"
  | .str _ => some "str"
  | .tup _ => some "tuple"
  | .lst _ => some "list"
  | .ro _ => some "list"
  | .ref _ => none
  | .ty _ => none
def isiT : D → String → Option Bool
  | .non, n => if n = "int" ∨ n = "bool" ∨ n = "str" ∨ n = "tuple" ∨ n = "list" ∨ n = "dict" then some false else none
  | .bl _, n => if n = "int" ∨ n = "bool" then some true else if n = "str" ∨ n = "tuple" ∨ n = "list" ∨ n = "dict" then some false else none
  | .int _, n => if n = "int" then some true else if n = "bool" ∨ n = "str" ∨ n = "tuple" ∨ n = "list" ∨ n = "dict" then some false else none
  | .str _, n => if n = "str" then some true else if n = "bool" ∨ n = "int" ∨ n = "tuple" ∨ n = "list" ∨ n = "dict" then some false else none
  | .tup _, n => if n = "tuple" then some true else if n = "bool" ∨ n = "int" ∨ n = "str" ∨ n = "list" ∨ n = "dict" then some false else none
  | .lst _, n => if n = "list" then some true else if n = "bool" ∨ n = "int" ∨ n = "str" ∨ n = "tuple" ∨ n = "dict" then some false else none
  | _, _ => none
def vIsi : List D → Sto → DK → Prop
  | [x, .ty n], S, Q => match isiT x n with | some b => Q (.bl b) S | none => False
  | _, _, _ => False
theorem isiT_kit {d : D} {n : String} {b : Bool} (h : isiT d n = some b) : ∃ t, tyOf d = some t ∧ kitB t n = some b := by
  cases d <;> first | (cases h; done) | skip
  all_goals refine ⟨_, rfl, ?_⟩
  all_goals simp only [isiT] at h
  all_goals repeat' split at h
  all_goals first | (cases h; done) | skip
  all_goals cases h
  all_goals rename_i z
  all_goals first
    | (subst z; decide +kernel)
    | (rcases z with z | z | z | z | z | z <;> subst z <;> decide +kernel)
    | (rcases z with z | z | z | z | z <;> subst z <;> decide +kernel)
    | (rcases z with z | z | z | z <;> subst z <;> decide +kernel)
    | (rcases z with z | z <;> subst z <;> decide +kernel)
theorem Rel.tyx {K : PySem.W.Frag} {F : Addr → Bool} {S : Sto} {H : Hp} {v : V} {d : D} {n : String} (r : Rel K (fz F S H) v d) (hd : ∀ ds, d ≠ .ro ds) (h : tyOf d = some n) : TyX K H v (.type n) := by
  cases r <;> first | (cases h; done) | skip
  · cases h; exact .base .non
  · cases h; exact .base (.bl _)
  · cases h; exact .base (.int _)
  · cases h; exact .base (.str _)
  · cases h
    rename_i hs rl
    rcases hs with (hs | ⟨o, hs⟩) | ⟨o, its, m, h1, h2, _⟩
    · exact .base (.tup (fz_same F S H _ _ hs))
    · exact .fTuple (fz_same F S H _ _ hs)
    · exact .kTuple h1 h2
  · cases h
    rename_i hs rl
    exact .base (.lst (fz_same F S H _ _ hs))
  · exact absurd rfl (hd _)
theorem dcall_isi : DCall X (.builtin "isinstance") vIsi := by
  refine ⟨_, call_isi, fun xs ds F S H P Q sm rx q c => ?_⟩
  rcases ds with _ | ⟨d1, _ | ⟨d2, _ | ⟨d3, ds⟩⟩⟩ <;> first | exact (q : False).elim | skip
  · cases d2 <;> first | exact (q : False).elim | skip
    rename_i n
    cases rx with
    | cons r1 r2 =>
    cases r2 with
    | cons r2 r3 =>
    cases r2; cases r3
    have q : match isiT d1 n with | some b => P (.bl b) S | none => False := q
    split at q
    · rename_i b e
      obtain ⟨t, e1, e2⟩ := isiT_kit e
      exact ⟨_, _, _, _, b, rfl, .ty n, r1.tyx (fun ds z => by subst z; cases e) e1, kit_ty e2, c.use sm (.bl _) q⟩
    · exact q.elim
  · cases d2 <;> exact (q : False).elim
end
end L3

set_option Elab.async false
set_option maxRecDepth 100000
set_option linter.all false
set_option maxHeartbeats 2000000
namespace L3
open PySem L2
/-! ### statements -/
abbrev dNext : DTS := fun D δ S => D.nx δ S
abbrev dSeq (t u : DTS) : DTS := fun D δ S => t { D with nx := u D } δ S
abbrev dBreak : DTS := fun D δ S => D.bk δ S
abbrev dCont : DTS := fun D δ S => D.ct δ S
abbrev dDrop (te : DTE) : DTS := fun D δ S => te δ S fun _ S1 => D.nx δ S1
abbrev dRet (te : DTE) : DTS := fun D δ S => te δ S D.rt
abbrev dRetN : DTS := fun D _ S => D.rt .non S
abbrev dIf (c : DTT) (t u : DTS) : DTS := fun D δ S => c δ S fun b S1 => if b = true then t D δ S1 else u D δ S1
abbrev dNever : DTS := fun _ _ _ => False
abbrev DTG := D → DSt → Sto → (DSt → Sto → Prop) → Prop
def lfG (K : PySem.W.Frag) (t : DTG) : TG := fun v σ H Q => ∃ F d δ S P, Sim K F S H ∧ Rel K (fz F S H) v d ∧ RelS K (fz F S H) σ δ ∧ t d δ S P ∧ CtN K F S H P Q
def DPG (X : Cx) (e : Expr) (t : DTG) : Prop := PG X e (lfG X.K t)
theorem PGw {X : Cx} {e : Expr} {t u : TG} (h : PG X e t) (w : ∀ v σ H Q, u v σ H Q → t v σ H Q) : PG X e u := ⟨fun pins s σ H v u' Q I r q => h.run pins s σ H v u' Q I r (w _ _ _ _ q)⟩
/-- plain targets: a name, a tuple of names -/
inductive Tg where
  | nm (i : Nat)
  | tp (l : List Nat)
def gAll : List Nat → TGs
  | [] => gNil
  | i :: r => gCons (gName i) (gAll r)
def gTg (K : PySem.W.Frag) : Tg → TG
  | .nm i => gName i
  | .tp l => gTup K l.length (gAll l)
abbrev setAll : List Nat → List D → DSt → DSt
  | i :: r, d :: ds, δ => setAll r ds (dset δ i (some d))
  | _, _, δ => δ
abbrev dTg : Tg → DTG
  | .nm i => fun d δ S Q => Q (dset δ i (some d)) S
  | .tp l => fun d δ S Q => match d with | .tup ds => ds.length = l.length ∧ Q (setAll l ds δ) S | _ => False
def Tg.slots : Tg → List Nat
  | .nm i => [i]
  | .tp l => l
theorem gAll_ok {K : PySem.W.Frag} {G : Hp} {H : Hp} {Q : St → Hp → Prop} : ∀ (l : List Nat) {vs : List V} {ds : List D} {σ : St} {δ : DSt}, RelL K G vs ds → ds.length = l.length → RelS K G σ δ →
    (∀ σ', RelS K G σ' (setAll l ds δ) → (∀ is : List Nat, (∀ i ∈ l, i ∈ is) → wipe σ' is = wipe σ is) → Q σ' H) → gAll l vs σ H Q
  | [], _, _, σ, δ, .nil, _, rs, k => ⟨rfl, k σ rs fun _ _ => rfl⟩
  | [], _, _, _, _, .cons _ _, h, _, _ => by cases h
  | _ :: _, _, _, _, _, .nil, h, _, _ => by cases h
  | i :: l, _, _, σ, δ, .cons (v := v) (vs := vs) (d := d) (ds := ds) r t, h, rs, k => by
    refine ⟨_, _, rfl, ?_⟩
    show gAll l _ (σ.set i (some v)) H Q
    refine gAll_ok l t (by simpa using h) (rs.dset r i) fun σ' q w => k σ' q fun is hi => ?_
    rw [w is fun j hj => hi j (List.mem_cons_of_mem _ hj)]
    exact wipe_in _ _ (hi i List.mem_cons_self)
where
  wipe_in {σ : St} {i : Nat} (x : Option V) (is : List Nat) (hi : i ∈ is) : wipe (σ.set i x) is = wipe σ is := by
    induction is with
    | nil => cases hi
    | cons j is ih =>
      show (wipe (σ.set i x) is).set j none = (wipe σ is).set j none
      by_cases h : i ∈ is
      · rw [ih h]
      · have e : i = j := by
          rcases List.mem_cons.mp hi with e | e
          · exact e
          · exact absurd e h
        subst e
        have c : ∀ (js : List Nat), i ∉ js → wipe (σ.set i x) js = (wipe σ js).set i x := by
          intro js
          induction js with
          | nil => intro _; rfl
          | cons k js ih2 =>
            intro hk
            show (wipe (σ.set i x) js).set k none = ((wipe σ js).set k none).set i x
            rw [ih2 fun z => hk (List.mem_cons_of_mem _ z), List.set_comm]
            intro z
            subst z
            exact hk List.mem_cons_self
        rw [c is h, List.set_set]
theorem gTg_ok {K : PySem.W.Frag} {F : Addr → Bool} {S : Sto} {H : Hp} {v : V} {d : D} {σ : St} {δ : DSt} {P : DSt → Sto → Prop} {Q : St → Hp → Prop} (tg : Tg) (r : Rel K (fz F S H) v d) (rs : RelS K (fz F S H) σ δ) (h : dTg tg d δ S P)
    (k : ∀ σ' δ', RelS K (fz F S H) σ' δ' → P δ' S → (∀ is : List Nat, (∀ i ∈ tg.slots, i ∈ is) → wipe σ' is = wipe σ is) → Q σ' H) : gTg K tg v σ H Q := by
  cases tg with
  | nm i =>
    show Q (σ.set i (some v)) H
    exact k _ _ (rs.dset r i) h fun is hi => gAll_ok.wipe_in _ is (hi i List.mem_cons_self)
  | tp l =>
    cases r <;> first | exact (h : False).elim | skip
    rename_i hs rl
    obtain ⟨h1, h2⟩ := h
    refine ⟨_, _, rfl, sqT_mono (fz_same F S H) hs, by rw [rl.length]; exact h1, ?_⟩
    exact gAll_ok l rl h1 rs fun σ' q w => k σ' _ q h2 w
theorem dpg_tg {X : Cx} {e : Expr} {tg : Tg} (h : PG X e (gTg X.K tg)) : DPG X e (dTg tg) := PGw h fun v σ H Q ⟨F, d, δ, S, P, sm, r, rs, h, c⟩ =>
  gTg_ok tg r rs h fun σ' δ' rs' p _ => c _ _ p _ _ (Go.refl sm) rs'
/-- o[i] = v -/
def vSet : D → D → D → Sto → (Sto → Prop) → Prop
  | .ref a, .int k, v, S, Q => match S a with
    | some (.lst ds) => match ixN ds.length k with | some j => Q (sup S a (.lst (ds.set j v))) | none => False
    | _ => False
  | _, _, _, _, _ => False
abbrev dgSub (to ti : DTE) : DTG := fun d δ S Q => to δ S fun o S1 => ti δ S1 fun i S2 => vSet o i d S2 fun S3 => Q δ S3
section
variable {X : Cx} {st : Stmt} {rest : List Stmt} {t u : DTS} {e a : Expr} {te ta to ti : DTE} {pos : Pos}
theorem dpss_nil : DPSs X [] dNext := PSsw pss_nil fun D σ H ⟨F, δ, S, P, sm, rs, h, c⟩ => c.nx _ _ h _ _ (Go.refl sm) rs
theorem dpss_cons (h1 : DPS X st t) (h2 : DPSs X rest u) : DPSs X (st :: rest) (dSeq t u) := PSsw (pss_cons h1 h2) fun D σ H ⟨F, δ, S, P, sm, rs, h, c⟩ =>
  ⟨F, δ, S, { P with nx := u P }, sm, rs, h, ⟨fun δ' S' h' σ' H' g rs' => ⟨F, δ', S', P, g.sim, rs', h', c.mono g⟩, c.rt, c.bk, c.ct⟩⟩
theorem dpss_one (h1 : DPS X st t) : DPSs X [st] t := pss_one h1
theorem dps_pass : DPS X (.Pass pos) dNext := PSw ps_pass fun D σ H ⟨F, δ, S, P, sm, rs, h, c⟩ => c.nx _ _ h _ _ (Go.refl sm) rs
theorem dps_doc {x j pos'} : DPS X (.Expr (.Constant (.str x) j pos) pos') dNext := PSw ps_doc fun D σ H ⟨F, δ, S, P, sm, rs, h, c⟩ => c.nx _ _ h _ _ (Go.refl sm) rs
theorem dps_break : DPS X (.Break pos) dBreak := PSw ps_break fun D σ H ⟨F, δ, S, P, sm, rs, h, c⟩ => c.bk _ _ h _ _ (Go.refl sm) rs
theorem dps_continue : DPS X (.Continue pos) dCont := PSw ps_continue fun D σ H ⟨F, δ, S, P, sm, rs, h, c⟩ => c.ct _ _ h _ _ (Go.refl sm) rs
theorem dps_expr (he : DPE X e te) (hs : swapsWith e none pos.line X.env = pure false := by rfl) : DPS X (.Expr e pos) (dDrop te) := PSw (ps_expr he hs) fun D σ H ⟨F, δ, S, P, sm, rs, h, c⟩ =>
  ⟨F, δ, S, _, sm, rs, h, fun d S1 h1 v H1 g1 r1 => c.nx _ _ h1 _ _ g1 (rs.mono g1.same)⟩
theorem dps_ret (he : DPE X e te) : DPS X (.Return (some e) pos) (dRet te) := PSw (ps_ret he) fun D σ H ⟨F, δ, S, P, sm, rs, h, c⟩ => ⟨F, δ, S, _, sm, rs, h, c.rt⟩
theorem dps_retN : DPS X (.Return none pos) dRetN := PSw ps_retN fun D σ H ⟨F, δ, S, P, sm, rs, h, c⟩ => c.rt.use sm .non h
theorem dps_if {c : Expr} {p q : List Stmt} {tc : DTT} (hc : DPT X c tc) (ha : DPSs X p t) (hb : DPSs X q u) : DPS X (.If c p q pos) (dIf tc t u) := PSw (ps_if hc ha hb) fun D σ H ⟨F, δ, S, P, sm, rs, h, c⟩ =>
  ⟨F, δ, S, _, sm, rs, h, fun b S1 h1 H1 g1 => by
    cases b with
    | true => exact ⟨F, δ, S1, P, g1.sim, rs.mono g1.same, h1, c.mono g1⟩
    | false => exact ⟨F, δ, S1, P, g1.sim, rs.mono g1.same, h1, c.mono g1⟩⟩
theorem dps_never : DPS X st dNever := PSw ps_never fun D σ H ⟨F, δ, S, P, sm, rs, h, c⟩ => (h : False).elim
theorem dpss_never {sts : List Stmt} : DPSs X sts dNever := PSsw pss_never fun D σ H ⟨F, δ, S, P, sm, rs, h, c⟩ => (h : False).elim
/-- target = e -/
abbrev dAsg (te : DTE) (g : DTG) : DTS := fun D δ S => te δ S fun x S1 => g x δ S1 D.nx
theorem lf_asg {K : PySem.W.Frag} {g : DTG} {D : Ends} {σ : St} {H : Hp} (h : lfS K (dAsg te g) D σ H) : tAsg (lf K te) (lfG K g) D σ H := by
  obtain ⟨F, δ, S, P, sm, rs, h, c⟩ := h
  exact ⟨F, δ, S, _, sm, rs, h, fun d S1 h1 v H1 g1 r1 => ⟨F, d, δ, S1, P.nx, g1.sim, r1, rs.mono g1.same, h1, (c.mono g1).nx⟩⟩
theorem dps_asg {tg : Expr} {g : DTG} (he : DPE X e te) (hg : DPG X tg g) (hs : swapsWithSole [tg] e pos.line X.env = pure false := by rfl) (hw : swappedStores [tg] e X.env = pure none := by rfl)
    (h1 : (assignEach [tg] X.env).map (·.2) = [assign tg X.env] := by rfl) : DPS X (.Assign [tg] e pos) (dAsg te g) := PSw (ps_asg he hg hs hw h1) fun D σ H h => lf_asg h
/-- name = e -/
theorem dps_set (i : Nat) {x : Str} {pos' : Pos} (hN : X.N.Nodup) (he : DPE X e te) (hi : X.N[i]? = some x := by rfl) (hx : Loc X.env.scope x := by first | exact Or.inl rfl | exact Or.inr rfl) (hs : swapsWith e (some (.Name x pos')) pos.line X.env = pure false := by rfl)
    (hf : X.fn x = true ∨ X.env.scope.names.lookup x = some .local := by first | exact .inl rfl | exact .inr rfl) : DPS X (.Assign [.Name x pos'] e pos) (dAsg te (dTg (.nm i))) := PSw (ps_set hN hi hx he hs hf) fun D σ H ⟨F, δ, S, P, sm, rs, h, c⟩ =>
  ⟨F, δ, S, _, sm, rs, h, fun d S1 h1 v H1 g1 r1 => c.nx _ _ h1 _ _ g1 ((rs.mono g1.same).dset r1 i)⟩
theorem dpg_name (i : Nat) {x : Str} (hN : X.N.Nodup) (hi : X.N[i]? = some x := by rfl) (hx : Loc X.env.scope x := by first | exact Or.inl rfl | exact Or.inr rfl)
    (hf : X.fn x = true ∨ X.env.scope.names.lookup x = some .local := by first | exact .inl rfl | exact .inr rfl) : PG X (.Name x pos) (gTg X.K (.nm i)) := pg_name hN hi hx hf
theorem dpg_sub {o i : Expr} (ho : DPE X o to) (hi : DPE X i ti) (ha : ∀ v, assign (.Subscript o i pos) X.env v = (do
      let ov ← holding [v] (eval o X.env)
      let iv ← holding [v, ov] (eval i X.env)
      standAt pos
      holding [v, ov, iv] (setItem ov iv v)
      release [v, ov, iv] []) := by intro _; rfl) : DPG X (.Subscript o i pos) (dgSub to ti) := PGw (pg_sub ho hi set_list ha) fun v σ H Q ⟨F, d, δ, S, P, sm, r, rs, h, c⟩ =>
  ⟨F, δ, S, _, sm, rs, h, fun do_ S1 h1 vo H1 g1 ro => ⟨F, δ, S1, _, g1.sim, rs.mono g1.same, h1, fun di S2 h2 vi H2 g2 ri => by
    cases do_ <;> first | exact (h2 : False).elim | skip
    cases di <;> first | exact (h2 : False).elim | skip
    cases ro; cases ri
    simp only [vSet] at h2
    split at h2
    · rename_i ds e
      obtain ⟨vs, e1, r1⟩ := g2.sim.lst e
      split at h2
      · rename_i j e2
        have r' := r.mono (g1.trans g2).same
        have g3 := g2.sim.put (o := .lst (vs.set j v)) (u' := .lst (ds.set j d)) e ⟨_, rfl, r1.set r' j⟩
        exact ⟨_, _, _, j, rfl, rfl, e1, by rw [r1.length]; exact e2, c _ _ h2 _ _ ((g1.trans g2).trans g3) (rs.mono ((g1.trans g2).trans g3).same)⟩
      · exact h2.elim
    · exact h2.elim⟩⟩
/-- x += e, at a name -/
abbrev dAug (i : Nat) (te : DTE) (r : D → D → Sto → DK → Prop) : DTS := fun D δ S => match slot δ i with
  | some x => te δ S fun y S1 => r x y S1 fun z S2 => D.nx (dset δ i (some z)) S2
  | none => False
theorem dps_aug (i : Nat) {x : Str} {op : Operator} {r : D → D → Sto → DK → Prop} {pos' : Pos} (ho : DOp X (inplaceOp op) r) (hN : X.N.Nodup) (he : DPE X e te) (hi : X.N[i]? = some x := by rfl) (hx : Loc X.env.scope x := by first | exact Or.inl rfl | exact Or.inr rfl)
    (hf : X.fn x = true ∨ X.env.scope.names.lookup x = some .local := by first | exact .inl rfl | exact .inr rfl) : DPS X (.AugAssign (.Name x pos') op e pos) (dAug i te r) := by
  obtain ⟨q, h1, h2⟩ := ho.ex
  refine PSw (ps_aug (ti := q) hN hi hx he h1 hf) fun D σ H ⟨F, δ, S, P, sm, rs, h, c⟩ => ?_
  simp only [dAug] at h
  split at h
  · rename_i d e
    obtain ⟨v, e1, r1⟩ := rs.get (slot_get e)
    refine ⟨v, e1, F, δ, S, _, sm, rs, h, fun dy S1 k1 y H1 g1 ry => ?_⟩
    refine h2 v y d dy F S1 H1 _ _ g1.sim (r1.mono g1.same) ry k1 fun dz S2 k2 z H2 g2 rz => ?_
    exact c.nx _ _ k2 _ _ (g1.trans g2) ((rs.mono (g1.trans g2).same).dset rz i)
  · exact h.elim
def vIadd : D → D → Sto → DK → Prop
  | .int i, .int j, S, Q => Q (.int (i + j)) S
  | .str a, .str b, S, Q => a.length + b.length ≤ sizeLine ∧ Q (.str (a ++ b)) S
  | _, _, _, _ => False
theorem dop_iadd : DOp X (inplaceOp .Add) vIadd := by
  refine ⟨_, iop_add.or iop_add_str, fun x y dx dy F S H P Q sm rx ry q c => ?_⟩
  cases dx <;> first | exact (q : False).elim | skip
  all_goals cases dy <;> first | exact (q : False).elim | skip
  all_goals (cases rx; cases ry)
  · exact .inl ⟨_, _, rfl, rfl, c.use sm (.int _) q⟩
  · exact .inr ⟨_, _, rfl, rfl, q.1, c.use sm (.str _) q.2⟩
theorem dop_isub : DOp X (inplaceOp .Sub) vSub := dop_II0 iop_sub fun _ _ _ => .int _
theorem dop_idiv : DOp X (inplaceOp .FloorDiv) vDiv := dop_II iop_fdiv fun _ _ _ => .int _
theorem dop_imul : DOp X (inplaceOp .Mult) (vII CMul fun i j => .int (i * j)) := dop_II iop_mul fun _ _ _ => .int _
end
/-! ### while -/
def whileN (c : DTT) (tb : DTS) : Nat → DTS
  | 0 => fun _ _ _ => False
  | n + 1 => fun D δ S => c δ S fun b S1 => if b = true then tb { D with nx := whileN c tb n D, ct := whileN c tb n D, bk := D.nx } δ S1 else D.nx δ S1
abbrev dWhile (c : DTT) (tb : DTS) : DTS := fun D δ S => ∃ n, whileN c tb n D δ S
section
variable {X : Cx} {pos : Pos}
theorem dps_while {c : Expr} {body : List Stmt} {tc : DTT} {tb : DTS} (hc : DPT X c tc) (hb : DPSs X body tb) (hp : PassesOwn (model X.prog X.w) X.A X.env X.xe := by exact PassesOwn.never) : DPS X (.While c body [] pos) (dWhile tc tb) := by
  refine PSw (ps_while hp hc hb) fun D σ H ⟨F, δ, S, P, sm, rs, ⟨n, h⟩, c⟩ => ?_
  refine ⟨fun m σ' H' => ∃ δ' S', Go X.K F S H S' H' ∧ RelS X.K (fz F S' H') σ' δ' ∧ whileN tc tb m P δ' S', ⟨n, δ, S, Go.refl sm, rs, h⟩, ?_⟩
  rintro m σ1 H1 ⟨δ1, S1, g1, rs1, h1⟩
  cases m with
  | zero => exact h1.elim
  | succ m =>
    refine ⟨F, δ1, S1, _, g1.sim, rs1, h1, fun b S2 h2 H2 g2 => ?_⟩
    have g12 := g1.trans g2
    cases b with
    | false => exact c.nx _ _ h2 _ _ g12 (rs1.mono g2.same)
    | true =>
      refine ⟨fun σ' H' => ∃ δ' S', Go X.K F S H S' H' ∧ RelS X.K (fz F S' H') σ' δ' ∧ whileN tc tb m P δ' S', fun σ' H' q => ⟨m, Nat.lt_succ_self m, q⟩, ?_⟩
      refine ⟨F, δ1, S2, _, g2.sim, rs1.mono g2.same, h2, ⟨fun δ' S' h' σ' H' g' rs' => ⟨δ', S', g12.trans g', rs', h'⟩, (c.mono g12).rt, (c.mono g12).nx, fun δ' S' h' σ' H' g' rs' => ⟨δ', S', g12.trans g', rs', h'⟩⟩⟩
end
/-! ### what a for walks -/
/-- the items, and what must stay so of the store while they are walked -/
abbrev DTI := DSt → Sto → ((Sto → Prop) → List D → Sto → Prop) → Prop
/-- J walks the items as long as kp holds of the store (objects made since may be hidden) -/
def WalkD (K : PySem.W.Frag) (F : Addr → Bool) (S : Sto) (H : Hp) (kp : Sto → Prop) (items : List D) (J : It) : Prop :=
  ∀ F' S' H', Same (fz F S H) (fz F' S' H') → Sim K F' S' H' → kp S' → (∀ i, i < items.length → J.go i H') ∧ J.stop items.length H' ∧
    ∀ i x H2, i < items.length → J.yld i H' x H2 → ∃ d, items[i]? = some d ∧ Go K F' S' H' S' H2 ∧ Rel K (fz F' S' H2) x d
def lfI (K : PySem.W.Frag) (t : DTI) : TI := fun σ H R => ∃ F δ S P, Sim K F S H ∧ RelS K (fz F S H) σ δ ∧ t δ S P ∧ ∀ kp items S', P kp items S' → ∀ J H', Go K F S H S' H' → WalkD K F S' H' kp items J → R J H'
def DPI (X : Cx) (tg iter : Expr) (t : DTI) : Prop := PI X tg iter (lfI X.K t)
theorem PIw {X : Cx} {tg e : Expr} {t u : TI} (h : PI X tg e t) (w : ∀ σ H R, u σ H R → t σ H R) : PI X tg e u := ⟨fun pins s σ H R I q => h.run pins s σ H R I (w _ _ _ q)⟩
def forL (kp : Sto → Prop) (g : DTG) (tb : DTS) : List D → DTS
  | [] => fun D δ S => kp S ∧ D.nx δ S
  | d :: r => fun D δ S => kp S ∧ g d δ S fun δ1 S1 => tb { D with nx := forL kp g tb r D, ct := forL kp g tb r D, bk := D.nx } δ1 S1
abbrev dFor (ti : DTI) (g : DTG) (tb : DTS) : DTS := fun D δ S => ti δ S fun kp items S1 => forL kp g tb items D δ S1
section
variable {X : Cx} {pos : Pos}
theorem forL_kp {kp : Sto → Prop} {g : DTG} {tb : DTS} {items : List D} {D : DEnds} {δ : DSt} {S : Sto} (h : forL kp g tb items D δ S) : kp S := by
  cases items with
  | nil => exact h.1
  | cons d r => exact h.1
theorem dps_for {tg iter : Expr} {body : List Stmt} {ti : DTI} {g : DTG} {tb : DTS} (hi : DPI X tg iter ti) (hg : DPG X tg g) (hb : DPSs X body tb) (hc : X.calm = true := by rfl) (hp : PassesOwn (model X.prog X.w) X.A X.env X.xe := by exact PassesOwn.never)
    (hs : ∀ x, foldedSetIterable iter X.env x = pure x := by intro _; rfl) : DPS X (.For tg iter body [] pos) (dFor ti g tb) := by
  refine PSw (ps_for hp hc hi hg hb hs) fun D σ H ⟨F, δ, S, P, sm, rs, h, c⟩ => ?_
  refine ⟨F, δ, S, _, sm, rs, h, fun kp items S1 h1 J H1 g1 wk => ?_⟩
  have c1 := c.mono g1
  refine ⟨fun i m σ' H' => m = items.length - i ∧ i ≤ items.length ∧ ∃ δ' S', Go X.K F S1 H1 S' H' ∧ RelS X.K (fz F S' H') σ' δ' ∧ forL kp g tb (items.drop i) P δ' S', ⟨items.length, by simp, Nat.zero_le _, δ, S1, Go.refl g1.sim, rs.mono g1.same, h1⟩, ?_⟩
  rintro i m σ2 H2 ⟨rfl, hi, δ2, S2, g2, rs2, h2⟩
  obtain ⟨w1, w2, w3⟩ := wk F S2 H2 g2.same g2.sim (forL_kp h2)
  by_cases hlt : i < items.length
  · refine .inr ⟨w1 i hlt, fun σ' H' => ∃ δ' S', Go X.K F S1 H1 S' H' ∧ RelS X.K (fz F S' H') σ' δ' ∧ forL kp g tb (items.drop (i + 1)) P δ' S', fun σ' H' q => ⟨items.length - (i + 1), by omega, rfl, hlt, q⟩, fun x H3 y => ?_⟩
    obtain ⟨d, e, g3, rx⟩ := w3 i x H3 hlt y
    have ed : items.drop i = d :: items.drop (i + 1) := by
      rw [List.drop_eq_getElem_cons hlt]
      rw [List.getElem?_eq_getElem hlt] at e
      cases e
      rfl
    rw [ed] at h2
    refine ⟨F, d, δ2, S2, _, g3.sim, rx, rs2.mono g3.same, h2.2, fun δ4 S4 h4 σ4 H4 g4 rs4 => ?_⟩
    have g24 := (g2.trans g3).trans g4
    exact ⟨F, δ4, S4, _, g4.sim, rs4, h4, ⟨fun δ' S' h' σ' H' g' rs' => ⟨δ', S', g24.trans g', rs', h'⟩, (c1.mono g24).rt, (c1.mono g24).nx, fun δ' S' h' σ' H' g' rs' => ⟨δ', S', g24.trans g', rs', h'⟩⟩⟩
  · have e : i = items.length := by omega
    subst e
    rw [List.drop_length] at h2
    exact .inl ⟨w2, c1.nx _ _ h2.2 _ _ g2 rs2⟩
end
/-- a list (known, or mutable and left as it is): what must stay so, its items -/
def itOf (S : Sto) : D → Option ((Sto → Prop) × List D)
  | .lst ds => some (fun _ => True, ds)
  | .ro ds => some (fun _ => True, ds)
  | .ref a => match S a with | some (.lst ds) => some (fun S' => S' a = some (.lst ds), ds) | _ => none
  | _ => none
abbrev iSeq (te : DTE) : DTI := fun δ S Q => te δ S fun x S1 => match itOf S1 x with
  | some p => Q p.1 p.2 S1
  | none => False
abbrev iTupD (te : DTE) : DTI := fun δ S Q => te δ S fun x S1 => match x with
  | .tup ds => Q (fun _ => True) ds S1
  | _ => False
abbrev iStrD (te : DTE) : DTI := fun δ S Q => te δ S fun x S1 => match x with
  | .str z => Q (fun _ => True) (z.cps.toList.map fun c => .str ⟨#[c]⟩) S1
  | _ => False
def rngD (lo : Int) (n : Nat) : List D := (List.range n).map fun i => .int (lo + (i : Nat))
abbrev iRange1 (te : DTE) : DTI := fun δ S Q => te δ S fun x S1 => match x with
  | .int j => -(2 ^ 62) ≤ j ∧ j < 2 ^ 62 ∧ Q (fun _ => True) (rngD 0 j.toNat) S1
  | _ => False
abbrev iRange2 (ta tb : DTE) : DTI := fun δ S Q => ta δ S fun x S1 => tb δ S1 fun y S2 => match x, y with
  | .int i, .int j => (-(2 ^ 62) ≤ i ∧ i < 2 ^ 62 ∧ -(2 ^ 62) ≤ j ∧ j < 2 ^ 62) ∧ Q (fun _ => True) (rngD i (j - i).toNat) S2
  | _, _ => False
def enumD : Nat → List D → List D
  | _, [] => []
  | i, d :: r => .tup [.int (i : Nat), d] :: enumD (i + 1) r
abbrev iEnumD (te : DTE) : DTI := fun δ S Q => te δ S fun x S1 => match itOf S1 x with
  | some p => Q p.1 (enumD 0 p.2) S1
  | none => False
def zipD : List D → List D → List D
  | x :: xs, y :: ys => .tup [x, y] :: zipD xs ys
  | _, _ => []
abbrev iZipD (ta tb : DTE) : DTI := fun δ S Q => ta δ S fun x S1 => tb δ S1 fun y S2 => match itOf S2 x, itOf S2 y with
  | some p, some q => Q (fun S' => p.1 S' ∧ q.1 S') (zipD p.2 q.2) S2
  | _, _ => False
abbrev iRevD (te : DTE) : DTI := fun δ S Q => te δ S fun x S1 => match itOf S1 x with
  | some p => Q p.1 p.2.reverse S1
  | none => False
/-- a list that stands at a as long as kp holds -/
def Held (K : PySem.W.Frag) (F : Addr → Bool) (S : Sto) (H : Hp) (kp : Sto → Prop) (a : Addr) (ds : List D) : Prop :=
  ∀ F' S' H', Same (fz F S H) (fz F' S' H') → Sim K F' S' H' → kp S' → ∃ xs, SqL K H' a xs ∧ RelL K (fz F' S' H') xs ds
theorem walk_seq {K : PySem.W.Frag} {F : Addr → Bool} {S : Sto} {H : Hp} {a : Addr} {ds : List D} {kp : Sto → Prop} (hs : Held K F S H kp a ds) : WalkD K F S H kp ds (Itl K a) := fun F' S' H' g s k => by
  obtain ⟨xs, h1, h2⟩ := hs F' S' H' g s k
  have w := walk_list (K := K) (a := a) (xs := xs)
  rw [h2.length] at w
  refine ⟨fun i hi => w.goes i H' hi h1, w.stops H' h1, fun i x H2 hi y => ?_⟩
  obtain ⟨rfl, e⟩ := w.yields i H' x H2 hi h1 y
  obtain ⟨d, e1, r⟩ := h2.get' e
  exact ⟨d, e1, Go.refl s, r⟩
theorem enumD_get : ∀ {ds : List D} {i k : Nat} {d : D}, ds[i]? = some d → (enumD k ds)[i]? = some (.tup [.int ((k + i : Nat) : Int), d])
  | [], i, _, _, h => by simp at h
  | x :: r, 0, k, d, h => by simp at h; subst h; rfl
  | x :: r, i + 1, k, d, h => by
    have := enumD_get (ds := r) (i := i) (k := k + 1) (d := d) (by simpa using h)
    simp only [enumD, List.getElem?_cons_succ]
    rw [this]
    rw [show k + 1 + i = k + (i + 1) by omega]
theorem enumD_length : ∀ {ds : List D} {k : Nat}, (enumD k ds).length = ds.length
  | [], _ => rfl
  | x :: r, k => by simp [enumD, enumD_length (ds := r)]
theorem walk_enumD {K : PySem.W.Frag} {F : Addr → Bool} {S : Sto} {H : Hp} {a : Addr} {ds : List D} {kp : Sto → Prop} (hs : Held K F S H kp a ds) : WalkD K F S H kp (enumD 0 ds) (Ite K a) := fun F' S' H' g s k => by
  obtain ⟨xs, h1, h2⟩ := hs F' S' H' g s k
  have w := walk_enum (K := K) (a := a) (xs := xs)
  rw [h2.length] at w
  rw [enumD_length]
  refine ⟨fun i hi => w.goes i H' hi h1, w.stops H' h1, fun i x H2 hi y => ?_⟩
  obtain ⟨T, x1, y1, rfl, hT, rfl, e1, e2⟩ := w.yields i H' x H2 hi h1 y
  cases e1
  obtain ⟨d, e3, r⟩ := h2.get' e2
  refine ⟨_, enumD_get e3, s.new hT, ?_⟩
  rw [Nat.zero_add]
  exact fz_newT s hT (.cons (.int _) (.cons r .nil))
theorem itOf_rel {K : PySem.W.Frag} {F : Addr → Bool} {S : Sto} {H : Hp} {v : V} {d : D} {p : (Sto → Prop) × List D} (sm : Sim K F S H) (r : Rel K (fz F S H) v d) (h : itOf S d = some p) :
    ∃ a vs, v = .ref a ∧ SqL K H a vs ∧ RelL K (fz F S H) vs p.2 ∧ Held K F S H p.1 a p.2 := by
  cases r <;> first | (cases h; done) | skip
  · rename_i a
    simp only [itOf] at h
    split at h
    · rename_i ds e
      cases h
      obtain ⟨vs, e1, r1⟩ := sm.lst e
      refine ⟨a, vs, rfl, .of e1, r1, fun F' S' H' g' s' k => ?_⟩
      obtain ⟨vs', e2, r2⟩ := s'.lst k
      exact ⟨vs', .of e2, r2⟩
    · cases h
  · rename_i hs rl
    cases h
    exact ⟨_, _, rfl, .of (fz_same F S H _ _ hs), rl, fun F' S' H' g' _ _ => ⟨_, .of (fz_same F' S' H' _ _ (g' _ _ hs)), rl.mono g'⟩⟩
  · rename_i hs rl
    cases h
    exact ⟨_, _, rfl, (fz_same F S H).seq hs, rl, fun F' S' H' g' _ _ => ⟨_, ((fz_same F' S' H').seq (g'.seq hs)), rl.mono g'⟩⟩
theorem zipD_length : ∀ {xs ys : List D}, (zipD xs ys).length = min xs.length ys.length
  | [], _ => by simp [zipD]
  | _ :: _, [] => by simp [zipD]
  | x :: xs, y :: ys => by simp [zipD, zipD_length (xs := xs) (ys := ys)]
theorem zipD_get : ∀ {xs ys : List D} {i : Nat} {x y : D}, xs[i]? = some x → ys[i]? = some y → (zipD xs ys)[i]? = some (.tup [x, y])
  | [], _, _, _, _, h, _ => by simp at h
  | _ :: _, [], _, _, _, _, h => by simp at h
  | a :: xs, b :: ys, 0, x, y, h, h' => by simp at h h'; subst h; subst h'; rfl
  | a :: xs, b :: ys, i + 1, x, y, h, h' => by simpa [zipD] using zipD_get (xs := xs) (ys := ys) (i := i) (by simpa using h) (by simpa using h')
section
variable {X : Cx} {tg e a b : Expr} {te ta tb : DTE} {p pos tpos : Pos} {elts : List Expr} {kk : Nat}
theorem dpi_seq (h : DPE X e te) : DPI X tg e (iSeq te) := PIw (pi_list h) fun σ H R ⟨F, δ, S, P, sm, rs, h, c⟩ => ⟨F, δ, S, _, sm, rs, h, fun d S1 h1 v H1 g1 r1 => by
  split at h1
  · rename_i q e
    obtain ⟨a, vs, rfl, hs, _, w⟩ := itOf_rel g1.sim r1 e
    exact ⟨a, rfl, ⟨vs, hs⟩, c _ _ _ h1 _ _ g1 (walk_seq w)⟩
  · exact h1.elim⟩
theorem dpi_tup (h : DPE X e te) : DPI X tg e (iTupD te) := PIw (pi_tup h) fun σ H R ⟨F, δ, S, P, sm, rs, h, c⟩ => ⟨F, δ, S, _, sm, rs, h, fun d S1 h1 v H1 g1 r1 => by
  cases r1 <;> first | exact (h1 : False).elim | skip
  rename_i a vs ds hs rl
  refine ⟨_, rfl, ⟨_, sqT_mono (fz_same F S1 H1) hs⟩, c _ _ _ h1 _ _ g1 fun F' S' H' g' s' _ => ?_⟩
  have h2 := rl.mono g'
  have h3 := sqT_mono (fz_same F' S' H') (sqT_mono g' hs)
  have w := walk_tup (K := X.K) (a := a) (xs := vs)
  rw [h2.length] at w
  refine ⟨fun i hi => w.goes i H' hi h3, w.stops H' h3, fun i x H2 hi y => ?_⟩
  obtain ⟨rfl, e⟩ := w.yields i H' x H2 hi h3 y
  obtain ⟨d, e1, r⟩ := h2.get' e
  exact ⟨d, e1, Go.refl s', r⟩⟩
theorem dpi_str (h : DPE X e te) : DPI X tg e (iStrD te) := PIw (pi_str h) fun σ H R ⟨F, δ, S, P, sm, rs, h, c⟩ => ⟨F, δ, S, _, sm, rs, h, fun d S1 h1 v H1 g1 r1 => by
  cases r1 <;> first | exact (h1 : False).elim | skip
  rename_i z
  refine ⟨_, rfl, c _ _ _ h1 _ _ g1 fun F' S' H' g' s' _ => ?_⟩
  have w := walk_str (z := z)
  have hl : (z.cps.toList.map fun c => D.str ⟨#[c]⟩).length = z.cps.size := by simp
  rw [hl]
  refine ⟨fun i hi => w.goes i H' hi True.intro, w.stops H' True.intro, fun i x H2 hi y => ?_⟩
  obtain ⟨rfl, c0, e0, rfl⟩ := w.yields i H' x H2 hi True.intro y
  refine ⟨.str ⟨#[c0]⟩, ?_, Go.refl s', .str _⟩
  rw [List.getElem?_map, Array.getElem?_toList, e0]
  rfl⟩
theorem walk_rng {K : PySem.W.Frag} {F : Addr → Bool} {S : Sto} {H : Hp} {lo : Int} {n : Nat} : WalkD K F S H (fun _ => True) (rngD lo n) (Itr lo n) := fun F' S' H' g s _ => by
  have w := walk_range (lo := lo) (n := n)
  have hl : (rngD lo n).length = n := by simp [rngD]
  rw [hl]
  refine ⟨fun i hi => w.goes i H' hi True.intro, w.stops H' True.intro, fun i x H2 hi y => ?_⟩
  obtain ⟨rfl, rfl⟩ := w.yields i H' x H2 hi True.intro y
  refine ⟨.int (lo + i), ?_, Go.refl s, .int _⟩
  unfold rngD
  rw [List.getElem?_map, List.getElem?_range hi]
  rfl
theorem dpi_range1 (hg : Gl X "range") (hm : X.mg "range" = none) (h : DPE X a ta) (hs : starEach [a] X.env = [(false, eval a X.env)] := by rfl) (hs' : starEach [a] X.env = (false, eval a X.env) :: starEach [] X.env := by rfl) : DPI X tg (.Call (.Name "range" p) [a] [] pos) (iRange1 ta) :=
  PIw (pi_range1 hg hm (dpa_cons h dpa_nil hs') hs) fun σ H R ⟨F, δ, S, P, sm, rs, h, c⟩ => ⟨F, δ, S, fun ds S1 => match ds with
  | [x] => (match x with
    | .int j => -(2 ^ 62) ≤ j ∧ j < 2 ^ 62 ∧ P (fun _ => True) (rngD 0 j.toNat) S1
    | _ => False)
  | _ => False, sm, rs, h, fun ds S1 h1 vs H1 g1 r1 => by
    rcases ds with _ | ⟨x, _ | ⟨_, _⟩⟩ <;> first | exact (h1 : False).elim | skip
    cases r1 with
    | cons r1 r2 =>
    cases r2
    cases r1 <;> first | exact (h1 : False).elim | skip
    obtain ⟨h1, h2, h3⟩ := h1
    exact ⟨_, rfl, h1, h2, c _ _ _ h3 _ _ g1 walk_rng⟩⟩
theorem dpi_range2 (hg : Gl X "range") (hm : X.mg "range" = none) (h : DPE X a ta) (h' : DPE X b tb) (hs : starEach [a, b] X.env = (false, eval a X.env) :: starEach [b] X.env := by rfl) (hs1 : starEach [b] X.env = (false, eval b X.env) :: starEach [] X.env := by rfl)
    (hs2 : starEach [a, b] X.env = [(false, eval a X.env), (false, eval b X.env)] := by rfl) (hs3 : starEach [b] X.env = [(false, eval b X.env)] := by rfl) : DPI X tg (.Call (.Name "range" p) [a, b] [] pos) (iRange2 ta tb) :=
  PIw (pi_range2 hg hm (dpa_cons h (dpa_cons h' dpa_nil hs1) hs) hs2 hs3) fun σ H R ⟨F, δ, S, P, sm, rs, h, c⟩ => ⟨F, δ, S, fun ds S1 => match ds with
  | [x, y] => (match x, y with
    | .int i, .int j => (-(2 ^ 62) ≤ i ∧ i < 2 ^ 62 ∧ -(2 ^ 62) ≤ j ∧ j < 2 ^ 62) ∧ P (fun _ => True) (rngD i (j - i).toNat) S1
    | _, _ => False)
  | _ => False, sm, rs, h, fun ds S1 h1 vs H1 g1 r1 => by
    rcases ds with _ | ⟨x, _ | ⟨y, _ | ⟨_, _⟩⟩⟩ <;> first | exact (h1 : False).elim | skip
    cases x <;> first | exact (h1 : False).elim | skip
    cases y <;> first | exact (h1 : False).elim | skip
    cases r1 with
    | cons r1 r2 =>
    cases r2 with
    | cons r2 r3 =>
    cases r3
    cases r1; cases r2
    obtain ⟨h1, h3⟩ := h1
    exact ⟨_, _, rfl, h1, c _ _ _ h3 _ _ g1 walk_rng⟩⟩
theorem dpi_enum (hg : Gl X "enumerate") (hm : X.mg "enumerate" = none) (h : DPE X a ta) (hs : starEach [a] X.env = [(false, eval a X.env)] := by rfl) (hs' : starEach [a] X.env = (false, eval a X.env) :: starEach [] X.env := by rfl) : DPI X (.Tuple elts kk tpos) (.Call (.Name "enumerate" p) [a] [] pos) (iEnumD ta) :=
  PIw (pi_enum hg hm (dpa_cons h dpa_nil hs') hs) fun σ H R ⟨F, δ, S, P, sm, rs, h, c⟩ => ⟨F, δ, S, fun ds S1 => match ds with
  | [x] => (match itOf S1 x with
    | some p => P p.1 (enumD 0 p.2) S1
    | none => False)
  | _ => False, sm, rs, h, fun ds S1 h1 vs H1 g1 r1 => by
    rcases ds with _ | ⟨x, _ | ⟨_, _⟩⟩ <;> first | exact (h1 : False).elim | skip
    cases r1 with
    | cons r1 r2 =>
    cases r2
    have h1 : match itOf S1 x with
      | some p => P p.1 (enumD 0 p.2) S1
      | none => False := h1
    split at h1
    · rename_i q e
      obtain ⟨a, vs, rfl, hs, _, w⟩ := itOf_rel g1.sim r1 e
      exact ⟨a, vs, rfl, hs, c _ _ _ h1 _ _ g1 (walk_enumD w)⟩
    · exact h1.elim⟩
end
/-! ### list comprehensions -/
abbrev dwipe (δ : DSt) : List Nat → DSt
  | [] => δ
  | v :: vs => dset (dwipe δ vs) v none
theorem RelS.wipe {K : PySem.W.Frag} {G : Hp} {σ : St} {δ : DSt} (r : RelS K G σ δ) : ∀ vs : List Nat, RelS K G (L2.wipe σ vs) (dwipe δ vs)
  | [] => r
  | v :: vs => by
    show RelS K G _ (L3.dset (dwipe δ vs) v none)
    rw [dset_eq]
    exact (RelS.wipe r vs).unset v
def lcL (kp : Sto → Prop) (g : DTG) (tt : DTT) (te : DTE) (vs : List Nat) (δ : DSt) : List D → List D → Sto → DK → Prop
  | [], acc, S, Q => kp S ∧ Q (.lst acc) S
  | d :: r, acc, S, Q => kp S ∧ acc.length < sizeLine ∧ g d (dwipe δ vs) S fun δ2 S2 => tt δ2 S2 fun b S3 =>
    if b = true then te δ2 S3 fun y S4 => lcL kp g tt te vs δ r (acc ++ [y]) S4 Q else lcL kp g tt te vs δ r acc S3 Q
abbrev dLc (ti : DTI) (g : DTG) (tt : DTT) (te : DTE) (vs : List Nat) : DTE := fun δ S Q => ti δ S fun kp items S1 => lcL kp g tt te vs δ items [] S1 Q
abbrev dYes : DTT := fun _ S Q => Q true S
theorem lcL_kp {kp : Sto → Prop} {g : DTG} {tt : DTT} {te : DTE} {vs : List Nat} {δ : DSt} {items acc : List D} {S : Sto} {Q : DK} (h : lcL kp g tt te vs δ items acc S Q) : kp S := by
  cases items with
  | nil => exact h.1
  | cons d r => exact h.1
/-- hidden besides -/
def hide (F : Addr → Bool) (a : Addr) : Addr → Bool := fun b => if b = a then true else F b
section
variable {K : PySem.W.Frag} {F : Addr → Bool} {S S' : Sto} {H H' : Hp} {p : Addr} {o o' : HO}
theorem fz_hide_same : Same (fz (hide F p) S H) (fz F S H) := fun b x e => by
  obtain ⟨h0, h1, h2⟩ := fz_of e
  have np : b ≠ p := fun z => by subst z; simp [hide] at h0
  rw [fz_none (by simpa [hide, np] using h0) h1]
  exact h2
theorem fz_hide_new (h : H p = none) : Same (fz F S H) (fz (hide F p) S (upd H p o)) := fun b x e => by
  obtain ⟨h0, h1, h2⟩ := fz_of e
  have np := ne_of_none h2 h
  rw [fz_none (by simp [hide, np, h0]) h1, upd_ne np]
  exact h2
theorem fz_hide_upd : fz (hide F p) S (upd H p o) = fz (hide F p) S H := by
  funext b
  by_cases e : b = p
  · subst e
    rw [fz_hid (by simp [hide]), fz_hid (by simp [hide])]
  · unfold fz
    rw [upd_ne e]
theorem Sim.hideNew (s : Sim K F S H) (h : H p = Option.none) : Sim K (hide F p) S (upd H p o) where
  at_ := fun a u e => by
    have np : a ≠ p := fun z => by subst z; rw [(s.none h).2] at e; cases e
    rw [upd_ne np]
    exact ⟨by simp [hide, np, (s.at_ a u e).1], (s.at_ a u e).2.mono (fz_hide_new h)⟩
  hid := fun a f => by
    by_cases np : a = p
    · subst np
      exact ⟨_, upd_same⟩
    · obtain ⟨x, q⟩ := s.hid a (by simpa [hide, np] using f)
      exact ⟨x, by rw [upd_ne np]; exact q⟩
/-- the hidden object is written -/
theorem Sim.hidePut (s : Sim K (hide F p) S H) : Sim K (hide F p) S (upd H p o) where
  at_ := fun a u e => by
    have q := s.at_ a u e
    have np : a ≠ p := fun z => by subst z; simp [hide] at q
    rw [upd_ne np, fz_hide_upd]
    exact q
  hid := fun a f => by
    by_cases np : a = p
    · subst np
      exact ⟨_, upd_same⟩
    · obtain ⟨x, q⟩ := s.hid a f
      exact ⟨x, by rw [upd_ne np]; exact q⟩
/-- it is shown again -/
theorem Sim.show_ (s : Sim K (hide F p) S H) (f : F p = false) : Sim K F S H where
  at_ := fun a u e => by
    have q := s.at_ a u e
    have np : a ≠ p := fun z => by subst z; simp [hide] at q
    exact ⟨by simpa [hide, np] using q.1, q.2.mono fz_hide_same⟩
  hid := fun a g => s.hid a (by by_cases np : a = p <;> simp [hide, np, g])
end
section
variable {X : Cx}
theorem lf_lc {K : PySem.W.Frag} {wi : DTI} {tg : Tg} {tt : DTT} {te : DTE} {vs : List Nat} (hv : ∀ i ∈ tg.slots, i ∈ vs) (σ : St) (H : Hp) (Q : VK) (h : lf K (dLc wi (dTg tg) tt te vs) σ H Q) : tLc (lfI K wi) (gTg K tg) (lfT K tt) (lf K te) vs σ H Q := by
  obtain ⟨F, δ, S, P, sm, rs, h, c⟩ := h
  refine ⟨F, δ, S, _, sm, rs, h, fun kp items S1 h1 J H1 g1 wk => ?_⟩
  intro Dp hD
  have c1 := c.mono g1
  have s1 := g1.sim.hideNew (o := .lst []) hD
  have fD := (g1.sim.none hD).1
  -- the states of the loop
  refine ⟨fun i m H' => m = items.length - i ∧ i ≤ items.length ∧ ∃ S' vs' acc, Go K (hide F Dp) S1 (upd H1 Dp (.lst [])) S' (upd H' Dp (.lst [])) ∧ H' Dp = some (.lst vs') ∧ RelL K (fz (hide F Dp) S' H') vs' acc ∧ lcL kp (dTg tg) tt te vs δ (items.drop i) acc S' P,
    ⟨items.length, by simp, Nat.zero_le _, S1, [], [], by rw [upd_upd]; exact Go.refl s1, upd_same, .nil, h1⟩, ?_⟩
  rintro i m H2 ⟨rfl, hi, S2, vs2, acc, g2, e2, r2, h2⟩
  have s2 : Sim K (hide F Dp) S2 H2 := by
    have q := g2.sim.hidePut (o := .lst vs2)
    rw [upd_upd] at q
    have e : upd H2 Dp (.lst vs2) = H2 := by
      funext b
      by_cases z : b = Dp
      · subst z; rw [upd_same, e2]
      · rw [upd_ne z]
    rw [e] at q
    exact q
  -- from the loop's entry to here, all shown
  have go2 : Go K F S1 H1 S2 H2 := by
    refine ⟨fun b x e => ?_, fun a f => ?_, s2.show_ fD⟩
    · have q := g2.same b x (fz_hide_new hD b x e)
      rw [fz_hide_upd] at q
      exact fz_hide_same b x q
    · have np : a ≠ Dp := fun z => by subst z; rw [fD] at f; cases f
      have q := g2.hid a (by simp [hide, np, f])
      rw [upd_ne np, upd_ne np] at q
      exact q
  have rs2 : RelS K (fz (hide F Dp) S2 H2) σ δ := by
    have q : RelS K (fz (hide F Dp) S2 (upd H2 Dp (.lst []))) σ δ := ((rs.mono g1.same).mono (fz_hide_new hD)).mono g2.same
    rw [fz_hide_upd] at q
    exact q
  have sm2 : Same (fz F S1 H1) (fz (hide F Dp) S2 H2) := fun b x e => by
    have q := g2.same b x (fz_hide_new hD b x e)
    rw [fz_hide_upd] at q
    exact q
  obtain ⟨w1, w2, w3⟩ := wk (hide F Dp) S2 H2 sm2 s2 (lcL_kp h2)
  by_cases hlt : i < items.length
  · refine .inr ⟨w1 i hlt, fun H' => ∃ S' vs' acc, Go K (hide F Dp) S1 (upd H1 Dp (.lst [])) S' (upd H' Dp (.lst [])) ∧ H' Dp = some (.lst vs') ∧ RelL K (fz (hide F Dp) S' H') vs' acc ∧ lcL kp (dTg tg) tt te vs δ (items.drop (i + 1)) acc S' P,
      fun H' q => ⟨items.length - (i + 1), by omega, rfl, hlt, q⟩, fun x H3 y => ?_⟩
    obtain ⟨d, e, g3, rx⟩ := w3 i x H3 hlt y
    have ed : items.drop i = d :: items.drop (i + 1) := by
      rw [List.drop_eq_getElem_cons hlt]
      rw [List.getElem?_eq_getElem hlt] at e
      cases e
      rfl
    rw [ed] at h2
    obtain ⟨_, hacc, h2⟩ := h2
    -- later states, D behind them
    have later : ∀ {S4 : Sto} {H4 : Hp}, Go K (hide F Dp) S2 H2 S4 H4 → Go K (hide F Dp) S1 (upd H1 Dp (.lst [])) S4 (upd H4 Dp (.lst [])) := fun {S4 H4} g => by
      refine g2.trans ⟨?_, fun a f => ?_, g.sim.hidePut⟩
      · rw [fz_hide_upd, fz_hide_upd]
        exact g.same
      · by_cases z : a = Dp
        · subst z; rw [upd_same, upd_same]
        · rw [upd_ne z, upd_ne z]; exact g.hid a f
    refine gTg_ok tg rx ((rs2.wipe vs).mono g3.same) h2 fun σ4 δ4 rs4 h4 hw => ⟨?_, ?_⟩
    · rw [hw vs hv]
      exact wipe_wipe σ vs
    refine ⟨hide F Dp, δ4, S2, _, g3.sim, rs4, h4, fun b S5 h5 H5 g5 => ?_⟩
    have g25 := g3.trans g5
    cases b with
    | false => exact ⟨S5, vs2, acc, later g25, (g25.hid Dp (by simp [hide])).trans e2, r2.mono g25.same, h5⟩
    | true =>
      refine ⟨hide F Dp, δ4, S5, _, g5.sim, rs4.mono g5.same, h5, fun dy S6 h6 vy H6 g6 r6 => ?_⟩
      have g26 := g25.trans g6
      have e6 : H6 Dp = some (.lst vs2) := (g26.hid Dp (by simp [hide])).trans e2
      refine ⟨vs2, e6, by rw [r2.length]; exact hacc, S6, vs2 ++ [vy], acc ++ [dy], ?_, upd_same, ?_, h6⟩
      · rw [upd_upd]
        exact later g26
      · rw [fz_hide_upd]
        exact (r2.mono g26.same).append (.cons r6 .nil)
  · have e : i = items.length := by omega
    subst e
    rw [List.drop_length] at h2
    refine .inl ⟨w2, ?_⟩
    refine c1 _ _ h2.2 _ _ go2 (.lst ?_ (r2.mono fz_hide_same))
    cases z : S2 Dp with
    | none => rw [fz_none fD z]; exact e2
    | some u =>
      have := (s2.at_ Dp u z).1
      simp [hide] at this
where
  wipe_wipe (σ : St) (vs : List Nat) : L2.wipe (L2.wipe σ vs) vs = L2.wipe σ vs := by
    have c : ∀ (js : List Nat) (τ : St), (∀ j ∈ js, j < τ.length → τ[j]? = some none) → L2.wipe τ js = τ := by
      intro js
      induction js with
      | nil => intro τ _; rfl
      | cons j js ih =>
        intro τ h
        show (L2.wipe τ js).set j none = τ
        rw [ih τ fun k hk => h k (List.mem_cons_of_mem _ hk)]
        by_cases hj : j < τ.length
        · have q := h j List.mem_cons_self hj
          rw [List.getElem?_eq_getElem hj] at q
          have q' := Option.some.inj q
          rw [← q']
          exact List.set_getElem_self hj
        · exact List.set_eq_of_length_le (by omega)
    refine c vs _ fun j hj hl => ?_
    have d : ∀ (js : List Nat) (τ : St), j ∈ js → j < τ.length → (L2.wipe τ js)[j]? = some none := by
      intro js
      induction js with
      | nil => intro τ h; cases h
      | cons k js ih =>
        intro τ h hl
        show ((L2.wipe τ js).set k none)[j]? = some none
        rw [List.getElem?_set]
        by_cases z : k = j
        · rw [if_pos z, if_pos (by rw [wipe_length]; omega)]
        · rw [if_neg z]
          refine ih τ ?_ hl
          rcases List.mem_cons.mp h with e | e
          · exact absurd e.symm z
          · exact e
    exact d vs σ hj (by rw [wipe_length] at hl; exact hl)
theorem dpt_yes : ∀ {X : Cx}, PTs X [] (lfT X.K dYes) := ⟨fun pins s σ H Q I ⟨F, δ, S, P, sm, rs, h, c⟩ => pts_nil.run pins s σ H Q I (c _ _ h _ (Go.refl sm))⟩
theorem dpts_one {c : Expr} {t : DTT} (h : DPT X c t) : PTs X [c] (lfT X.K t) := pts_one h
theorem dpe_lc {elt tge iter : Expr} {ifs : List Expr} {scope : Scope} {own : List (Str × Nat)} {pos : Pos} {wi : DTI} {tg : Tg} {tt : DTT} {te : DTE} (hN : X.N.Nodup) (hi : DPI X tge iter wi) (ok : BlkOk X.N X.env.scope scope own)
    (hg : ∀ (s : Shared) (H : Hp) (C : Addr) (cl : List (Str × Addr)) (fp : List Addr), PG (X.blk s H scope (compEnvC scope cl C X.env) fp) tge (gTg X.K tg)) (ht : ∀ (s : Shared) (H : Hp) (C : Addr) (cl : List (Str × Addr)) (fp : List Addr), PTs (X.blk s H scope (compEnvC scope cl C X.env) fp) ifs (lfT X.K tt))
    (he : ∀ (s : Shared) (H : Hp) (C : Addr) (cl : List (Str × Addr)) (fp : List Addr), DPE (X.blk s H scope (compEnvC scope cl C X.env) fp) elt te) (hv : ∀ i ∈ tg.slots, i ∈ own.map (·.2) := by decide) (hc : X.calm = true := by rfl) (hs : ∀ x, foldedSetIterable iter X.env x = pure x := by intro _; rfl) :
    DPE X (.ListComp elt [⟨tge, iter, ifs, 0⟩] scope pos) (dLc wi (dTg tg) tt te (own.map (·.2))) :=
  PEw (pe_lc (te := lf X.K te) hc hN hi ok hg ht (fun s H C cl fp => he s H C cl fp) hs) (lf_lc hv)
theorem dps_setLc {i : Nat} {y : Str} {py : Pos} {elt tge iter : Expr} {ifs : List Expr} {scope : Scope} {own : List (Str × Nat)} {pos spos : Pos} {wi : DTI} {tg : Tg} {tt : DTT} {te : DTE} (hN : X.N.Nodup) (hy : X.N[i]? = some y) (hyl : X.env.scope.names.lookup y = some .local)
    (hsw : swapsWith (.ListComp elt [⟨tge, iter, ifs, 0⟩] scope pos) (some (.Name y py)) spos.line X.env = pure true) (hi : DPI X tge iter wi) (ok : BlkOk X.N X.env.scope scope own)
    (hg : ∀ (s : Shared) (H : Hp) (C : Addr) (cl : List (Str × Addr)) (fp : List Addr), PG (X.blk s H scope (compEnvC scope cl C X.env) fp) tge (gTg X.K tg)) (ht : ∀ (s : Shared) (H : Hp) (C : Addr) (cl : List (Str × Addr)) (fp : List Addr), PTs (X.blk s H scope (compEnvC scope cl C X.env) fp) ifs (lfT X.K tt))
    (he : ∀ (s : Shared) (H : Hp) (C : Addr) (cl : List (Str × Addr)) (fp : List Addr), DPE (X.blk s H scope (compEnvC scope cl C X.env) fp) elt te) (hv : ∀ i ∈ tg.slots, i ∈ own.map (·.2) := by decide) (hc : X.calm = true := by rfl) (hs : ∀ x, foldedSetIterable iter X.env x = pure x := by intro _; rfl) :
    DPS X (.Assign [.Name y py] (.ListComp elt [⟨tge, iter, ifs, 0⟩] scope pos) spos) (dAsg (dLc wi (dTg tg) tt te (own.map (·.2))) (dTg (.nm i))) := by
  refine PSw (ps_setLc (te := lf X.K te) hc hN hy hyl hsw hi ok hg ht (fun s H C cl fp => he s H C cl fp) hs) fun D σ H ⟨F, δ, S, P, sm, rs, h, c⟩ => ?_
  refine lf_lc hv σ H _ ⟨F, δ, S, _, sm, rs, h, fun d S1 h1 v H1 g1 r1 => ?_⟩
  exact c.nx _ _ h1 _ _ g1 ((rs.mono g1.same).dset r1 i)
end
/-! ### methods of lists -/
section
variable {X : Cx} {o e a : Expr} {to te : DTE} {t : DTA} {es : List Expr} {apos cpos : Pos} {name : Str} {T id : String}
/-- a method of a built-in's object, by data: the receiver's type and the reading -/
structure DMt (X : Cx) (T id : String) (r' : D → List D → Sto → DK → Prop) : Prop where
  ex : ∃ r, MtR X id r ∧ LRM X.K r r' ∧ ∀ x dx ds F S H P, Sim X.K F S H → Rel X.K (fz F S H) x dx → r' dx ds S P → tyV X.K T x H
abbrev dBM (r : D → List D → Sto → DK → Prop) (to : DTE) (t : DTA) : DTE := fun δ S Q => to δ S fun x S1 => t δ S1 fun xs S2 => r x xs S2 Q
/-- the receiver is looked at ahead of the arguments: what a list stays -/
def isSeq (S : Sto) : D → Prop
  | .ref a => ∃ ds, S a = some (.lst ds)
  | _ => False
abbrev dLM (r : D → List D → Sto → DK → Prop) (to : DTE) (t : DTA) : DTE := fun δ S Q => to δ S fun x S1 => isSeq S1 x ∧ t δ S1 fun xs S2 => r x xs S2 Q
theorem isSeq_ty {K : PySem.W.Frag} {F : Addr → Bool} {S : Sto} {H : Hp} {v : V} {d : D} (sm : Sim K F S H) (r : Rel K (fz F S H) v d) (h : isSeq S d) : tyV K "list" v H := by
  cases r <;> first | exact (h : False).elim | skip
  obtain ⟨ds, e⟩ := h
  obtain ⟨vs, e1, r1⟩ := sm.lst e
  exact .inl ⟨rfl, vs, .of e1⟩
/-- a method of a mutable list -/
theorem dpe_lm {r : V → List V → Hp → VK → Prop} {r' : D → List D → Sto → DK → Prop} (slot : Slot "list" name id) (hty : typeOf (.builtin id) = pure (.type "method_descriptor")) (hm : MtM X id r) (hl : LRM X.K r r') (ho : DPE X o to) (ha : DPA X (e :: es) t)
    (hbase : attributeBase o name X.env (eval o X.env) = eval o X.env := by rfl)
    (hfew : ((backTo cpos (starEach (e :: es) X.env)).all (fun x => !x.1) && (backToKw cpos (keywordEach [] X.env)).all (fun x => x.1.isSome)
      && decide ((e :: es).length + ([] : List Keyword).length + (if ([] : List Keyword).isEmpty then 0 else 1) < 30)) = true := by rfl)
    (hline : (apos.endLine == cpos.line) = true := by rfl) (hs : starEach (e :: es) X.env = (false, eval e X.env) :: starEach es X.env := by rfl) (hplain : (backTo cpos (starEach es X.env)).any (·.1) = false := by rfl) :
    DPE X (.Call (.Attribute o name apos) (e :: es) [] cpos) (dLM r' to t) :=
  PEw (pe_bm PySem.F.plainAttrs_list slot hty hm ho ha hbase hfew hline hs hplain) fun σ H Q ⟨F, δ, S, P, sm, rs, h, c⟩ =>
    ⟨F, δ, S, _, sm, rs, h, fun d S1 ⟨h0, h1⟩ v H1 g1 r1 => ⟨isSeq_ty g1.sim r1 h0, F, δ, S1, _, g1.sim, rs.mono g1.same, h1, fun ds S2 h2 vs H2 g2 r2 => hl v vs d ds F S2 H2 P Q g2.sim (r1.mono g2.same) r2 h2 (c.mono (g1.trans g2))⟩⟩
theorem dpe_lm0 {r : V → List V → Hp → VK → Prop} {r' : D → List D → Sto → DK → Prop} (slot : Slot "list" name id) (hty : typeOf (.builtin id) = pure (.type "method_descriptor")) (hm : MtM X id r) (hl : LRM X.K r r') (ho : DPE X o to)
    (hbase : attributeBase o name X.env (eval o X.env) = eval o X.env := by rfl) (hline : (apos.endLine == cpos.line) = true := by rfl) :
    DPE X (.Call (.Attribute o name apos) [] [] cpos) (dLM r' to dNil) :=
  PEw (pe_bm0 PySem.F.plainAttrs_list slot hty hm ho hbase hline) fun σ H Q ⟨F, δ, S, P, sm, rs, h, c⟩ =>
    ⟨F, δ, S, _, sm, rs, h, fun d S1 ⟨h0, h1⟩ v H1 g1 r1 => ⟨isSeq_ty g1.sim r1 h0, hl v [] d [] F S1 H1 P Q g1.sim r1 .nil h1 (c.mono g1)⟩⟩
/-- xs.append(y) -/
def vAppend : D → List D → Sto → DK → Prop
  | .ref a, [d], S, Q => match S a with
    | some (.lst ds) => ds.length < sizeLine ∧ Q .non (sup S a (.lst (ds ++ [d])))
    | _ => False
  | _, _, _, _ => False
theorem lr_append : LRM X.K rAppend vAppend := fun x xs dx ds F S H P Q sm rx rxs q c => by
  cases rx <;> first | exact (q : False).elim | skip
  rename_i a
  cases rxs with
  | nil => exact (q : False).elim
  | cons r1 r2 =>
  cases r2 with
  | cons _ _ => exact (q : False).elim
  | nil =>
  simp only [vAppend] at q
  split at q
  · rename_i ds e
    obtain ⟨vs, e1, rv⟩ := sm.lst e
    exact ⟨a, vs, _, rfl, rfl, e1, by rw [rv.length]; exact q.1, c.put (o := .lst (vs ++ [_])) (u' := .lst (ds ++ [_])) sm e ⟨_, rfl, rv.append (.cons r1 .nil)⟩ .non q.2⟩
  · exact q.elim
/-- xs.pop() -/
def vPop : D → List D → Sto → DK → Prop
  | .ref a, [], S, Q => match S a with
    | some (.lst ds) => match ds[ds.length - 1]? with | some d => Q d (sup S a (.lst ds.dropLast)) | none => False
    | _ => False
  | _, _, _, _ => False
theorem RelL.dropLast {K : PySem.W.Frag} {G : Hp} {xs : List V} {ds : List D} (r : RelL K G xs ds) : RelL K G xs.dropLast ds.dropLast := by
  rw [List.dropLast_eq_take, List.dropLast_eq_take, r.length]
  exact r.take _
theorem lr_pop : LRM X.K rPop vPop := fun x xs dx ds F S H P Q sm rx rxs q c => by
  cases rx <;> first | exact (q : False).elim | skip
  rename_i a
  cases rxs with
  | cons _ _ => exact (q : False).elim
  | nil =>
  simp only [vPop] at q
  split at q
  · rename_i ds e
    obtain ⟨vs, e1, rv⟩ := sm.lst e
    split at q
    · rename_i d e2
      obtain ⟨v, e3, r3⟩ := rv.get e2
      exact ⟨a, vs, v, rfl, rfl, e1, by rw [rv.length]; exact e3, c.put (o := .lst vs.dropLast) (u' := .lst ds.dropLast) sm e ⟨_, rfl, rv.dropLast⟩ r3 q⟩
    · exact q.elim
  · exact q.elim
end
end L3

set_option Elab.async false
set_option maxRecDepth 100000
set_option linter.all false
set_option maxHeartbeats 2000000
namespace L3
open PySem PySem.Spec PyProof.Rows L2
/-! ### defs and their promises -/
abbrev DSp := List D → Sto → DK → Prop
def lfSp (K : PySem.W.Frag) (sp : DSp) : Sp := fun vs H Q _ => ∃ F ds S P, Sim K F S H ∧ RelL K (fz F S H) vs ds ∧ sp ds S P ∧ Ct K F S H P Q
abbrev FnD (P : Program) (w : World) (K : PySem.W.Frag) (mg : Str → Option Value) (base : Heap) (k : Nat) (f : Addr) (fd : FuncData) (ps : List Str) (sp : DSp) : Prop := FnOk P w K mg base CX0 k f fd ps (lfSp K sp)
abbrev dCall (sp : DSp) (t : DTA) : DTE := fun δ S Q => t δ S fun ds S1 => sp ds S1 Q
section
variable {X : Cx} {k : Nat} {f : Addr} {fd : FuncData} {ps : List Str} {sp : DSp} {x : Str} {p pos : Pos} {e : Expr} {es : List Expr} {t : DTA}
theorem dpe_call (F : FnD X.prog X.w X.K X.mg X.base k f fd ps sp) (hr : Room k X.A) (hg : Gl X x) (hm : X.mg x = some (.ref f)) (hk : PySem.W.keepIn X.K (.ref f) = true) (hb : Binds X.K fd ps [])
    (ha : DPA X (e :: es) t) (hdb : (x == ("__debug__" : Str)) = false := by decide) (he : starEach (e :: es) X.env = (false, eval e X.env) :: starEach es X.env := by rfl) (hpl : (backTo pos (starEach es X.env)).any (·.1) = false := by rfl) :
    DPE X (.Call (.Name x p) (e :: es) [] pos) (dCall sp t) :=
  PEw (pe_call F hr hg hm hk hb .nil pass0 ha hdb he hpl) fun σ H Q ⟨F, δ, S, P, sm, rs, h, c⟩ => ⟨F, δ, S, _, sm, rs, h, fun ds S1 h1 vs H1 g1 r1 => by
    show lfSp X.K sp (vs ++ []) H1 Q E0
    rw [List.append_nil]
    exact ⟨F, ds, S1, P, g1.sim, r1, h1, c.mono g1⟩⟩
theorem dpe_call0 (F : FnD X.prog X.w X.K X.mg X.base k f fd ps sp) (hr : Room k X.A) (hg : Gl X x) (hm : X.mg x = some (.ref f)) (hk : PySem.W.keepIn X.K (.ref f) = true) (hb : Binds X.K fd ps [])
    (hdb : (x == ("__debug__" : Str)) = false := by decide) : DPE X (.Call (.Name x p) [] [] pos) (dCall sp dNil) :=
  PEw (pe_call0 F hr hg hm hk hb .nil pass0 hdb) fun σ H Q ⟨F, δ, S, P, sm, rs, h, c⟩ => ⟨F, [], S, P, sm, .nil, h, c⟩
end
/-! what is handed back: parts of the store let go, lists that nobody changes any more -/
mutual
inductive Lw (S' S'' : Sto) : D → D → Prop
  | refl (d : D) : Lw S' S'' d d
  | frz {a : Addr} {ds es : List D} : S' a = some (.lst ds) → S'' a = none → LwL S' S'' ds es → Lw S' S'' (.ref a) (.lst es)
  | tup {ds es : List D} : LwL S' S'' ds es → Lw S' S'' (.tup ds) (.tup es)
inductive LwL (S' S'' : Sto) : List D → List D → Prop
  | nil : LwL S' S'' [] []
  | cons {d e : D} {ds es : List D} : Lw S' S'' d e → LwL S' S'' ds es → LwL S' S'' (d :: ds) (e :: es)
end
theorem LwL.refl {S' S'' : Sto} : ∀ ds : List D, LwL S' S'' ds ds
  | [] => .nil
  | d :: ds => .cons (.refl d) (LwL.refl ds)
section
variable {K : PySem.W.Frag} {F : Addr → Bool} {S' S'' : Sto} {H : Hp}
theorem fz_less (h : ∀ a o, S'' a = some o → S' a = some o) : Same (fz F S' H) (fz F S'' H) := fun b x e => by
  obtain ⟨h0, h1, h2⟩ := fz_of e
  rw [fz_none h0 ?_]
  · exact h2
  · cases q : S'' b with
    | none => rfl
    | some u => rw [h b u q] at h1; cases h1
mutual
theorem Lw.rel (sm : Sim K F S' H) (h : ∀ a o, S'' a = some o → S' a = some o) : ∀ {d e : D} {v : V}, Lw S' S'' d e → Rel K (fz F S' H) v d → Rel K (fz F S'' H) v e
  | _, _, _, .refl d, r => r.mono (fz_less h)
  | _, _, _, .frz (a := a) h1 h2 l, r => by
    cases r
    obtain ⟨vs, e1, r1⟩ := sm.lst h1
    refine .lst ?_ (LwL.rel sm h l r1)
    rw [fz_none (sm.at_ _ _ h1).1 h2]
    exact e1
  | _, _, _, .tup l, r => by
    cases r with
    | tup hs rl => exact .tup (sqT_mono (fz_less h) hs) (LwL.rel sm h l rl)
theorem LwL.rel (sm : Sim K F S' H) (h : ∀ a o, S'' a = some o → S' a = some o) : ∀ {d e : List D} {v : List V}, LwL S' S'' d e → RelL K (fz F S' H) v d → RelL K (fz F S'' H) v e
  | _, _, _, .nil, .nil => .nil
  | _, _, _, .cons a b, .cons r t => .cons (Lw.rel sm h a r) (LwL.rel sm h b t)
end
end
/-- P holds of what is left -/
def Fin_ (P : DK) : DK := fun d S' => ∃ e S'', (∀ a o, S'' a = some o → S' a = some o) ∧ Lw S' S'' d e ∧ P e S''
theorem Fin_.of {P : DK} {d : D} {S : Sto} (h : P d S) : Fin_ P d S := ⟨d, S, fun _ _ q => q, .refl d, h⟩
theorem Ct.fin {K : PySem.W.Frag} {F : Addr → Bool} {S : Sto} {H : Hp} {P : DK} {Q : VK} (c : Ct K F S H P Q) : Ct K F S H (Fin_ P) Q := fun d S' ⟨e, S'', h1, h2, h3⟩ v H' g r =>
  c e S'' h3 v H' (g.drop h1) (h2.rel g.sim h1 r)
abbrev dstart : List Str → List D → DSt
  | [], _ => []
  | _ :: N, [] => none :: dstart N []
  | _ :: N, d :: ds => some d :: dstart N ds
theorem rels_start {K : PySem.W.Frag} {G : Hp} : ∀ {N : List Str} {vs : List V} {ds : List D}, RelL K G vs ds → ds.length ≤ N.length → RelS K G (L2.start N vs) (dstart N ds)
  | [], _, _, .nil, _ => .nil
  | [], _, _, .cons _ _, h => by simp at h
  | x :: N, _, _, .nil, h => by
    have q := rels_start (N := N) (K := K) (G := G) .nil (Nat.zero_le _)
    exact .skip q
  | x :: N, _, _, .cons r t, h => by
    have q := rels_start (N := N) t (by simpa using h)
    have e : ∀ (v : V) (vs : List V), L2.start (x :: N) (v :: vs) = some v :: L2.start N vs := fun v vs => by
      unfold L2.start
      simp
    rw [e]
    exact .cons r q
/-! promises by their arguments -/
abbrev a0 (sp : Sto → DK → Prop) : DSp := fun ds S Q => match ds with | [] => sp S Q | _ => False
abbrev a1 (sp : D → Sto → DK → Prop) : DSp := fun ds S Q => match ds with | [a] => sp a S Q | _ => False
abbrev a2 (sp : D → D → Sto → DK → Prop) : DSp := fun ds S Q => match ds with | [a, b] => sp a b S Q | _ => False
abbrev a3 (sp : D → D → D → Sto → DK → Prop) : DSp := fun ds S Q => match ds with | [a, b, c] => sp a b c S Q | _ => False
abbrev a4 (sp : D → D → D → D → Sto → DK → Prop) : DSp := fun ds S Q => match ds with | [a, b, c, d] => sp a b c d S Q | _ => False
abbrev a5 (sp : D → D → D → D → D → Sto → DK → Prop) : DSp := fun ds S Q => match ds with | [a, b, c, d, e] => sp a b c d e S Q | _ => False
abbrev a6 (sp : D → D → D → D → D → D → Sto → DK → Prop) : DSp := fun ds S Q => match ds with | [a, b, c, d, e, f] => sp a b c d e f S Q | _ => False
theorem a0_len {sp} : ∀ ds S P, a0 sp ds S P → ds.length = 0
  | [], _, _, _ => rfl
  | _ :: _, _, _, h => (h : False).elim
theorem a1_len {sp} : ∀ ds S P, a1 sp ds S P → ds.length = 1
  | [_], _, _, _ => rfl
  | [], _, _, h | _ :: _ :: _, _, _, h => (h : False).elim
theorem a2_len {sp} : ∀ ds S P, a2 sp ds S P → ds.length = 2
  | [_, _], _, _, _ => rfl
  | [], _, _, h | [_], _, _, h | _ :: _ :: _ :: _, _, _, h => (h : False).elim
theorem a3_len {sp} : ∀ ds S P, a3 sp ds S P → ds.length = 3
  | [_, _, _], _, _, _ => rfl
  | [], _, _, h | [_], _, _, h | [_, _], _, _, h | _ :: _ :: _ :: _ :: _, _, _, h => (h : False).elim
theorem a4_len {sp} : ∀ ds S P, a4 sp ds S P → ds.length = 4
  | [_, _, _, _], _, _, _ => rfl
  | [], _, _, h | [_], _, _, h | [_, _], _, _, h | [_, _, _], _, _, h | _ :: _ :: _ :: _ :: _ :: _, _, _, h => (h : False).elim
theorem a5_len {sp} : ∀ ds S P, a5 sp ds S P → ds.length = 5
  | [_, _, _, _, _], _, _, _ => rfl
  | [], _, _, h | [_], _, _, h | [_, _], _, _, h | [_, _, _], _, _, h | [_, _, _, _], _, _, h | _ :: _ :: _ :: _ :: _ :: _ :: _, _, _, h => (h : False).elim
theorem a6_len {sp} : ∀ ds S P, a6 sp ds S P → ds.length = 6
  | [_, _, _, _, _, _], _, _, _ => rfl
  | [], _, _, h | [_], _, _, h | [_, _], _, _, h | [_, _, _], _, _, h | [_, _, _, _], _, _, h | [_, _, _, _, _], _, _, h | _ :: _ :: _ :: _ :: _ :: _ :: _ :: _, _, _, h => (h : False).elim
/-- what follows a def's body -/
abbrev DEnds.of (P : DK) : DEnds := { nx := fun _ S' => Fin_ P .non S', rt := Fin_ P }
section
variable {P : Program} {w : World} {K : PySem.W.Frag} {mg : Str → Option Value} {base : Heap}
/-- a def: its derivation, its reading -/
theorem FnD.mk {x qual : Str} {st : Stmt} {f : Addr} {fd : FuncData} {N ps : List Str} {k : Nat} {sp : DSp} {t : DTS} (Fn : Fun K x qual st f fd) (Sc : FnScope N ps (defScope st)) (len : ∀ ds S P, sp ds S P → ds.length = ps.length)
    (hb : ∀ (cdv : Value) (A : Around) (outer : List Env) (s : Shared) (H : Hp) (E : XK), Room k (A.deeper (envOfC qual (defScope st) s.heap.objs.size f cdv)) → DPSs (cxOf CX0 P w K mg base N qual (defScope st) f cdv A outer s H E).nox (defBody st) t)
    (hread : ∀ ds S P, sp ds S P → t (DEnds.of P) (dstart N ds) S) : FnD P w K mg base (k + 1) f fd ps sp := by
  refine Fn.ok Sc (fun vs H Q E ⟨F, ds, S, P, sm, rl, h, c⟩ => by rw [rl.length]; exact len _ _ _ h) fun cdv A outer s H vs Q E hr ⟨F, ds, S, P, sm, rl, h, c⟩ => ?_
  have hle : ps.length ≤ N.length := by
    have := congrArg List.length Sc.pre
    rw [List.length_take] at this
    omega
  refine ⟨_, hb cdv A outer s H E hr, F, dstart N ds, S, _, sm, rels_start rl (by rw [len _ _ _ h]; exact hle), hread ds S P h, ⟨fun δ' S' h' σ' H' g rs' => ?_, c.fin, fun _ _ q => q.elim, fun _ _ q => q.elim⟩⟩
  exact c.fin _ _ h' _ _ g .non
/-- the law itself -/
def spTrue : DSp := fun ds S P => ∃ ns : List Int, ds = [.ro (ns.map .int)] ∧ ns.length ≤ 63 ∧ ∀ S', P (.bl true) S'
def spLaw (K : PySem.W.Frag) : Sp := fun vs H Q _ => ∃ (a : Addr) (ns : List Int), vs = [.ref a] ∧ SqL K H a (ns.map V.int) ∧ ns.length ≤ 63 ∧ ∀ H', Q (.bl true) H'
theorem FnD.law {k : Nat} {f : Addr} {fd : FuncData} (F : FnD P w K mg base k f fd ["script"] spTrue) : FnOk P w K mg base CX0 k f fd ["script"] (spLaw K) :=
  F.imp fun vs H Q E ⟨a, ns, e, hs, hl, q⟩ => by
    subst e
    have e0 : fz (fun _ => false) (fun _ => none) H = H := rfl
    refine ⟨fun _ => false, [.ro (ns.map .int)], fun _ => none, fun d _ => d = .bl true, ⟨fun a o (z : none = some o) => (nomatch z), fun a (z : false = true) => (nomatch z)⟩, ?_, ⟨ns, rfl, hl, fun _ => rfl⟩, fun d S' e v H' g r => ?_⟩
    · rw [e0]
      exact .cons (.ro hs (.ofInts ns)) .nil
    · subst e
      cases r
      exact q H'
end
end L3

set_option Elab.async false
set_option maxRecDepth 100000
set_option linter.all false
set_option maxHeartbeats 2000000
namespace L3
open PySem L2
/-! ### lemmas for running readings -/
section
variable {α : Type} {a b c d e f g : α} {r : List α}
theorem atI_nat {xs : List α} {i : Nat} : atI xs (i : Int) = xs[i]? := by
  unfold atI ixN
  rw [if_pos (by omega)]
  by_cases h : i < xs.length
  · rw [if_pos (by omega)]
    simp
  · rw [if_neg (by omega)]
    simp at h
    simp [h]
theorem atI_int {xs : List α} {i : Int} (h0 : 0 ≤ i) : atI xs i = xs[i.toNat]? := by
  obtain ⟨n, rfl⟩ := Int.eq_ofNat_of_zero_le h0
  exact atI_nat
@[simp] theorem atI_0 : atI (a :: r) 0 = some a := atI_nat (i := 0)
@[simp] theorem atI_1 : atI (a :: b :: r) 1 = some b := atI_nat (i := 1)
@[simp] theorem atI_2 : atI (a :: b :: c :: r) 2 = some c := atI_nat (i := 2)
@[simp] theorem atI_3 : atI (a :: b :: c :: d :: r) 3 = some d := atI_nat (i := 3)
@[simp] theorem atI_4 : atI (a :: b :: c :: d :: e :: r) 4 = some e := atI_nat (i := 4)
@[simp] theorem atI_5 : atI (a :: b :: c :: d :: e :: f :: r) 5 = some f := atI_nat (i := 5)
end
@[simp] theorem toPs_map_int (p : List Int) : toPs (p.map .int) = p.map .int := by
  induction p with
  | nil => rfl
  | cons x p ih => simp only [List.map_cons, toPs, toP, ih]
@[simp] theorem okEs_map_int (p : List Int) : okEs (p.map .int) = true := by
  induction p with
  | nil => rfl
  | cons x p ih => simp only [List.map_cons, okEs, okE, ih, Bool.and_self]
@[simp] theorem deps_map_int (p : List Int) : deps (p.map .int) = 0 := by
  induction p with
  | nil => rfl
  | cons x p ih => simp only [List.map_cons, deps, dep, ih, Nat.max_self]
theorem eqvAll_ints : ∀ (p q : List Int), PyData.eqvAll (p.map .int) (q.map .int) = decide (p = q)
  | [], [] => by simp [PyData.eqvAll]
  | [], _ :: _ => by simp [PyData.eqvAll]
  | _ :: _, [] => by simp [PyData.eqvAll]
  | a :: p, b :: q => by simp only [List.map_cons, PyData.eqvAll, PyData.eqv, eqvAll_ints p q, List.cons.injEq, Bool.decide_and]; rfl
theorem cut_from {α : Type} (xs : List α) (n : Nat) : cut xs (some (n : Int)) none = xs.drop n := by
  unfold cut
  rw [HT.sIx_nat, HT.sIx_none]
  by_cases h : n ≤ xs.length
  · rw [Nat.min_eq_left h, List.take_of_length_le (by simp)]
  · rw [Nat.min_eq_right (by omega), List.drop_eq_nil_of_le (Nat.le_refl _), List.drop_eq_nil_of_le (by omega)]
    simp
theorem cut_to {α : Type} (xs : List α) (n : Nat) : cut xs none (some (n : Int)) = xs.take n := by
  unfold cut
  rw [HT.sIx_nat, HT.sIx_none]
  simp only [List.drop_zero, Nat.sub_zero]
  by_cases h : n ≤ xs.length
  · rw [Nat.min_eq_left h]
  · rw [Nat.min_eq_right (by omega), List.take_of_length_le (Nat.le_refl _), List.take_of_length_le (by omega)]
theorem cut_map {α β : Type} (f : α → β) (xs : List α) (lo hi : Option Int) : cut (xs.map f) lo hi = (cut xs lo hi).map f := by
  unfold cut
  rw [List.length_map, List.map_take, List.map_drop]
/-- a comprehension whose elements are told by a function, nothing changes -/
theorem lcL_pure {kp : Sto → Prop} {te : DTE} {vs : List Nat} {δ : DSt} {i : Nat} {S : Sto} {Q : DK} (f : D → D) (hk : kp S) : ∀ (ds acc : List D), acc.length + ds.length ≤ sizeLine →
    (∀ d ∈ ds, ∀ P : DK, P (f d) S → te (dset (dwipe δ vs) i (some d)) S P) → Q (.lst (acc ++ ds.map f)) S → lcL kp (dTg (.nm i)) dYes te vs δ ds acc S Q
  | [], acc, _, _, q => ⟨hk, by simpa using q⟩
  | d :: ds, acc, hz, he, q => by
    refine ⟨hk, by simp only [List.length_cons] at hz; omega, ?_⟩
    show (if true = true then te _ S _ else _)
    rw [if_pos rfl]
    refine he d List.mem_cons_self _ ?_
    refine lcL_pure f hk ds (acc ++ [f d]) (by simp only [List.length_append, List.length_cons, List.length_nil] at hz ⊢; omega) (fun e h => he e (List.mem_cons_of_mem _ h)) ?_
    simpa using q
/-- a for, by an invariant over the turn's number -/
theorem forL_inv {kp : Sto → Prop} {g : DTG} {tb : DTS} {D' : DEnds} (I : Nat → DSt → Sto → Prop) (hk : ∀ i δ S, I i δ S → kp S) : ∀ (ds : List D) (i : Nat) (δ : DSt) (S : Sto), I i δ S →
    (∀ (j : Nat) (d : D) δ S, ds[j]? = some d → I (i + j) δ S → ∀ D2 : DEnds, D2.rt = D'.rt → D2.bk = D'.nx → (∀ δ S, I (i + j + 1) δ S → D2.nx δ S) → (∀ δ S, I (i + j + 1) δ S → D2.ct δ S) → g d δ S fun δ1 S1 => tb D2 δ1 S1) →
    (∀ δ S, I (i + ds.length) δ S → D'.nx δ S) → forL kp g tb ds D' δ S
  | [], i, δ, S, h, _, he => ⟨hk _ _ _ h, he _ _ h⟩
  | d :: ds, i, δ, S, h, hs, he => by
    have rec_ : ∀ δ S, I (i + 1) δ S → forL kp g tb ds D' δ S := fun δ S h' => forL_inv I hk ds (i + 1) δ S h' (fun j e δ S h1 h2 D2 a b c c' => hs (j + 1) e δ S (by simpa using h1) (by rw [show i + (j + 1) = i + 1 + j by omega]; exact h2) D2 a b
        (fun δ S z => c δ S (by rw [show i + 1 + j + 1 = i + (j + 1) + 1 by omega]; exact z)) (fun δ S z => c' δ S (by rw [show i + 1 + j + 1 = i + (j + 1) + 1 by omega]; exact z)))
      (fun δ S z => he δ S (by rw [List.length_cons, show i + (ds.length + 1) = i + 1 + ds.length by omega]; exact z))
    exact ⟨hk _ _ _ h, hs 0 d δ S rfl h { D' with nx := forL kp g tb ds D', ct := forL kp g tb ds D', bk := D'.nx } rfl rfl rec_ rec_⟩
/-- a while, by an invariant over the most turns that are left -/
theorem whileN_inv {c : DTT} {tb : DTS} {D' : DEnds} (I : Nat → DSt → Sto → Prop)
    (hs : ∀ n δ S, I n δ S → ∀ D2 : DEnds, D2.rt = D'.rt → D2.bk = D'.nx → (∀ k δ S, n = k + 1 → I k δ S → D2.nx δ S) → (∀ k δ S, n = k + 1 → I k δ S → D2.ct δ S) → c δ S fun b S1 => if b = true then tb D2 δ S1 else D'.nx δ S1) :
    ∀ n δ S, I n δ S → whileN c tb (n + 1) D' δ S
  | 0, δ, S, h => hs 0 δ S h { D' with nx := whileN c tb 0 D', ct := whileN c tb 0 D', bk := D'.nx } rfl rfl (fun k δ S e => by omega) (fun k δ S e => by omega)
  | n + 1, δ, S, h => hs (n + 1) δ S h { D' with nx := whileN c tb (n + 1) D', ct := whileN c tb (n + 1) D', bk := D'.nx } rfl rfl
      (fun k δ S e z => by rw [show n = k by omega]; exact whileN_inv I hs k δ S z) (fun k δ S e z => by rw [show n = k by omega]; exact whileN_inv I hs k δ S z)
theorem Fin_.same {P : DK} {d : D} {S : Sto} (h : P d S) : Fin_ P d S := .of h
/-! ### equations for running readings: nothing is opened that is not known -/
def vAt : Option D → Sto → DK → Prop
  | some d, S, Q => Q d S
  | none, _, _ => False
theorem vAt_some {d S Q} : vAt (some d) S Q = Q d S := rfl
def vAtL : Option SO → Int → Sto → DK → Prop
  | some (.lst ds), i, S, Q => vAt (atI ds i) S Q
  | _, _, _, _ => False
theorem vAtL_lst {ds i S Q} : vAtL (some (.lst ds)) i S Q = vAt (atI ds i) S Q := rfl
section
variable {a b : Addr} {i j : Int} {x y d : D} {xs ys ds : List D} {s t : Str} {p q : Bool} {S : Sto} {Q : DK} {n : String} {lo hi : Option Int}
theorem vIx_tup : vIx (.tup ds) (.int i) S Q = vAt (atI ds i) S Q := by simp only [vIx]; cases atI ds i <;> rfl
theorem vIx_lst : vIx (.lst ds) (.int i) S Q = vAt (atI ds i) S Q := by simp only [vIx]; cases atI ds i <;> rfl
theorem vIx_ro : vIx (.ro ds) (.int i) S Q = vAt (atI ds i) S Q := by simp only [vIx]; cases atI ds i <;> rfl
theorem vIx_ref : vIx (.ref a) (.int i) S Q = vAtL (S a) i S Q := by
  simp only [vIx]
  rcases S a with _ | (ds | _ | _) <;> first | rfl | (simp only [vAtL]; cases atI ds i <;> rfl)
theorem vIx_str : vIx (.str s) (.int i) S Q = (s.length ≤ sizeLine ∧ match atI s.cps.toList i with | some c => Q (.str ⟨#[c]⟩) S | none => False) := rfl
theorem vSl_tup : vSl (.tup ds) lo hi S Q = Q (.tup (cut ds lo hi)) S := rfl
theorem vSl_lst : vSl (.lst ds) lo hi S Q = Q (.lst (cut ds lo hi)) S := rfl
theorem vSl_ro : vSl (.ro ds) lo hi S Q = Q (.lst (cut ds lo hi)) S := rfl
theorem vSl_str : vSl (.str s) lo hi S Q = (s.length ≤ sizeLine ∧ Q (.str (cutS s lo hi)) S) := rfl
def vSlL : Option SO → Option Int → Option Int → Sto → DK → Prop
  | some (.lst ds), lo, hi, S, Q => Q (.lst (cut ds lo hi)) S
  | _, _, _, _, _ => False
theorem vSlL_lst : vSlL (some (.lst ds)) lo hi S Q = Q (.lst (cut ds lo hi)) S := rfl
theorem vSl_ref : vSl (.ref a) lo hi S Q = vSlL (S a) lo hi S Q := by
  simp only [vSl]
  rcases S a with _ | (_ | _ | _) <;> rfl
theorem vLen_str : vLen [.str s] S Q = (s.length ≤ sizeLine ∧ Q (.int s.length) S) := rfl
theorem vLen_tup : vLen [.tup ds] S Q = Q (.int ds.length) S := rfl
theorem vLen_lst : vLen [.lst ds] S Q = Q (.int ds.length) S := rfl
theorem vLen_ro : vLen [.ro ds] S Q = Q (.int ds.length) S := rfl
def vLenL : Option SO → Sto → DK → Prop
  | some (.lst ds), S, Q => Q (.int ds.length) S
  | some (.dK kvs), S, Q => Q (.int kvs.length) S
  | _, _, _ => False
theorem vLenL_lst : vLenL (some (.lst ds)) S Q = Q (.int ds.length) S := rfl
theorem vLenL_dK {kvs : List (Key × D)} : vLenL (some (.dK kvs)) S Q = Q (.int kvs.length) S := rfl
theorem vLen_ref : vLen [.ref a] S Q = vLenL (S a) S Q := by
  simp only [vLen]
  rcases S a with _ | (_ | _ | _) <;> rfl
theorem vAdd_int : vAdd (.int i) (.int j) S Q = Q (.int (i + j)) S := rfl
theorem vAdd_str : vAdd (.str s) (.str t) S Q = (s.length + t.length ≤ sizeLine ∧ Q (.str (s ++ t)) S) := rfl
theorem vAdd_tup : vAdd (.tup xs) (.tup ys) S Q = (xs.length + ys.length ≤ sizeLine ∧ Q (.tup (xs ++ ys)) S) := rfl
theorem vAdd_lst : vAdd (.lst xs) (.lst ys) S Q = (xs.length + ys.length ≤ sizeLine ∧ Q (.lst (xs ++ ys)) S) := rfl
def vAddL : Option SO → List D → Sto → DK → Prop
  | some (.lst ds), ys, S, Q => ds.length + ys.length ≤ sizeLine ∧ Q (.lst (ds ++ ys)) S
  | _, _, _, _ => False
theorem vAddL_lst : vAddL (some (.lst ds)) ys S Q = (ds.length + ys.length ≤ sizeLine ∧ Q (.lst (ds ++ ys)) S) := rfl
theorem vAdd_ref : vAdd (.ref a) (.lst ys) S Q = vAddL (S a) ys S Q := by
  simp only [vAdd]
  rcases S a with _ | (_ | _ | _) <;> rfl
theorem vSub_int : vSub (.int i) (.int j) S Q = Q (.int (i - j)) S := rfl
theorem vLt_int : vLt (.int i) (.int j) S Q = Q (.bl (decide (i < j))) S := rfl
theorem vLe_int : vLe (.int i) (.int j) S Q = Q (.bl (decide (i ≤ j))) S := rfl
theorem vGt_int : vGt (.int i) (.int j) S Q = Q (.bl (decide (j < i))) S := rfl
theorem vGe_int : vGe (.int i) (.int j) S Q = Q (.bl (decide (j ≤ i))) S := rfl
theorem vMod_int : vMod (.int i) (.int j) S Q = (0 < j ∧ Q (.int (i % j)) S) := rfl
theorem vDiv_int : vDiv (.int i) (.int j) S Q = (CDiv i j ∧ Q (.int (i / j)) S) := rfl
theorem vPow_int : vPow (.int i) (.int j) S Q = (CPow i j ∧ Q (.int (i ^ j.toNat)) S) := rfl
theorem vShl_int : vShl (.int i) (.int j) S Q = (CPow i j ∧ Q (.int (i * 2 ^ j.toNat)) S) := rfl
theorem vMul_int : vMul (.int i) (.int j) S Q = ((CMul i j ∨ CMulW i j) ∧ Q (.int (i * j)) S) := rfl
theorem vMul_tup : vMul (.tup ds) (.int j) S Q = (ds ≠ [] ∧ 2 ≤ j ∧ j ≤ 1000 ∧ ds.length ≤ 1000 ∧ Q (.tup (List.replicate j.toNat ds).flatten) S) := rfl
theorem vMul_lst : vMul (.lst ds) (.int j) S Q = (-(2 ^ 63) ≤ j ∧ j < 2 ^ 63 ∧ ds.length * j.toNat ≤ sizeLine ∧ Q (.lst (List.replicate j.toNat ds).flatten) S) := rfl
theorem vEq_int : vEq (.int i) (.int j) S Q = Q (.bl (decide (i = j))) S := rfl
theorem vEq_str : vEq (.str s) (.str t) S Q = Q (.bl (decide (s = t))) S := rfl
theorem vEq_bl : vEq (.bl p) (.bl q) S Q = Q (.bl (decide (p = q))) S := rfl
theorem vEq_tup : vEq (.tup xs) (.tup ys) S Q = (okE (.tup xs) = true ∧ okE (.tup ys) = true ∧ dep (.tup xs) ≤ 64 ∧ dep (.tup ys) ≤ 64 ∧ Q (.bl (eqv (.tup xs) (.tup ys))) S) := rfl
theorem vEq_lst : vEq (.lst xs) (.lst ys) S Q = (okE (.lst xs) = true ∧ okE (.lst ys) = true ∧ dep (.lst xs) ≤ 64 ∧ dep (.lst ys) ≤ 64 ∧ Q (.bl (eqv (.lst xs) (.lst ys))) S) := rfl
theorem vNe_int : vNe (.int i) (.int j) S Q = Q (.bl (!decide (i = j))) S := rfl
theorem vNe_str : vNe (.str s) (.str t) S Q = Q (.bl (!decide (s = t))) S := rfl
theorem vNe_bl : vNe (.bl p) (.bl q) S Q = Q (.bl (!decide (p = q))) S := rfl
theorem vNe_tup : vNe (.tup xs) (.tup ys) S Q = (okE (.tup xs) = true ∧ okE (.tup ys) = true ∧ dep (.tup xs) ≤ 64 ∧ dep (.tup ys) ≤ 64 ∧ Q (.bl (!eqv (.tup xs) (.tup ys))) S) := rfl
theorem isN_non : isN .non = true := rfl
theorem isN_bl : isN (.bl p) = false := rfl
theorem isN_int : isN (.int i) = false := rfl
theorem isN_str : isN (.str s) = false := rfl
theorem isN_tup : isN (.tup ds) = false := rfl
theorem isN_lst : isN (.lst ds) = false := rfl
theorem isN_ref : isN (.ref a) = false := rfl
theorem vIs_non : vIs x .non S Q = Q (.bl (isN x)) S := rfl
theorem vIsNot_non : vIsNot x .non S Q = Q (.bl (!isN x)) S := rfl
theorem vNeg_int : vNeg (.int i) S Q = Q (.int (-i)) S := rfl
theorem vInt_int : vInt [.int i] S Q = Q (.int i) S := rfl
theorem vInt_bl : vInt [.bl p] S Q = Q (.int (if p then 1 else 0)) S := rfl
theorem vBool_int : vBool [.int i] S Q = Q (.bl (i != 0)) S := rfl
theorem vBool_bl : vBool [.bl p] S Q = Q (.bl p) S := rfl
theorem vAbs_int : vAbs [.int i] S Q = Q (.int (if i < 0 then -i else i)) S := rfl
theorem vMin2_int : vMin2 [.int i, .int j] S Q = Q (.int (if j < i then j else i)) S := rfl
theorem vMax2_int : vMax2 [.int i, .int j] S Q = Q (.int (if j > i then j else i)) S := rfl
theorem vTuple_tup : vTuple [.tup ds] S Q = Q (.tup ds) S := rfl
theorem vTuple_lst : vTuple [.lst ds] S Q = Q (.tup ds) S := rfl
def vTupleL : Option SO → Sto → DK → Prop
  | some (.lst ds), S, Q => Q (.tup ds) S
  | _, _, _ => False
theorem vTupleL_lst : vTupleL (some (.lst ds)) S Q = Q (.tup ds) S := rfl
theorem vTuple_ref : vTuple [.ref a] S Q = vTupleL (S a) S Q := by
  simp only [vTuple]
  rcases S a with _ | (_ | _ | _) <;> rfl
theorem vList_tup : vList [.tup ds] S Q = Q (.lst ds) S := rfl
theorem vList_lst : vList [.lst ds] S Q = Q (.lst ds) S := rfl
def vAllO (f : List Bool → Bool) : Option (List Bool) → Sto → DK → Prop
  | some bs, S, Q => Q (.bl (f bs)) S
  | none, _, _ => False
theorem vAllO_some {f : List Bool → Bool} {bs : List Bool} : vAllO f (some bs) S Q = Q (.bl (f bs)) S := rfl
theorem vAll_x : vAll [x] S Q = vAllO (fun bs => bs.all id) ((seqOf S x).bind asBls) S Q := by
  simp only [vAll]
  cases (seqOf S x).bind asBls <;> rfl
theorem vAny_x : vAny [x] S Q = vAllO (fun bs => bs.any id) ((seqOf S x).bind asBls) S Q := by
  simp only [vAny]
  cases (seqOf S x).bind asBls <;> rfl
theorem seqOf_lst : seqOf S (.lst ds) = some ds := rfl
theorem vIsi_x : vIsi [x, .ty n] S Q = vAllO (fun bs => bs.all id) ((isiT x n).map fun b => [b]) S Q := by
  simp only [vIsi]
  cases isiT x n with
  | none => rfl
  | some b => simp [vAllO]
theorem vIadd_int : vIadd (.int i) (.int j) S Q = Q (.int (i + j)) S := rfl
theorem vIadd_str : vIadd (.str s) (.str t) S Q = (s.length + t.length ≤ sizeLine ∧ Q (.str (s ++ t)) S) := rfl
def vAppL : Option SO → Addr → D → Sto → DK → Prop
  | some (.lst ds), a, d, S, Q => ds.length < sizeLine ∧ Q .non (sup S a (.lst (ds ++ [d])))
  | _, _, _, _, _ => False
theorem vAppL_lst : vAppL (some (.lst ds)) a d S Q = (ds.length < sizeLine ∧ Q .non (sup S a (.lst (ds ++ [d])))) := rfl
theorem vAppend_ref : vAppend (.ref a) [d] S Q = vAppL (S a) a d S Q := by
  simp only [vAppend]
  rcases S a with _ | (_ | _ | _) <;> rfl
def vSetO : Option SO → Addr → Int → D → Sto → (Sto → Prop) → Prop
  | some (.lst ds), a, k, v, S, Q => match ixN ds.length k with | some j => Q (sup S a (.lst (ds.set j v))) | none => False
  | _, _, _, _, _, _ => False
def vSetN : Option Nat → Addr → List D → D → Sto → (Sto → Prop) → Prop
  | some j, a, ds, v, S, Q => Q (sup S a (.lst (ds.set j v)))
  | none, _, _, _, _, _ => False
theorem vSetN_some {j : Nat} {Q : Sto → Prop} : vSetN (some j) a ds d S Q = Q (sup S a (.lst (ds.set j d))) := rfl
theorem vSetO_lst {Q : Sto → Prop} : vSetO (some (.lst ds)) a i d S Q = vSetN (ixN ds.length i) a ds d S Q := by
  simp only [vSetO]
  cases ixN ds.length i <;> rfl
theorem vSet_ref {Q : Sto → Prop} : vSet (.ref a) (.int i) d S Q = vSetO (S a) a i d S Q := by
  simp only [vSet]
  rcases S a with _ | (_ | _ | _) <;> rfl
theorem isSeq_ref : isSeq S (.ref a) = ∃ ds, S a = some (.lst ds) := rfl
theorem ex_lst : (∃ ds, (some (SO.lst xs)) = some (.lst ds)) = True := by simp
theorem isiT_int_int : isiT (.int i) "int" = some true := rfl
theorem isiT_int_bool : isiT (.int i) "bool" = some false := rfl
theorem isiT_int_tuple : isiT (.int i) "tuple" = some false := rfl
theorem isiT_int_str : isiT (.int i) "str" = some false := rfl
theorem isiT_int_list : isiT (.int i) "list" = some false := rfl
theorem isiT_bl_int : isiT (.bl p) "int" = some true := rfl
theorem isiT_bl_bool : isiT (.bl p) "bool" = some true := rfl
theorem isiT_bl_tuple : isiT (.bl p) "tuple" = some false := rfl
theorem isiT_bl_str : isiT (.bl p) "str" = some false := rfl
theorem isiT_bl_list : isiT (.bl p) "list" = some false := rfl
theorem isiT_non_int : isiT .non "int" = some false := rfl
theorem isiT_non_bool : isiT .non "bool" = some false := rfl
theorem isiT_non_tuple : isiT .non "tuple" = some false := rfl
theorem isiT_non_str : isiT .non "str" = some false := rfl
theorem isiT_non_list : isiT .non "list" = some false := rfl
theorem isiT_str_int : isiT (.str s) "int" = some false := rfl
theorem isiT_str_bool : isiT (.str s) "bool" = some false := rfl
theorem isiT_str_tuple : isiT (.str s) "tuple" = some false := rfl
theorem isiT_str_str : isiT (.str s) "str" = some true := rfl
theorem isiT_str_list : isiT (.str s) "list" = some false := rfl
theorem isiT_tup_int : isiT (.tup ds) "int" = some false := rfl
theorem isiT_tup_bool : isiT (.tup ds) "bool" = some false := rfl
theorem isiT_tup_tuple : isiT (.tup ds) "tuple" = some true := rfl
theorem isiT_tup_str : isiT (.tup ds) "str" = some false := rfl
theorem isiT_tup_list : isiT (.tup ds) "list" = some false := rfl
theorem isiT_lst_int : isiT (.lst ds) "int" = some false := rfl
theorem isiT_lst_bool : isiT (.lst ds) "bool" = some false := rfl
theorem isiT_lst_tuple : isiT (.lst ds) "tuple" = some false := rfl
theorem isiT_lst_str : isiT (.lst ds) "str" = some false := rfl
theorem isiT_lst_list : isiT (.lst ds) "list" = some true := rfl
end
theorem all1 {b : Bool} : [b].all id = b := by simp
/-! ### steps -/
abbrev ml (p : List Int) : List D := p.map .int
section
variable {a b c d e f g x y z : D} {i j : Int} {xs ys ds : List D} {p q : List Int} {s t : Str} {u v : Bool} {S : Sto} {Q : DK} {n : String} {A : Addr} {lo hi : Option Int} {so : SO} {X Y : Prop} {k : Nat}
theorem st_ix0 (h : Q a S) : vIx (.tup (a :: xs)) (.int 0) S Q := by rw [vIx_tup, atI_0]; exact h
theorem st_ix1 (h : Q b S) : vIx (.tup (a :: b :: xs)) (.int 1) S Q := by rw [vIx_tup, atI_1]; exact h
theorem st_ix2 (h : Q c S) : vIx (.tup (a :: b :: c :: xs)) (.int 2) S Q := by rw [vIx_tup, atI_2]; exact h
theorem st_ix3 (h : Q d S) : vIx (.tup (a :: b :: c :: d :: xs)) (.int 3) S Q := by rw [vIx_tup, atI_3]; exact h
theorem st_ix4 (h : Q e S) : vIx (.tup (a :: b :: c :: d :: e :: xs)) (.int 4) S Q := by rw [vIx_tup, atI_4]; exact h
theorem st_lx0 (h : Q a S) : vIx (.lst (a :: xs)) (.int 0) S Q := by rw [vIx_lst, atI_0]; exact h
theorem st_lx1 (h : Q b S) : vIx (.lst (a :: b :: xs)) (.int 1) S Q := by rw [vIx_lst, atI_1]; exact h
theorem st_lx2 (h : Q c S) : vIx (.lst (a :: b :: c :: xs)) (.int 2) S Q := by rw [vIx_lst, atI_2]; exact h
theorem st_lx3 (h : Q d S) : vIx (.lst (a :: b :: c :: d :: xs)) (.int 3) S Q := by rw [vIx_lst, atI_3]; exact h
theorem st_len_p (h : Q (.int (p.length : Nat)) S) : vLen [.tup (p.map .int)] S Q := by rw [vLen_tup, List.length_map]; exact h
theorem st_len_lp (h : Q (.int (p.length : Nat)) S) : vLen [.lst (p.map .int)] S Q := by rw [vLen_lst, List.length_map]; exact h
theorem st_len_rp (h : Q (.int (p.length : Nat)) S) : vLen [.ro (p.map .int)] S Q := by rw [vLen_ro, List.length_map]; exact h
theorem st_len_t (h : Q (.int (ds.length : Nat)) S) : vLen [.tup ds] S Q := h
theorem st_len_l (h : Q (.int (ds.length : Nat)) S) : vLen [.lst ds] S Q := h
theorem st_len_s (h1 : s.length ≤ sizeLine) (h : Q (.int (s.length : Nat)) S) : vLen [.str s] S Q := ⟨h1, h⟩
theorem st_add (h : Q (.int (i + j)) S) : vAdd (.int i) (.int j) S Q := h
theorem st_sub (h : Q (.int (i - j)) S) : vSub (.int i) (.int j) S Q := h
theorem st_iadd (h : Q (.int (i + j)) S) : vIadd (.int i) (.int j) S Q := h
theorem st_neg (h : Q (.int (-i)) S) : vNeg (.int i) S Q := h
theorem st_mod (h1 : 0 < j) (h : Q (.int (i % j)) S) : vMod (.int i) (.int j) S Q := ⟨h1, h⟩
theorem st_div (h1 : 0 < j ∧ j < 1073741824) (h : Q (.int (i / j)) S) : vDiv (.int i) (.int j) S Q := ⟨h1, h⟩
theorem st_mul (h1 : -(2 ^ 64) < i ∧ i < 2 ^ 64) (h : Q (.int (i * j)) S) : vMul (.int i) (.int j) S Q := ⟨.inl (.inl h1), h⟩
theorem st_mul' (h1 : -(2 ^ 64) < j ∧ j < 2 ^ 64) (h : Q (.int (i * j)) S) : vMul (.int i) (.int j) S Q := ⟨.inl (.inr h1), h⟩
theorem st_add_pp (h1 : p.length + q.length ≤ sizeLine) (h : Q (.tup ((p ++ q).map .int)) S) : vAdd (.tup (p.map .int)) (.tup (q.map .int)) S Q := by
  rw [vAdd_tup, List.length_map, List.length_map, ← List.map_append]; exact ⟨h1, h⟩
theorem st_add_p1 (h1 : p.length + 1 ≤ sizeLine) (h : Q (.tup ((p ++ [i]).map .int)) S) : vAdd (.tup (p.map .int)) (.tup [.int i]) S Q := by
  rw [vAdd_tup, List.length_map, show [D.int i] = [i].map .int from rfl, ← List.map_append]; exact ⟨h1, h⟩
theorem st_add_1p (h1 : 1 + p.length ≤ sizeLine) (h : Q (.tup ((i :: p).map .int)) S) : vAdd (.tup [.int i]) (.tup (p.map .int)) S Q := by
  rw [vAdd_tup, List.length_map]; exact ⟨h1, h⟩
theorem st_add_t (h1 : xs.length + ys.length ≤ sizeLine) (h : Q (.tup (xs ++ ys)) S) : vAdd (.tup xs) (.tup ys) S Q := ⟨h1, h⟩
theorem st_add_l (h1 : xs.length + ys.length ≤ sizeLine) (h : Q (.lst (xs ++ ys)) S) : vAdd (.lst xs) (.lst ys) S Q := ⟨h1, h⟩
theorem st_add_s (h1 : s.length + t.length ≤ sizeLine) (h : Q (.str (s ++ t)) S) : vAdd (.str s) (.str t) S Q := ⟨h1, h⟩
theorem st_lt (h : Q (.bl (decide (i < j))) S) : vLt (.int i) (.int j) S Q := h
theorem st_le (h : Q (.bl (decide (i ≤ j))) S) : vLe (.int i) (.int j) S Q := h
theorem st_gt (h : Q (.bl (decide (j < i))) S) : vGt (.int i) (.int j) S Q := h
theorem st_ge (h : Q (.bl (decide (j ≤ i))) S) : vGe (.int i) (.int j) S Q := h
theorem st_eqi (h : Q (.bl (decide (i = j))) S) : vEq (.int i) (.int j) S Q := h
theorem st_nei (h : Q (.bl (!decide (i = j))) S) : vNe (.int i) (.int j) S Q := h
theorem st_eqs (h : Q (.bl (decide (s = t))) S) : vEq (.str s) (.str t) S Q := h
theorem st_nes (h : Q (.bl (!decide (s = t))) S) : vNe (.str s) (.str t) S Q := h
theorem st_eqb (h : Q (.bl (decide (u = v))) S) : vEq (.bl u) (.bl v) S Q := h
theorem st_isn_non (h : Q (.bl true) S) : vIs .non .non S Q := h
theorem st_isn_int (h : Q (.bl false) S) : vIs (.int i) .non S Q := h
theorem st_isn_tup (h : Q (.bl false) S) : vIs (.tup ds) .non S Q := h
theorem st_isn_str (h : Q (.bl false) S) : vIs (.str s) .non S Q := h
theorem st_isn_bl (h : Q (.bl false) S) : vIs (.bl u) .non S Q := h
theorem st_isnt_non (h : Q (.bl false) S) : vIsNot .non .non S Q := h
theorem st_isnt_int (h : Q (.bl true) S) : vIsNot (.int i) .non S Q := h
theorem st_isnt_tup (h : Q (.bl true) S) : vIsNot (.tup ds) .non S Q := h
theorem st_isnt_str (h : Q (.bl true) S) : vIsNot (.str s) .non S Q := h
theorem st_int (h : Q (.int i) S) : vInt [.int i] S Q := h
theorem st_intb (h : Q (.int (if u then 1 else 0)) S) : vInt [.bl u] S Q := h
theorem st_abs (h : Q (.int (if i < 0 then -i else i)) S) : vAbs [.int i] S Q := h
theorem st_min2 (h : Q (.int (if j < i then j else i)) S) : vMin2 [.int i, .int j] S Q := h
theorem st_max2 (h : Q (.int (if j > i then j else i)) S) : vMax2 [.int i, .int j] S Q := h
theorem st_tup_l (h : Q (.tup ds) S) : vTuple [.lst ds] S Q := h
theorem st_tup_t (h : Q (.tup ds) S) : vTuple [.tup ds] S Q := h
theorem st_lst_t (h : Q (.lst ds) S) : vList [.tup ds] S Q := h
theorem st_lst_l (h : Q (.lst ds) S) : vList [.lst ds] S Q := h
theorem st_sl_from (h : Q (.tup ((p.drop k).map .int)) S) : vSl (.tup (p.map .int)) (some (k : Int)) none S Q := by
  rw [vSl_tup, cut_from, ← List.map_drop]; exact h
theorem st_sl_to (h : Q (.tup ((p.take k).map .int)) S) : vSl (.tup (p.map .int)) none (some (k : Int)) S Q := by
  rw [vSl_tup, cut_to, ← List.map_take]; exact h
theorem st_iteT (h : X) : if true = true then X else Y := by rw [if_pos rfl]; exact h
theorem st_iteF (h : Y) : if false = true then X else Y := by rw [if_neg Bool.false_ne_true]; exact h
theorem st_dT {C : Prop} [Decidable C] (hc : C) (h : X) : if decide C = true then X else Y := by rw [if_pos (decide_eq_true hc)]; exact h
theorem st_dF {C : Prop} [Decidable C] (hc : ¬ C) (h : Y) : if decide C = true then X else Y := by rw [if_neg (by simpa using hc)]; exact h
theorem st_not {b : Bool} (h : if b = true then Y else X) : if (!b) = true then X else Y := by
  cases b <;> simpa using h
theorem st_isi {b : Bool} (h1 : isiT x n = some b) (h : Q (.bl b) S) : vIsi [x, .ty n] S Q := by
  rw [vIsi_x, h1]
  show Q (.bl ([b].all id)) S
  rw [all1]; exact h
theorem st_all {bs : List Bool} (h : Q (.bl (bs.all id)) S) : vAll [.lst (bs.map .bl)] S Q := by
  rw [vAll_x, seqOf_lst]; simp only [Option.bind_some, asBls_map]; exact h
end
end L3

set_option Elab.async false
set_option maxRecDepth 100000
set_option linter.all false
set_option maxHeartbeats 2000000
namespace L3
open PySem L2
local macro_rules | `(tactic| walk_at "rd") => `(tactic| try simp only [dSeq, dAsg, dOp, dUn, dVar, dC, dCons, dNil, dTup, dLst, dLstM, dTest, dChain, dAnd, dOr, dNot, dAndV, dOrV, dNotV, dIfE, dCB, dCall, dSl, dPart, dNoPart, dIf, dRet, dRetN, dNext, dDrop, dTg, setAll, slot, dset, dwipe, dAug,
  a0, a1, a2, a3, a4, a5, a6, dLc, iTupD, iRange1, iRange2, dYes, dLM, dgSub, DEnds.of, dstart,
  vAt_some, vAtL_lst, vIx_tup, vIx_lst, vIx_ro, vIx_ref, vSl_tup, vSl_lst, vSl_ro, vSl_ref, vSlL_lst, vLen_tup, vLen_lst, vLen_ro, vLen_ref, vLenL_lst, vLenL_dK, vAdd_int, vAdd_tup, vAdd_lst, vAdd_ref, vAddL_lst, vSub_int, vLt_int, vLe_int, vGt_int, vGe_int, vMod_int, vDiv_int, vPow_int, vShl_int, vMul_int, vMul_tup, vMul_lst,
  vEq_int, vEq_str, vEq_bl, vEq_tup, vEq_lst, vNe_int, vNe_str, vNe_bl, vNe_tup, isN_non, isN_bl, isN_int, isN_str, isN_tup, isN_lst, isN_ref, vIs_non, vIsNot_non, vNeg_int, vInt_int, vInt_bl, vBool_int, vBool_bl, vAbs_int, vMin2_int, vMax2_int, vTuple_tup, vTuple_lst, vTuple_ref, vTupleL_lst, vList_tup, vList_lst,
  vAllO_some, vAll_x, vAny_x, seqOf_lst, vIsi_x, vIadd_int, vAppL_lst, vAppend_ref, vSetN_some, vSetO_lst, vSet_ref, isSeq_ref, ex_lst, all1,
  isiT_int_int, isiT_int_bool, isiT_int_tuple, isiT_int_str, isiT_int_list, isiT_bl_int, isiT_bl_bool, isiT_bl_tuple, isiT_bl_str, isiT_bl_list, isiT_non_int, isiT_non_bool, isiT_non_tuple, isiT_non_str, isiT_non_list, isiT_str_int, isiT_str_bool, isiT_str_tuple, isiT_str_str, isiT_str_list, isiT_tup_int, isiT_tup_bool, isiT_tup_tuple, isiT_tup_str, isiT_tup_list, isiT_lst_int, isiT_lst_bool, isiT_lst_tuple, isiT_lst_str, isiT_lst_list,
  Option.map_some, Option.bind_some, List.map_cons, List.map_nil, List.length_cons, List.length_nil, List.cons_append, List.nil_append, List.replicate, List.set, List.append_nil, atI_0, atI_1, atI_2, atI_3, atI_4, atI_5, List.length_map, Nat.zero_add, Nat.reduceAdd, Nat.reduceSub, Nat.reduceLeDiff, true_and, and_true, Bool.false_eq_true, if_true, if_false, decide_eq_true_eq, reduceIte, ite_true, ite_false,
  Bool.not_true, Bool.not_false, List.length_append, cut_from, cut_to, sup_same, sup_sup, Option.some.injEq, exists_eq_left', exists_eq_left])
/-! ### data -/
abbrev Eff := List Int × List Int
def asP : D → Option (List Int)
  | .tup ds => asInts ds
  | _ => none
def asE : D → Option Eff
  | .tup [a, b] => match asP a, asP b with | some p, some q => some (p, q) | _, _ => none
  | _ => none
@[simp] theorem asInts_nil : asInts [] = some [] := rfl
@[simp] theorem asInts_cons (i : Int) (r : List D) : asInts (.int i :: r) = (asInts r).map (i :: ·) := rfl
theorem asInts_append (a b : List Int) : asInts (a.map .int ++ b.map .int) = some (a ++ b) := by
  rw [← List.map_append, asInts_map]
def pl (p : List Int) : D := .tup (p.map .int)
def ef (e : Eff) : D := .tup [pl e.1, pl e.2]
def isExt (a b : Eff) : Bool := decide (a = (b.1 ++ a.1.drop b.1.length, b.2 ++ a.1.drop b.1.length))
def Small (a : Eff) : Prop := a.1.length ≤ 100000 ∧ a.2.length ≤ 100000
theorem asP_eq {d : D} {p : List Int} (h : asP d = some p) : d = .tup (p.map .int) := by
  cases d <;> first | (cases h; done) | skip
  rw [asInts_eq h]
theorem asE_eq {d : D} {e : Eff} (h : asE d = some e) : d = .tup [.tup (e.1.map .int), .tup (e.2.map .int)] := by
  unfold asE at h
  split at h
  · split at h
    · rename_i h1 h2
      cases h
      rw [asP_eq h1, asP_eq h2]
    · cases h
  · cases h
/-! ### is_extended, longer_of, undone -/
def sp_is_extended (x y : D) (S : Sto) (Q : DK) : Prop := match asE x, asE y with
  | some a, some b => Small a ∧ Small b ∧ Q (.bl (isExt a b)) S
  | _, _ => False
-- is_extended : 0=one 1=other 2=many 3=pile
def rd_is_extended : DTS :=
    (dSeq (dAsg (dOp vSub (dCB vLen (dCons (dOp vIx (dVar 0) (dC (.int 0))) dNil)) (dCB vLen (dCons (dOp vIx (dVar 1) (dC (.int 0))) dNil))) (dTg (.nm 2)))
    (dSeq (dIf (dOr (dTest (dOp vLt (dVar 2) (dC (.int 0)))) (dTest (dOp vNe (dOp vSub (dCB vLen (dCons (dOp vIx (dVar 0) (dC (.int 1))) dNil)) (dCB vLen (dCons (dOp vIx (dVar 1) (dC (.int 1))) dNil))) (dVar 2)))) (dRet (dC (.bl false))) dNext)
    (dSeq (dAsg (dSl vSl (dOp vIx (dVar 0) (dC (.int 0))) (dPart (dCB vLen (dCons (dOp vIx (dVar 1) (dC (.int 0))) dNil))) dNoPart) (dTg (.nm 3)))
    (dRet (dOp vEq (dVar 0) (dTup (dCons (dOp vAdd (dOp vIx (dVar 1) (dC (.int 0))) (dVar 3)) (dCons (dOp vAdd (dOp vIx (dVar 1) (dC (.int 1))) (dVar 3)) dNil))))))))
theorem sizeLine_val : sizeLine = 16777216 := sizeLine_eq
theorem rd_is_extended_ok : ∀ ds S P, (a2 sp_is_extended) ds S P → rd_is_extended (DEnds.of P) (dstart ["one", "other", "many", "pile"] ds) S := by
  intro ds S P h
  rcases ds with _ | ⟨x, _ | ⟨y, _ | ⟨z, ds⟩⟩⟩ <;> first | exact (h : False).elim | skip
  simp only [a2, sp_is_extended] at h
  split at h
  · rename_i a b e1 e2
    obtain ⟨ha, hb, q⟩ := h
    rw [asE_eq e1, asE_eq e2]
    unfold rd_is_extended
    walk_at "rd"
    simp only [← List.map_drop, ← List.map_take, ← List.map_append, List.length_map, okE, okEs, okEs_map_int, dep, deps, deps_map_int, eqv, toP, toPs, toPs_map_int, PyData.eqv, PyData.eqvAll, eqvAll_ints, sizeLine_val]
    obtain ⟨ha1, ha2⟩ := ha
    obtain ⟨hb1, hb2⟩ := hb
    have e0 : ∀ c : Bool, isExt a b = c → P (.bl c) S := fun c h => by rw [← h]; exact q
    by_cases h1 : (a.1.length : Int) - b.1.length < 0
    · rw [if_pos h1]
      refine .of (e0 _ (decide_eq_false fun z => ?_))
      have z1 := congrArg (fun t => t.1.length) z
      simp only [List.length_append, List.length_drop] at z1
      omega
    · rw [if_neg h1]
      by_cases h2 : (a.2.length : Int) - b.2.length = a.1.length - b.1.length
      · rw [if_neg (by simpa using h2)]
        refine ⟨by simp only [List.length_drop]; omega, by simp only [List.length_drop]; omega, rfl, rfl, by decide, by decide, .of (e0 _ ?_)⟩
        unfold isExt
        rw [Bool.and_true, ← Bool.decide_and]
        exact decide_eq_decide.mpr (by simp [Prod.ext_iff])
      · rw [if_pos (by simpa using h2)]
        refine .of (e0 _ (decide_eq_false fun z => ?_))
        have z1 := congrArg (fun t => t.1.length) z
        have z2 := congrArg (fun t => t.2.length) z
        simp only [List.length_append, List.length_drop] at z1 z2
        omega
  · exact h.elim
def longer (a b : Eff) : D := if isExt a b then ef a else if isExt b a then ef b else .non
def sp_longer_of (x y : D) (S : Sto) (Q : DK) : Prop := match asE x, asE y with
  | some a, some b => Small a ∧ Small b ∧ Q (longer a b) S
  | _, _ => False
-- longer_of : 0=one 1=other
def rd_longer_of : DTS :=
    (dSeq (dIf (dTest (dCall (a2 sp_is_extended) (dCons (dVar 0) (dCons (dVar 1) dNil)))) (dRet (dVar 0)) dNext)
    (dRet (dIfE (dTest (dCall (a2 sp_is_extended) (dCons (dVar 1) (dCons (dVar 0) dNil)))) (dVar 1) (dC .non))))
theorem asE_ef (e : Eff) : asE (.tup [.tup (e.1.map .int), .tup (e.2.map .int)]) = some e := by
  simp only [asE, asP, asInts_map]
theorem rd_longer_of_ok : ∀ ds S P, (a2 sp_longer_of) ds S P → rd_longer_of (DEnds.of P) (dstart ["one", "other"] ds) S := by
  intro ds S P h
  rcases ds with _ | ⟨x, _ | ⟨y, _ | ⟨z, ds⟩⟩⟩ <;> first | exact (h : False).elim | skip
  simp only [a2, sp_longer_of] at h
  split at h
  · rename_i a b e1 e2
    obtain ⟨ha, hb, q⟩ := h
    rw [asE_eq e1, asE_eq e2]
    unfold rd_longer_of
    walk_at "rd"
    simp only [sp_is_extended, asE_ef]
    unfold longer at q
    refine ⟨ha, hb, ?_⟩
    by_cases h1 : isExt a b = true
    · rw [if_pos h1] at q ⊢
      exact .of q
    · rw [if_neg h1] at q ⊢
      refine ⟨hb, ha, ?_⟩
      by_cases h2 : isExt b a = true
      · rw [if_pos h2] at q ⊢
        exact .of q
      · rw [if_neg h2] at q ⊢
        exact .of q
  · exact h.elim
def sp_undone (x : D) (S : Sto) (Q : DK) : Prop := match x with
  | .tup [a, b] => Q (.tup [b, a]) S
  | _ => False
-- undone : 0=effect
def rd_undone : DTS :=
    (dRet (dTup (dCons (dOp vIx (dVar 0) (dC (.int 1))) (dCons (dOp vIx (dVar 0) (dC (.int 0))) dNil))))
theorem rd_undone_ok : ∀ ds S P, (a1 sp_undone) ds S P → rd_undone (DEnds.of P) (dstart ["effect"] ds) S := by
  intro ds S P h
  rcases ds with _ | ⟨x, _ | ⟨z, ds⟩⟩ <;> first | exact (h : False).elim | skip
  simp only [a1, sp_undone] at h
  split at h
  · unfold rd_undone
    walk_at "rd"
    exact .of h
  · exact h.elim
/-! ### common_end -/
def cpl : List Int → List Int → Nat
  | a :: p, b :: q => if a = b then cpl p q + 1 else 0
  | _, _ => 0
theorem cpl_step : ∀ (p q : List Int) (m : Nat), m ≤ cpl p q → ((m < cpl p q) ↔ (m < p.length ∧ m < q.length ∧ p[m]? = q[m]?))
  | [], q, m, h => by simp [cpl]
  | a :: p, [], m, h => by simp [cpl]
  | a :: p, b :: q, 0, h => by
    simp only [cpl]
    by_cases e : a = b
    · subst e; simp
    · simp [e]
  | a :: p, b :: q, m + 1, h => by
    simp only [cpl] at h ⊢
    by_cases e : a = b
    · rw [if_pos e] at h ⊢
      have := cpl_step p q m (by omega)
      simp only [List.length_cons, List.getElem?_cons_succ]
      rw [show (m + 1 < cpl p q + 1) ↔ m < cpl p q by omega, this]
      exact ⟨fun ⟨a, b, c⟩ => ⟨by omega, by omega, c⟩, fun ⟨a, b, c⟩ => ⟨by omega, by omega, c⟩⟩
    · rw [if_neg e] at h
      omega
theorem cpl_le : ∀ (p q : List Int), cpl p q ≤ p.length ∧ cpl p q ≤ q.length
  | [], q => by simp [cpl]
  | a :: p, [] => by simp [cpl]
  | a :: p, b :: q => by
    have := cpl_le p q
    simp only [cpl]
    split <;> simp <;> omega
def cend (p q : List Int) : List Int := p.drop (p.length - cpl p.reverse q.reverse)
def sp_common_end (x y : D) (S : Sto) (Q : DK) : Prop := match asP x, asP y with
  | some p, some q => Q (pl (cend p q)) S
  | _, _ => False
-- common_end : 0=one 1=other 2=many
def rd_common_end : DTS :=
    (dSeq (dAsg (dC (.int 0)) (dTg (.nm 2)))
    (dSeq (dWhile (dAnd (dTest (dOp vLt (dVar 2) (dCB vMin2 (dCons (dCB vLen (dCons (dVar 0) dNil)) (dCons (dCB vLen (dCons (dVar 1) dNil)) dNil))))) (dTest (dOp vEq (dOp vIx (dVar 0) (dOp vSub (dOp vSub (dCB vLen (dCons (dVar 0) dNil)) (dC (.int 1))) (dVar 2))) (dOp vIx (dVar 1) (dOp vSub (dOp vSub (dCB vLen (dCons (dVar 1) dNil)) (dC (.int 1))) (dVar 2)))))) (dAug 2 (dC (.int 1)) vIadd))
    (dRet (dSl vSl (dVar 0) (dPart (dOp vSub (dCB vLen (dCons (dVar 0) dNil)) (dVar 2))) dNoPart))))
theorem atI_back (p : List Int) (m : Nat) (h : m < p.length) : ∃ v, p.reverse[m]? = some v ∧ atI (p.map D.int) ((p.length : Int) - 1 - (m : Int)) = some (.int v) := by
  refine ⟨p[p.length - 1 - m], ?_, ?_⟩
  · rw [List.getElem?_reverse h, List.getElem?_eq_getElem]
  · rw [show ((p.length : Int) - 1 - (m : Int)) = ((p.length - 1 - m : Nat) : Int) by omega, atI_nat, List.getElem?_map, List.getElem?_eq_getElem (by omega)]
    rfl
theorem rd_common_end_ok : ∀ ds S P, (a2 sp_common_end) ds S P → rd_common_end (DEnds.of P) (dstart ["one", "other", "many"] ds) S := by
  intro ds S P h
  rcases ds with _ | ⟨x, _ | ⟨y, _ | ⟨z, ds⟩⟩⟩ <;> first | exact (h : False).elim | skip
  simp only [a2, sp_common_end] at h
  split at h
  · rename_i p q e1 e2
    rw [asP_eq e1, asP_eq e2]
    unfold rd_common_end
    walk_at "rd"
    obtain ⟨l1, l2⟩ := cpl_le p.reverse q.reverse
    rw [List.length_reverse] at l1 l2
    refine ⟨cpl p.reverse q.reverse + 1, whileN_inv (fun n δ S' => S' = S ∧ ∃ m : Nat, m + n = cpl p.reverse q.reverse ∧ δ = [some (.tup (p.map .int)), some (.tup (q.map .int)), some (.int m)]) ?_ _ _ _ ⟨rfl, 0, by omega, rfl⟩⟩
    rintro n _ _ ⟨rfl, m, hm, rfl⟩ D2 hrt _ hnx _
    walk_at "rd"
    have hst := cpl_step p.reverse q.reverse m (by omega)
    rw [List.length_reverse, List.length_reverse] at hst
    by_cases hlt : m < p.length ∧ m < q.length
    · obtain ⟨v, v1, v2⟩ := atI_back p m hlt.1
      obtain ⟨w, w1, w2⟩ := atI_back q m hlt.2
      have c1 : (m : Int) < if (q.length : Int) < (p.length : Int) then (q.length : Int) else (p.length : Int) := by split <;> omega
      rw [if_pos c1, v2, w2]
      rw [v1, w1] at hst
      walk_at "rd"
      by_cases e : v = w
      · rw [if_pos e]
        have : m < cpl p.reverse q.reverse := hst.mpr ⟨hlt.1, hlt.2, by rw [e]⟩
        obtain ⟨k, rfl⟩ : ∃ k, n = k + 1 := ⟨n - 1, by omega⟩
        exact hnx k _ _ rfl ⟨rfl, m + 1, by omega, rfl⟩
      · rw [if_neg e]
        have hn : n = 0 := by
          have : ¬ m < cpl p.reverse q.reverse := fun z => e (by have := (hst.mp z).2.2; simpa using this)
          omega
        subst hn
        have em : cpl p.reverse q.reverse = m := by omega
        unfold cend at h
        rw [em] at h
        rw [show (p.length : Int) - (m : Int) = ((p.length - m : Nat) : Int) by omega, cut_from, ← List.map_drop]
        exact .of h
    · have c1 : ¬ (m : Int) < if (q.length : Int) < (p.length : Int) then (q.length : Int) else (p.length : Int) := by split <;> omega
      rw [if_neg c1]
      walk_at "rd"
      have em : cpl p.reverse q.reverse = m := by omega
      unfold cend at h
      rw [em] at h
      rw [show (p.length : Int) - (m : Int) = ((p.length - m : Nat) : Int) by omega, cut_from, ← List.map_drop]
      exact .of h
  · exact h.elim
/-! ### is_integer .. is_effect -/
/-- a plain value, not looked into -/
def pv1 : D → Bool
  | .ro _ | .ref _ | .ty _ => false
  | _ => true
def isInt : D → Bool
  | .int _ => true
  | _ => false
def sp_is_integer (x : D) (S : Sto) (Q : DK) : Prop := pv1 x = true ∧ Q (.bl (isInt x)) S
-- is_integer : 0=thing
def rd_is_integer : DTS :=
    (dRet (dAndV (dCB vIsi (dCons (dVar 0) (dCons (dC (.ty "int")) dNil))) (dNotV (dCB vIsi (dCons (dVar 0) (dCons (dC (.ty "bool")) dNil))))))
theorem rd_is_integer_ok : ∀ ds S P, (a1 sp_is_integer) ds S P → rd_is_integer (DEnds.of P) (dstart ["thing"] ds) S := by
  intro ds S P h
  rcases ds with _ | ⟨x, _ | ⟨z, ds⟩⟩ <;> first | exact (h : False).elim | skip
  obtain ⟨h1, h2⟩ := (h : sp_is_integer x S P)
  unfold rd_is_integer
  cases x <;> first | (cases h1; done) | skip
  all_goals walk_at "rd"
  all_goals simp only [isiT, isInt] at h2 ⊢
  all_goals exact .of h2
def within (lo hi : Int) : D → Bool
  | .int i => decide (lo ≤ i) && decide (i ≤ hi)
  | _ => false
def sp_integer_within (x lo hi : D) (S : Sto) (Q : DK) : Prop := match lo, hi with
  | .int l, .int h => pv1 x = true ∧ Q (.bl (within l h x)) S
  | _, _ => False
-- integer_within : 0=thing 1=low 2=high
def rd_integer_within : DTS :=
    (dRet (dAndV (dCall (a1 sp_is_integer) (dCons (dVar 0) dNil)) (dChain vLe vLe (dVar 1) (dVar 0) (dVar 2))))
theorem rd_integer_within_ok : ∀ ds S P, (a3 sp_integer_within) ds S P → rd_integer_within (DEnds.of P) (dstart ["thing", "low", "high"] ds) S := by
  intro ds S P h
  rcases ds with _ | ⟨x, _ | ⟨lo, _ | ⟨hi, _ | ⟨z, ds⟩⟩⟩⟩ <;> first | exact (h : False).elim | skip
  simp only [a3, sp_integer_within] at h
  split at h
  · rename_i l hh
    obtain ⟨h1, h2⟩ := h
    unfold rd_integer_within
    walk_at "rd"
    simp only [sp_is_integer]
    refine ⟨h1, ?_⟩
    cases x <;> first | (cases h1; done) | skip
    all_goals simp only [isInt, within] at h2 ⊢
    all_goals walk_at "rd"
    all_goals first | exact .of h2 | skip
    rename_i i
    by_cases c : l ≤ i
    · rw [if_pos c]
      rw [decide_eq_true c, Bool.true_and] at h2
      exact .of h2
    · rw [if_neg c]
      rw [decide_eq_false c, Bool.false_and] at h2
      exact .of h2
  · exact h.elim
def isTup (n : Int) : D → Bool
  | .tup ds => decide ((ds.length : Int) = n)
  | _ => false
def sp_is_tuple (x n : D) (S : Sto) (Q : DK) : Prop := match n with
  | .int n => pv1 x = true ∧ Q (.bl (isTup n x)) S
  | _ => False
-- is_tuple : 0=thing 1=many
def rd_is_tuple : DTS :=
    (dRet (dAndV (dCB vIsi (dCons (dVar 0) (dCons (dC (.ty "tuple")) dNil))) (dOp vEq (dCB vLen (dCons (dVar 0) dNil)) (dVar 1))))
theorem rd_is_tuple_ok : ∀ ds S P, (a2 sp_is_tuple) ds S P → rd_is_tuple (DEnds.of P) (dstart ["thing", "many"] ds) S := by
  intro ds S P h
  rcases ds with _ | ⟨x, _ | ⟨lo, _ | ⟨z, ds⟩⟩⟩ <;> first | exact (h : False).elim | skip
  simp only [a2, sp_is_tuple] at h
  split at h
  · obtain ⟨h1, h2⟩ := h
    unfold rd_is_tuple
    cases x <;> first | (cases h1; done) | skip
    all_goals walk_at "rd"
    all_goals simp only [isiT, isTup] at h2 ⊢
    all_goals exact .of h2
  · exact h.elim
def isPile (k : Int) : D → Bool
  | .tup ds => ds.all (within 0 (k - 1))
  | _ => false
def pv2 : D → Bool
  | .tup ds => ds.all pv1 && decide (ds.length ≤ 100000)
  | d => pv1 d
def sp_is_pile (k x : D) (S : Sto) (Q : DK) : Prop := match k with
  | .int k => pv2 x = true ∧ Q (.bl (isPile k x)) S
  | _ => False
-- is_pile : 0=kinds 1=thing 2=kind
def rd_is_pile : DTS :=
    (dRet (dAndV (dCB vIsi (dCons (dVar 1) (dCons (dC (.ty "tuple")) dNil))) (dCB vAll (dCons (dLc (iTupD (dVar 1)) (dTg (.nm 2)) dYes (dCall (a3 sp_integer_within) (dCons (dVar 2) (dCons (dC (.int 0)) (dCons (dOp vSub (dVar 0) (dC (.int 1))) dNil)))) [2]) dNil))))
theorem rd_is_pile_ok : ∀ ds S P, (a2 sp_is_pile) ds S P → rd_is_pile (DEnds.of P) (dstart ["kinds", "thing", "kind"] ds) S := by
  intro ds S P h
  rcases ds with _ | ⟨k, _ | ⟨x, _ | ⟨z, ds⟩⟩⟩ <;> first | exact (h : False).elim | skip
  simp only [a2, sp_is_pile] at h
  split at h
  · rename_i k
    obtain ⟨h1, h2⟩ := h
    unfold rd_is_pile
    cases x <;> first | (cases h1; done) | skip
    all_goals walk_at "rd"
    all_goals simp only [isiT, isPile] at h2 ⊢
    all_goals walk_at "rd"
    all_goals first | exact .of h2 | skip
    rename_i ds
    simp only [pv2, Bool.and_eq_true, decide_eq_true_eq, List.all_eq_true] at h1
    refine lcL_pure (fun d => .bl (within 0 (k - 1) d)) True.intro ds [] (by rw [sizeLine_val]; simp; omega) (fun d hd P hp => ?_) ?_
    · walk_at "rd"
      exact ⟨h1.1 d hd, hp⟩
    · simp only [List.nil_append, seqOf, Option.bind_some]
      rw [show (fun d => D.bl (within 0 (k - 1) d)) = D.bl ∘ within 0 (k - 1) from rfl, ← List.map_map, asBls_map]
      refine .of ?_
      show P (.bl ((ds.map (within 0 (k - 1))).all id)) S
      rw [List.all_map]
      exact h2
  · exact h.elim
def isEff (k : Int) : D → Bool
  | .tup [a, b] => isPile k a && isPile k b
  | _ => false
def pv3 : D → Bool
  | .tup ds => ds.all pv2
  | d => pv1 d
def sp_is_effect (k x : D) (S : Sto) (Q : DK) : Prop := match k with
  | .int k => pv3 x = true ∧ Q (.bl (isEff k x)) S
  | _ => False
-- is_effect : 0=kinds 1=thing
def rd_is_effect : DTS :=
    (dRet (dAndV (dCall (a2 sp_is_tuple) (dCons (dVar 1) (dCons (dC (.int 2)) dNil))) (dAndV (dCall (a2 sp_is_pile) (dCons (dVar 0) (dCons (dOp vIx (dVar 1) (dC (.int 0))) dNil))) (dCall (a2 sp_is_pile) (dCons (dVar 0) (dCons (dOp vIx (dVar 1) (dC (.int 1))) dNil))))))
theorem rd_is_effect_ok : ∀ ds S P, (a2 sp_is_effect) ds S P → rd_is_effect (DEnds.of P) (dstart ["kinds", "thing"] ds) S := by
  intro ds S P h
  rcases ds with _ | ⟨k, _ | ⟨x, _ | ⟨z, ds⟩⟩⟩ <;> first | exact (h : False).elim | skip
  simp only [a2, sp_is_effect] at h
  split at h
  · rename_i k
    obtain ⟨h1, h2⟩ := h
    unfold rd_is_effect
    have p1 : pv1 x = true := by
      cases x <;> first | (cases h1; done) | rfl
    walk_at "rd"
    simp only [sp_is_tuple]
    refine ⟨p1, ?_⟩
    by_cases c : ∃ a b, x = .tup [a, b]
    · obtain ⟨a, b, rfl⟩ := c
      simp only [pv3, List.all_cons, List.all_nil, Bool.and_true, Bool.and_eq_true] at h1
      simp only [isTup]
      walk_at "rd"
      simp only [sp_is_pile, isEff] at h2 ⊢
      rw [if_pos (by rfl)]
      refine ⟨h1.1, ?_⟩
      cases e : isPile k a with
      | false =>
        rw [e, Bool.false_and] at h2
        exact .of h2
      | true =>
        rw [e, Bool.true_and] at h2
        exact ⟨h1.2, .of h2⟩
    · have e1 : isEff k x = false := by
        unfold isEff
        split
        · exact absurd ⟨_, _, rfl⟩ c
        · rfl
      have e2 : isTup 2 x = false := by
        unfold isTup
        split
        · rename_i ds
          rcases ds with _ | ⟨a, _ | ⟨b, _ | ⟨z, ds⟩⟩⟩
          · rfl
          · rfl
          · exact absurd ⟨_, _, rfl⟩ c
          · exact decide_eq_false (by simp only [List.length_cons]; omega)
        · rfl
      rw [e1] at h2
      rw [e2]
      exact .of h2
  · exact h.elim
/-! ### the law's own: like -/
mutual
def pln : D → Bool
  | .tup ds => plns ds && decide (ds.length ≤ 1000000)
  | .lst _ => true
  | .ro _ | .ref _ | .ty _ => false
  | _ => true
def plns : List D → Bool
  | [] => true
  | d :: ds => pln d && plns ds
end
mutual
def dueOk : Nat → D → Bool
  | _, .non => true
  | _, .bl _ => true
  | _, .int _ => true
  | n + 1, .tup ds => dueOks n ds && decide (ds.length ≤ 1000000)
  | _, _ => false
def dueOks : Nat → List D → Bool
  | _, [] => true
  | n, d :: ds => dueOk n d && dueOks n ds
end
mutual
def lk : D → D → Bool
  | told, .non => isN told
  | told, .bl b => match told with | .bl c => decide (c = b) | _ => false
  | told, .int i => match told with | .int j => decide (j = i) | _ => false
  | told, .tup ds => match told with | .tup es => decide (es.length = ds.length) && lks es ds | _ => false
  | _, _ => false
def lks : List D → List D → Bool
  | e :: es, d :: ds => lk e d && lks es ds
  | _, _ => true
end
theorem plns_get : ∀ {ds : List D} {i : Nat} {d : D}, plns ds = true → ds[i]? = some d → pln d = true
  | [], _, _, _, e => by simp at e
  | x :: r, 0, d, h, e => by simp at e; subst e; simp only [plns, Bool.and_eq_true] at h; exact h.1
  | x :: r, i + 1, d, h, e => by simp only [plns, Bool.and_eq_true] at h; exact plns_get h.2 (by simpa using e)
theorem dueOks_get : ∀ {n : Nat} {ds : List D} {i : Nat} {d : D}, dueOks n ds = true → ds[i]? = some d → dueOk n d = true
  | _, [], _, _, _, e => by simp at e
  | n, x :: r, 0, d, h, e => by simp at e; subst e; simp only [dueOks, Bool.and_eq_true] at h; exact h.1
  | n, x :: r, i + 1, d, h, e => by simp only [dueOks, Bool.and_eq_true] at h; exact dueOks_get h.2 (by simpa using e)
theorem lks_take : ∀ {es ds : List D} {n : Nat} {e d : D}, es[n]? = some e → ds[n]? = some d → lks (es.take n) (ds.take n) = true → (lks (es.take (n + 1)) (ds.take (n + 1)) = lk e d)
  | [], _, _, _, _, h, _, _ => by simp at h
  | _ :: _, [], _, _, _, _, h, _ => by simp at h
  | x :: es, y :: ds, 0, e, d, h, h', _ => by simp at h h'; subst h; subst h'; simp [lks]
  | x :: es, y :: ds, n + 1, e, d, h, h', h2 => by
    simp only [List.take_succ_cons, lks, Bool.and_eq_true] at h2 ⊢
    have := lks_take (es := es) (ds := ds) (n := n) (by simpa using h) (by simpa using h') h2.2
    rw [this, h2.1, Bool.true_and]
theorem lks_false : ∀ {es ds : List D} {n : Nat}, lks (es.take n) (ds.take n) = false → lks es ds = false
  | [], _, _, h => by simp [lks] at h
  | _ :: _, [], 0, h => by simp [lks] at h
  | _ :: _, [], n + 1, h => by simp [lks] at h
  | x :: es, y :: ds, 0, h => by simp [lks] at h
  | x :: es, y :: ds, n + 1, h => by
    simp only [List.take_succ_cons, lks, Bool.and_eq_false_iff] at h ⊢
    rcases h with h | h
    · exact .inl h
    · exact .inr (lks_false h)
mutual
theorem lk_refl : ∀ (n : Nat) (d : D), dueOk n d = true → lk d d = true
  | _, .non, _ => rfl
  | _, .bl _, _ => by simp [lk]
  | _, .int _, _ => by simp [lk]
  | n + 1, .tup ds, h => by
    simp only [dueOk, Bool.and_eq_true] at h
    simp only [lk, decide_true, Bool.true_and, lks_refl n ds h.1]
  | 0, .tup ds, h => by simp [dueOk] at h
  | _, .str _, h | _, .lst _, h | _, .ro _, h | _, .ref _, h | _, .ty _, h => by simp [dueOk] at h
theorem lks_refl : ∀ (n : Nat) (ds : List D), dueOks n ds = true → lks ds ds = true
  | _, [], _ => rfl
  | n, d :: ds, h => by
    simp only [dueOks, Bool.and_eq_true] at h
    simp only [lks, lk_refl n d h.1, lks_refl n ds h.2, Bool.and_self]
end
def sp_like (n : Nat) (told due : D) (S : Sto) (Q : DK) : Prop := pln told = true ∧ dueOk n due = true ∧ Q (.bl (lk told due)) S
def sp_law_like := sp_like 6
-- _law_like : 0=told 1=due 2=at
def rd_law_like (spr : DSp) : DTS :=
    (dSeq (dIf (dTest (dOp vIs (dVar 1) (dC .non))) (dRet (dOp vIs (dVar 0) (dC .non))) dNext)
    (dSeq (dIf (dTest (dCB vIsi (dCons (dVar 1) (dCons (dC (.ty "bool")) dNil)))) (dRet (dAndV (dCB vIsi (dCons (dVar 0) (dCons (dC (.ty "bool")) dNil))) (dOp vEq (dVar 0) (dVar 1)))) dNext)
    (dSeq (dIf (dTest (dCB vIsi (dCons (dVar 1) (dCons (dC (.ty "int")) dNil)))) (dRet (dAndV (dCB vIsi (dCons (dVar 0) (dCons (dC (.ty "int")) dNil))) (dAndV (dNotV (dCB vIsi (dCons (dVar 0) (dCons (dC (.ty "bool")) dNil)))) (dOp vEq (dVar 0) (dVar 1))))) dNext)
    (dSeq (dIf (dOr (dNot (dTest (dCB vIsi (dCons (dVar 0) (dCons (dC (.ty "tuple")) dNil))))) (dTest (dOp vNe (dCB vLen (dCons (dVar 0) dNil)) (dCB vLen (dCons (dVar 1) dNil))))) (dRet (dC (.bl false))) dNext)
    (dSeq (dFor (iRange1 (dCB vLen (dCons (dVar 1) dNil))) (dTg (.nm 2)) (dIf (dNot (dTest (dCall spr (dCons (dOp vIx (dVar 0) (dVar 2)) (dCons (dOp vIx (dVar 1) (dVar 2)) dNil))))) (dRet (dC (.bl false))) dNext))
    (dRet (dC (.bl true))))))))
theorem pln_pv1 {d : D} (h : pln d = true) : isiT d "int" ≠ none := by
  cases d <;> simp_all [pln, isiT]
theorem rd_law_like_ok (n : Nat) (spr : DSp) (hs : ∀ m, n = m + 1 → spr = a2 (sp_like m)) : ∀ ds S P, (a2 (sp_like n)) ds S P → rd_law_like spr (DEnds.of P) (dstart ["told", "due", "at"] ds) S := by
  intro ds S P h
  rcases ds with _ | ⟨told, _ | ⟨due, _ | ⟨z, ds⟩⟩⟩ <;> first | exact (h : False).elim | skip
  obtain ⟨h1, h2, h3⟩ := (h : sp_like n told due S P)
  unfold rd_law_like
  cases due <;> first | (simp [dueOk] at h2; done) | skip
  · cases told <;> first | (simp [pln] at h1; done) | skip
    all_goals walk_at "rd"
    all_goals simp only [lk, isN] at h3
    all_goals exact .of h3
  · cases told <;> first | (simp [pln] at h1; done) | skip
    all_goals walk_at "rd"
    all_goals try simp [isiT]
    all_goals simp only [lk] at h3
    all_goals exact .of h3
  · cases told <;> first | (simp [pln] at h1; done) | skip
    all_goals walk_at "rd"
    all_goals try simp [isiT]
    all_goals simp only [lk] at h3
    all_goals exact .of h3
  · rename_i ds
    rcases n with _ | n
    · simp [dueOk] at h2
    rw [hs n rfl]
    by_cases c : ∃ es, told = .tup es
    · obtain ⟨es, rfl⟩ := c
      simp only [dueOk, pln, Bool.and_eq_true, decide_eq_true_eq] at h1 h2
      simp only [lk] at h3
      walk_at "rd"
      try simp only [isiT, dFor]
      walk_at "rd"
      simp only [Bool.not_true, Bool.not_eq_true', decide_eq_false_iff_not, String.reduceEq, if_false, false_or, if_true, reduceIte, Bool.false_eq_true, or_false, or_self]
      by_cases e : es.length = ds.length
      · rw [if_neg (by omega)]
        rw [decide_eq_true e, Bool.true_and] at h3
        refine ⟨by omega, by omega, ?_⟩
        refine forL_inv (fun i δ S' => S' = S ∧ lks (es.take i) (ds.take i) = true ∧ ∃ x, δ = [some (.tup es), some (.tup ds), x]) (fun _ _ _ _ => True.intro) _ 0 _ _ ⟨rfl, by simp [lks], _, rfl⟩ ?_ ?_
        · rintro j d _ _ hj ⟨rfl, hl, x, rfl⟩ D2 hrt _ hnx _
          rw [Nat.zero_add] at hl
          have hjn : j < ds.length := by
            have := (List.getElem?_eq_some_iff.mp hj).1
            simp [rngD] at this
            exact this
          have ed : d = .int (j : Nat) := by
            simp only [rngD, List.getElem?_map, Int.toNat_natCast] at hj
            rw [List.getElem?_range hjn] at hj
            simp at hj
            exact hj.symm
          subst ed
          have g1 : es[j]? = some es[j] := List.getElem?_eq_getElem (by omega)
          have g2 : ds[j]? = some ds[j] := List.getElem?_eq_getElem (by omega)
          walk_at "rd"
          rw [atI_nat, atI_nat, g1, g2]
          simp only [sp_like]
          refine ⟨plns_get h1.1 g1, dueOks_get h2.1 g2, ?_⟩
          have q := lks_take g1 g2 hl
          cases k : lk es[j] ds[j] with
          | true =>
            simp only [Bool.not_true, Bool.false_eq_true, if_false]
            exact hnx _ _ ⟨rfl, by rw [Nat.zero_add, q, k], _, rfl⟩
          | false =>
            simp only [Bool.not_false, if_true]
            rw [k] at q
            rw [hrt]
            rw [lks_false q] at h3
            exact .of h3
        · rintro _ _ ⟨rfl, hl, x, rfl⟩
          simp only [rngD, List.length_map, List.length_range, Int.toNat_natCast, Nat.zero_add] at hl
          rw [List.take_of_length_le (by omega), List.take_of_length_le (by omega)] at hl
          rw [hl] at h3
          walk_at "rd"
          exact .of h3
      · rw [if_pos (by omega)]
        rw [decide_eq_false e, Bool.false_and] at h3
        exact .of h3
    · have e : lk told (.tup ds) = false := by
        cases told <;> first | rfl | exact absurd ⟨_, rfl⟩ c
      rw [e] at h3
      cases told <;> first | (simp [pln] at h1; done) | exact absurd ⟨_, rfl⟩ c | skip
      all_goals walk_at "rd"
      all_goals try simp [isiT]
      all_goals exact .of h3
/-! ### the law's own: what is drawn -/
def Ok (so : SO) : Prop := ∃ (k m : Int) (figs : List Int), so = .lst [.int k, .int m, .lst (figs.map .int)] ∧ 0 ≤ k ∧ 0 ≤ m ∧ m < 1000000 ∧ figs ≠ [] ∧ ∀ x ∈ figs, 0 ≤ x ∧ x < 100000
def cnt : SO → Nat
  | .lst (.int k :: _) => k.toNat
  | _ => 0
theorem ixN30 : ixN 3 0 = some 0 := by decide
theorem ixN31 : ixN 3 1 = some 1 := by decide
theorem atI_mod {figs : List Int} (h : figs ≠ []) (e : Int) : ∃ v ∈ figs, atI (figs.map D.int) (e % (figs.length : Int)) = some (.int v) := by
  have hl : 0 < figs.length := List.length_pos_iff.mpr h
  have h1 : 0 ≤ e % (figs.length : Int) := Int.emod_nonneg _ (by omega)
  have h2 : e % (figs.length : Int) < figs.length := Int.emod_lt_of_pos _ (by omega)
  have h3 : (e % (figs.length : Int)).toNat < figs.length := by omega
  refine ⟨figs[(e % (figs.length : Int)).toNat], List.getElem_mem h3, ?_⟩
  rw [atI_int h1, List.getElem?_map, List.getElem?_eq_getElem h3]
  rfl
theorem cmul_small {i j : Int} (h : -(2 ^ 64) < i ∧ i < 2 ^ 64) : CMul i j ∨ CMulW i j := .inl (.inl h)
theorem sup_self {S : Sto} {b : Addr} {so : SO} (h : S b = some so) : sup S b so = S := by
  funext a
  unfold sup
  split
  · rename_i e; rw [e, h]
  · rfl
def sp_law_spin (bowl many : D) (S : Sto) (Q : DK) : Prop := match bowl, many with
  | .ref b, .int k => ∃ so, S b = some so ∧ Ok so ∧ cnt so ≤ 1000000 ∧ 0 < k ∧ ∀ so' n, Ok so' → cnt so' = cnt so + 1 → 0 ≤ n → n < k → Q (.int n) (sup S b so')
  | _, _ => False
-- _law_spin : 0=bowl 1=many
def rd_law_spin : DTS :=
    (dSeq (dAsg (dOp vAdd (dOp vIx (dVar 0) (dC (.int 0))) (dC (.int 1))) (dgSub (dVar 0) (dC (.int 0))))
    (dSeq (dAsg (dOp vMod (dCB vInt (dCons (dOp vAdd (dOp vAdd (dOp vMul (dOp vIx (dVar 0) (dC (.int 1))) (dC (.int 421))) (dOp vMul (dOp vIx (dOp vIx (dVar 0) (dC (.int 2))) (dOp vMod (dCB vInt (dCons (dOp vSub (dOp vMul (dOp vIx (dVar 0) (dC (.int 0))) (dOp vIx (dVar 0) (dC (.int 0)))) (dC (.int 1))) dNil)) (dCB vLen (dCons (dOp vIx (dVar 0) (dC (.int 2))) dNil)))) (dC (.int 17)))) (dOp vMul (dOp vIx (dVar 0) (dC (.int 0))) (dC (.int 1663)))) dNil)) (dC (.int 999983))) (dgSub (dVar 0) (dC (.int 1))))
    (dRet (dOp vMod (dCB vInt (dCons (dOp vDiv (dOp vIx (dVar 0) (dC (.int 1))) (dC (.int 7))) dNil)) (dVar 1)))))
theorem rd_law_spin_ok : ∀ ds S P, (a2 sp_law_spin) ds S P → rd_law_spin (DEnds.of P) (dstart ["bowl", "many"] ds) S := by
  intro ds S P h
  rcases ds with _ | ⟨x, _ | ⟨y, _ | ⟨z, ds⟩⟩⟩ <;> first | exact (h : False).elim | skip
  simp only [a2, sp_law_spin] at h
  split at h
  · rename_i b many
    obtain ⟨so, hS, ⟨k, m, figs, rfl, k0, m0, m1, hf, hx⟩, hc, hm, q⟩ := h
    simp only [cnt] at hc
    unfold rd_law_spin
    rw [← sup_self hS]
    walk_at "rd"
    simp only [ixN30, ixN31]
    walk_at "rd"
    obtain ⟨v, hv, ev⟩ := atI_mod hf ((k + 1) * (k + 1) - 1)
    obtain ⟨v0, v1⟩ := hx v hv
    have hl : 0 < figs.length := List.length_pos_iff.mpr hf
    refine ⟨cmul_small (by omega), cmul_small (by omega), by omega, ?_⟩
    rw [ev]
    walk_at "rd"
    refine ⟨cmul_small (by omega), cmul_small (by omega), by omega, ?_⟩
    try simp only [ixN31]
    walk_at "rd"
    refine ⟨by unfold CDiv; omega, hm, ?_⟩
    exact .of (q _ _ ⟨_, _, figs, rfl, by omega, Int.emod_nonneg _ (by omega), by have := Int.emod_lt_of_pos (m * 421 + v * 17 + (k + 1) * 1663) (show (0 : Int) < 999983 by omega); omega, hf, hx⟩ (by simp only [cnt]; omega) (Int.emod_nonneg _ (by omega)) (Int.emod_lt_of_pos _ hm))
  · exact h.elim
def InB (h : Int) (xs : List Int) : Prop := ∀ x ∈ xs, 0 ≤ x ∧ x < h
def sp_law_made (bowl long high : D) (S : Sto) (Q : DK) : Prop := match bowl, long, high with
  | .ref b, .int l, .int h => ∃ so, S b = some so ∧ Ok so ∧ cnt so ≤ 500000 ∧ 0 ≤ l ∧ l ≤ 1000 ∧ 0 < h ∧ ∀ so' xs, Ok so' → cnt so' ≤ cnt so + 1000 → (xs.length : Int) = l → InB h xs → Q (.tup (xs.map .int)) (sup S b so')
  | _, _, _ => False
-- _law_made : 0=bowl 1=long 2=high 3=turn
def rd_law_made : DTS :=
    (dRet (dCB vTuple (dCons (dLc (iRange1 (dVar 1)) (dTg (.nm 3)) dYes (dCall (a2 sp_law_spin) (dCons (dVar 0) (dCons (dVar 2) dNil))) [3]) dNil)))
theorem made_loop {b : Addr} {h : Int} (hh : 0 < h) {S0 : Sto} {Q : DK} : ∀ (items : List D) (acc : List Int) (so : SO), Ok so → cnt so + items.length ≤ 1000000 → acc.length + items.length ≤ 2000 → InB h acc →
    (∀ so' xs, Ok so' → cnt so' = cnt so + items.length → xs.length = acc.length + items.length → InB h xs → Q (.lst (xs.map .int)) (sup S0 b so')) →
    ∀ long, lcL (fun _ => True) (dTg (.nm 3)) dYes (dCall (a2 sp_law_spin) (dCons (dVar 0) (dCons (dVar 2) dNil))) [3] [some (.ref b), long, some (.int h), none] items (acc.map .int) (sup S0 b so) Q
  | [], acc, so, ok, hc, hl, hi, q, long => ⟨True.intro, q so acc ok rfl rfl hi⟩
  | d :: items, acc, so, ok, hc, hl, hi, q, long => by
    simp only [List.length_cons] at hc hl q
    refine ⟨True.intro, by rw [sizeLine_val, List.length_map]; omega, ?_⟩
    walk_at "rd"
    simp only [sp_law_spin]
    refine ⟨so, sup_same, ok, by omega, hh, fun so' n ok' c' n0 n1 => ?_⟩
    rw [sup_sup, show acc.map D.int ++ [D.int n] = (acc ++ [n]).map D.int by simp]
    refine made_loop hh items (acc ++ [n]) so' ok' (by omega) (by simp only [List.length_append, List.length_cons, List.length_nil]; omega) (fun x hx => ?_) (fun so2 xs a b c d => q so2 xs a (by omega) (by simp only [List.length_append, List.length_cons, List.length_nil] at c; omega) d) long
    rcases List.mem_append.mp hx with hx | hx
    · exact hi x hx
    · simp at hx
      subst hx
      exact ⟨n0, n1⟩
theorem rd_law_made_ok : ∀ ds S P, (a3 sp_law_made) ds S P → rd_law_made (DEnds.of P) (dstart ["bowl", "long", "high", "turn"] ds) S := by
  intro ds S P h
  rcases ds with _ | ⟨x, _ | ⟨y, _ | ⟨z, _ | ⟨w, ds⟩⟩⟩⟩ <;> first | exact (h : False).elim | skip
  simp only [a3, sp_law_made] at h
  split at h
  · rename_i b l h'
    obtain ⟨so, hS, ok, hc, l0, l1, hh, q⟩ := h
    unfold rd_law_made
    walk_at "rd"
    refine ⟨by omega, by omega, ?_⟩
    rw [← sup_self hS]
    have hlen : (rngD 0 l.toNat).length = l.toNat := by simp [rngD]
    refine made_loop hh (rngD 0 l.toNat) [] so ok (by rw [hlen]; omega) (by rw [hlen]; simp; omega) (fun x hx => by cases hx) (fun so' xs a b c d => ?_) _
    rw [hlen] at b c
    walk_at "rd"
    exact .of (q so' xs a (by omega) (by simp at c; omega) d)
  · exact h.elim
/-- another kind at a place -/
def sp_law_turned (bowl pile at_ high : D) (S : Sto) (Q : DK) : Prop := match bowl, asP pile, at_, high with
  | .ref b, some p, .int i, .int h => ∃ so, S b = some so ∧ Ok so ∧ cnt so ≤ 500000 ∧ 0 ≤ i ∧ i < p.length ∧ p.length ≤ 1000 ∧ 2 ≤ h ∧ InB h p ∧
    ∀ so' y, Ok so' → cnt so' ≤ cnt so + 1 → 0 ≤ y → y < h → p[i.toNat]? ≠ some y → Q (.tup ((p.take i.toNat ++ [y] ++ p.drop (i.toNat + 1)).map .int)) (sup S b so')
  | _, _, _, _ => False
-- _law_turned : 0=bowl 1=pile 2=at 3=high
def rd_law_turned : DTS :=
    (dRet (dOp vAdd (dOp vAdd (dSl vSl (dVar 1) dNoPart (dPart (dVar 2))) (dTup (dCons (dOp vMod (dCB vInt (dCons (dOp vAdd (dOp vAdd (dOp vIx (dVar 1) (dVar 2)) (dC (.int 1))) (dCall (a2 sp_law_spin) (dCons (dVar 0) (dCons (dOp vSub (dVar 3) (dC (.int 1))) dNil)))) dNil)) (dVar 3)) dNil))) (dSl vSl (dVar 1) (dPart (dOp vAdd (dVar 2) (dC (.int 1)))) dNoPart)))
theorem turned_ne {x h s : Int} (h2 : 2 ≤ h) (x0 : 0 ≤ x) (x1 : x < h) (s0 : 0 ≤ s) (s1 : s < h - 1) : (x + 1 + s) % h ≠ x := by
  intro e
  by_cases c : x + 1 + s < h
  · rw [Int.emod_eq_of_lt (by omega) c] at e
    omega
  · have : (x + 1 + s) % h = x + 1 + s - h := by
      rw [← Int.sub_emod_right, Int.emod_eq_of_lt (by omega) (by omega)]
    omega
theorem rd_law_turned_ok : ∀ ds S P, (a4 sp_law_turned) ds S P → rd_law_turned (DEnds.of P) (dstart ["bowl", "pile", "at", "high"] ds) S := by
  intro ds S P h
  rcases ds with _ | ⟨x, _ | ⟨y, _ | ⟨z, _ | ⟨w, _ | ⟨v, ds⟩⟩⟩⟩⟩ <;> first | exact (h : False).elim | skip
  simp only [a4, sp_law_turned] at h
  split at h
  · rename_i b p i h' e
    obtain ⟨so, hS, ok, hc, i0, i1, hp, hh, hi, q⟩ := h
    rw [asP_eq e]
    obtain ⟨n, rfl⟩ := Int.eq_ofNat_of_zero_le i0
    have hn : n < p.length := by omega
    obtain ⟨x0, x1⟩ := hi p[n] (List.getElem_mem hn)
    unfold rd_law_turned
    walk_at "rd"
    rw [atI_nat, List.getElem?_map, List.getElem?_eq_getElem hn]
    simp only [Option.map_some, sp_law_spin]
    refine ⟨so, hS, ok, by omega, by omega, fun so' s ok' c' s0 s1 => ?_⟩
    refine ⟨by omega, ?_⟩
    walk_at "rd"
    rw [show (n : Int) + 1 = ((n + 1 : Nat) : Int) by omega, cut_from, ← List.map_drop, ← List.map_take]
    refine ⟨by simp [sizeLine_val]; omega, by simp [sizeLine_val]; omega, .of ?_⟩
    have e2 := q so' ((p[n] + 1 + s) % h') ok' (by omega) (Int.emod_nonneg _ (by omega)) (Int.emod_lt_of_pos _ (by omega)) (by
      simp only [Int.toNat_natCast]
      rw [List.getElem?_eq_getElem hn]
      intro z
      exact turned_ne hh x0 x1 s0 s1 (Option.some.inj z).symm)
    simpa using e2
  · exact h.elim
end L3

set_option Elab.async false
set_option maxRecDepth 100000
set_option linter.all false
set_option maxHeartbeats 4000000
namespace L3
open PySem L2
local macro_rules | `(tactic| walk_at "rd") => `(tactic| try simp only [dSeq, dAsg, dOp, dUn, dVar, dC, dCons, dNil, dTup, dLst, dLstM, dTest, dChain, dAnd, dOr, dNot, dAndV, dOrV, dNotV, dIfE, dCB, dCall, dSl, dPart, dNoPart, dIf, dRet, dRetN, dNext, dDrop, dTg, setAll, slot, dset, dwipe, dAug,
  a0, a1, a2, a3, a4, a5, a6, dLc, iTupD, iRange1, iRange2, dYes, dLM, dgSub, DEnds.of, dstart,
  vAt_some, vAtL_lst, vIx_tup, vIx_lst, vIx_ro, vIx_ref, vSl_tup, vSl_lst, vSl_ro, vSl_ref, vSlL_lst, vLen_tup, vLen_lst, vLen_ro, vLen_ref, vLenL_lst, vLenL_dK, vAdd_int, vAdd_tup, vAdd_lst, vAdd_ref, vAddL_lst, vSub_int, vLt_int, vLe_int, vGt_int, vGe_int, vMod_int, vDiv_int, vPow_int, vShl_int, vMul_int, vMul_tup, vMul_lst,
  vEq_int, vEq_str, vEq_bl, vEq_tup, vEq_lst, vNe_int, vNe_str, vNe_bl, vNe_tup, isN_non, isN_bl, isN_int, isN_str, isN_tup, isN_lst, isN_ref, vIs_non, vIsNot_non, vNeg_int, vInt_int, vInt_bl, vBool_int, vBool_bl, vAbs_int, vMin2_int, vMax2_int, vTuple_tup, vTuple_lst, vTuple_ref, vTupleL_lst, vList_tup, vList_lst,
  vAllO_some, vAll_x, vAny_x, seqOf_lst, vIsi_x, vIadd_int, vAppL_lst, vAppend_ref, vSetN_some, vSetO_lst, vSet_ref, isSeq_ref, ex_lst, all1,
  isiT_int_int, isiT_int_bool, isiT_int_tuple, isiT_int_str, isiT_int_list, isiT_bl_int, isiT_bl_bool, isiT_bl_tuple, isiT_bl_str, isiT_bl_list, isiT_non_int, isiT_non_bool, isiT_non_tuple, isiT_non_str, isiT_non_list, isiT_str_int, isiT_str_bool, isiT_str_tuple, isiT_str_str, isiT_str_list, isiT_tup_int, isiT_tup_bool, isiT_tup_tuple, isiT_tup_str, isiT_tup_list, isiT_lst_int, isiT_lst_bool, isiT_lst_tuple, isiT_lst_str, isiT_lst_list,
  Option.map_some, Option.bind_some, List.map_cons, List.map_nil, List.length_cons, List.length_nil, List.cons_append, List.nil_append, List.replicate, List.set, List.append_nil, atI_0, atI_1, atI_2, atI_3, atI_4, atI_5, List.length_map, Nat.zero_add, Nat.reduceAdd, Nat.reduceSub, Nat.reduceLeDiff, true_and, and_true, Bool.false_eq_true, if_true, if_false, decide_eq_true_eq, reduceIte, ite_true, ite_false,
  Bool.not_true, Bool.not_false, List.length_append, cut_from, cut_to, sup_same, sup_sup, Option.some.injEq, exists_eq_left', exists_eq_left])
local macro_rules | `(tactic| walk_at "side") => `(tactic| first | assumption | omega | (simp only [List.length_append, List.length_cons, List.length_nil, List.length_take, List.length_drop, List.length_map, List.length_reverse, sizeLine_val]; omega) | decide)
local macro_rules | `(tactic| walk_at "st") => `(tactic| first
  | with_reducible refine st_ix0 ?_ | with_reducible refine st_ix1 ?_ | with_reducible refine st_ix2 ?_ | with_reducible refine st_ix3 ?_ | with_reducible refine st_ix4 ?_
  | with_reducible refine st_add_pp (by walk_at "side") ?_ | with_reducible refine st_add_p1 (by walk_at "side") ?_ | with_reducible refine st_add_1p (by walk_at "side") ?_
  | with_reducible refine st_add ?_ | with_reducible refine st_sub ?_ | with_reducible refine st_iadd ?_ | with_reducible refine st_neg ?_
  | with_reducible refine st_len_p ?_ | with_reducible refine st_len_lp ?_ | with_reducible refine st_len_rp ?_ | with_reducible refine st_len_t ?_ | with_reducible refine st_len_l ?_
  | with_reducible refine st_add_t (by walk_at "side") ?_ | with_reducible refine st_add_l (by walk_at "side") ?_ | with_reducible refine st_add_s (by walk_at "side") ?_
  | with_reducible refine st_iteT ?_ | with_reducible refine st_iteF ?_ | with_reducible refine st_not ?_
  | with_reducible refine st_lt ?_ | with_reducible refine st_le ?_ | with_reducible refine st_gt ?_ | with_reducible refine st_ge ?_ | with_reducible refine st_eqi ?_ | with_reducible refine st_nei ?_ | with_reducible refine st_eqs ?_ | with_reducible refine st_nes ?_ | with_reducible refine st_eqb ?_
  | with_reducible refine st_isn_non ?_ | with_reducible refine st_isn_int ?_ | with_reducible refine st_isn_tup ?_ | with_reducible refine st_isn_str ?_ | with_reducible refine st_isn_bl ?_
  | with_reducible refine st_isnt_non ?_ | with_reducible refine st_isnt_int ?_ | with_reducible refine st_isnt_tup ?_ | with_reducible refine st_isnt_str ?_
  | with_reducible refine st_int ?_ | with_reducible refine st_intb ?_ | with_reducible refine st_abs ?_ | with_reducible refine st_min2 ?_ | with_reducible refine st_max2 ?_
  | with_reducible refine st_tup_l ?_ | with_reducible refine st_tup_t ?_ | with_reducible refine st_lst_t ?_ | with_reducible refine st_lst_l ?_
  | with_reducible refine st_sl_from ?_ | with_reducible refine st_sl_to ?_
  | with_reducible refine st_lx0 ?_ | with_reducible refine st_lx1 ?_ | with_reducible refine st_lx2 ?_ | with_reducible refine st_lx3 ?_
  | with_reducible refine st_mod (by walk_at "side") ?_ | with_reducible refine st_div (by walk_at "side") ?_ | with_reducible refine st_mul (by walk_at "side") ?_ | with_reducible refine st_mul' (by walk_at "side") ?_
  | with_reducible refine st_isi rfl ?_
  | (with_reducible refine And.intro (Nat.le_of_ble_eq_true rfl) ?_)
  | with_reducible refine st_dT (by omega) ?_ | with_reducible refine st_dF (by omega) ?_)
local macro_rules | `(tactic| walk_at "hd") => `(tactic| (with_reducible conv => whnf))
local macro_rules | `(tactic| walk_at "run") => `(tactic| ((with_reducible conv => whnf); repeat (walk_at "st"; (with_reducible conv => whnf))))
theorem map_snoc (p : List Int) (y : Int) : p.map D.int ++ [.int y] = (p ++ [y]).map .int := by simp
theorem use_spin {b : Addr} {k : Int} {S : Sto} {Q : DK} {so : SO} (hS : S b = some so) (ok : Ok so) (c : cnt so ≤ 1000000) (hk : 0 < k) (q : ∀ so' n, Ok so' → cnt so' = cnt so + 1 → 0 ≤ n → n < k → Q (.int n) (sup S b so')) : sp_law_spin (.ref b) (.int k) S Q := ⟨so, hS, ok, c, hk, q⟩
theorem use_made {b : Addr} {l h : Int} {S : Sto} {Q : DK} {so : SO} (hS : S b = some so) (ok : Ok so) (c : cnt so ≤ 500000) (l0 : 0 ≤ l) (l1 : l ≤ 1000) (hh : 0 < h) (q : ∀ so' xs, Ok so' → cnt so' ≤ cnt so + 1000 → (xs.length : Int) = l → InB h xs → Q (.tup (xs.map .int)) (sup S b so')) : sp_law_made (.ref b) (.int l) (.int h) S Q := ⟨so, hS, ok, c, l0, l1, hh, q⟩
theorem use_turned {b : Addr} {p : List Int} {i h : Int} {S : Sto} {Q : DK} {so : SO} (hS : S b = some so) (ok : Ok so) (c : cnt so ≤ 500000) (i0 : 0 ≤ i) (i1 : i < p.length) (hp : p.length ≤ 1000) (hh : 2 ≤ h) (hi : InB h p)
    (q : ∀ so' y, Ok so' → cnt so' ≤ cnt so + 1 → 0 ≤ y → y < h → p[i.toNat]? ≠ some y → Q (.tup ((p.take i.toNat ++ [y] ++ p.drop (i.toNat + 1)).map .int)) (sup S b so')) : sp_law_turned (.ref b) (.tup (p.map .int)) (.int i) (.int h) S Q := by
  simp only [sp_law_turned, asP, asInts_map]
  exact ⟨so, hS, ok, c, i0, i1, hp, hh, hi, q⟩
theorem longer_left {a b : Eff} (h : isExt a b = true) : longer a b = ef a := by unfold longer; rw [if_pos h]
theorem longer_right {a b : Eff} (h : isExt a b = false) (h2 : isExt b a = true) : longer a b = ef b := by unfold longer; rw [if_neg (by rw [h]; exact Bool.false_ne_true), if_pos h2]
theorem longer_none {a b : Eff} (h : isExt a b = false) (h2 : isExt b a = false) : longer a b = .non := by unfold longer; rw [if_neg (by rw [h]; exact Bool.false_ne_true), if_neg (by rw [h2]; exact Bool.false_ne_true)]
def Sm (p : List Int) : Prop := p.length ≤ 100000
theorem use_longer {p q r s : List Int} {d : D} {S : Sto} {Q : DK} (h1 : Sm p) (h2 : Sm q) (h3 : Sm r) (h4 : Sm s) (e : longer (p, q) (r, s) = d) (k : Q d S) : sp_longer_of (.tup [.tup (p.map .int), .tup (q.map .int)]) (.tup [.tup (r.map .int), .tup (s.map .int)]) S Q := by
  simp only [sp_longer_of]
  rw [asE_ef (p, q), asE_ef (r, s)]
  exact ⟨⟨h1, h2⟩, ⟨h3, h4⟩, by rw [e]; exact k⟩
theorem plns_ints (p : List Int) : plns (p.map .int) = true := by
  induction p with
  | nil => rfl
  | cons x p ih => simp only [List.map_cons, plns, pln, ih, Bool.and_self]
theorem dueOks_ints (n : Nat) (p : List Int) : dueOks n (p.map .int) = true := by
  induction p with
  | nil => cases n <;> rfl
  | cons x p ih => simp only [List.map_cons, dueOks, dueOk, ih, Bool.and_self]
local macro_rules | `(tactic| walk_at "okp") => `(tactic| (simp only [pln, plns, plns_ints, dueOk, dueOks, dueOks_ints, List.length_map, List.length_append, List.length_cons, List.length_nil, Bool.and_eq_true, decide_eq_true_eq, and_true, true_and, Nat.reduceAdd, Nat.zero_add, Nat.reduceLeDiff, Bool.and_true, Bool.true_and, decide_true] <;> omega))
theorem use_undone {a b : D} {S : Sto} {Q : DK} (h : Q (.tup [b, a]) S) : sp_undone (.tup [a, b]) S Q := h
theorem use_like {told due : D} {S : Sto} {Q : DK} (e : told = due) (h1 : pln due = true) (h2 : dueOk 6 due = true) (q : Q (.bl true) S) : sp_law_like told due S Q := by
  subst e
  exact ⟨h1, h2, by rw [lk_refl 6 told h2]; exact q⟩
/-! the mathematics of extended effects -/
theorem ext_self (a : Eff) : isExt a a = true := by simp [isExt]
theorem ext_more (p q r : List Int) : isExt (p ++ r, q ++ r) (p, q) = true := by simp [isExt]
theorem ext_len {a b : Eff} (h : isExt a b = true) : b.1.length ≤ a.1.length ∧ b.2.length ≤ a.2.length ∧ a.1.length - b.1.length = a.2.length - b.2.length := by
  have e := of_decide_eq_true h
  have e1 := congrArg (fun t => t.1.length) e
  have e2 := congrArg (fun t => t.2.length) e
  simp only [List.length_append, List.length_drop] at e1 e2
  omega
theorem not_ext_len {a b : Eff} (h : ¬ (b.1.length ≤ a.1.length ∧ b.2.length ≤ a.2.length ∧ a.1.length - b.1.length = a.2.length - b.2.length)) : isExt a b = false := by
  cases e : isExt a b with
  | false => rfl
  | true => exact absurd (ext_len e) h
theorem not_ext_tail {p q r s : List Int} (h : r ≠ s) : isExt (p ++ r, q ++ s) (p, q) = false := by
  apply decide_eq_false
  intro e
  have e2 := congrArg Prod.snd e
  simp only [List.drop_left] at e2
  exact h (List.append_cancel_left e2).symm
theorem not_ext_eq {a b : Eff} (hl : a.1.length = b.1.length) (h : a ≠ b) : isExt a b = false := by
  apply decide_eq_false
  intro e
  rw [List.drop_of_length_le (by omega)] at e
  simp only [List.append_nil] at e
  exact h (by rw [e])
theorem not_ext_inner {p q x y x' y' : List Int} (h : ∀ z, x ≠ x' ++ z) : isExt (p ++ x, q ++ y) (p ++ x', q ++ y') = false := by
  apply decide_eq_false
  intro e
  have e2 := congrArg Prod.fst e
  simp only [List.append_assoc] at e2
  exact h _ (List.append_cancel_left e2)
theorem turned_ne_list {p : List Int} {n : Nat} {y : Int} (hn : n < p.length) (h : p[n]? ≠ some y) : p.take n ++ [y] ++ p.drop (n + 1) ≠ p := by
  intro e
  apply h
  rw [← e]
  simp [List.getElem?_append, Nat.min_eq_left (Nat.le_of_lt hn), Nat.lt_irrefl]
theorem turned_len {p : List Int} {n : Nat} {y : Int} (hn : n < p.length) : (p.take n ++ [y] ++ p.drop (n + 1)).length = p.length := by
  simp
  omega
def sp_law_longers (bowl long high : D) (S : Sto) (Q : DK) : Prop := match bowl, long, high with
  | .ref b, .int l, .int h => ∃ so, S b = some so ∧ Ok so ∧ cnt so ≤ 100000 ∧ 1 ≤ l ∧ l ≤ 99 ∧ 2 ≤ h ∧ ∀ so', Ok so' → cnt so' ≤ cnt so + 20000 → Q (.bl true) (sup S b so')
  | _, _, _ => False
-- _law_longers : 0=bowl 1=long 2=high 3=one 4=rest 5=two 6=at 7=bent 8=other 9=apart 10=more 11=told
def rd_law_longers : DTS :=
    (dSeq (dAsg (dTup (dCons (dCall (a3 sp_law_made) (dCons (dVar 0) (dCons (dCall (a2 sp_law_spin) (dCons (dVar 0) (dCons (dVar 1) dNil))) (dCons (dVar 2) dNil)))) (dCons (dCall (a3 sp_law_made) (dCons (dVar 0) (dCons (dCall (a2 sp_law_spin) (dCons (dVar 0) (dCons (dVar 1) dNil))) (dCons (dVar 2) dNil)))) dNil))) (dTg (.nm 3)))
    (dSeq (dAsg (dCall (a3 sp_law_made) (dCons (dVar 0) (dCons (dOp vAdd (dC (.int 1)) (dCall (a2 sp_law_spin) (dCons (dVar 0) (dCons (dVar 1) dNil)))) (dCons (dVar 2) dNil)))) (dTg (.nm 4)))
    (dSeq (dAsg (dTup (dCons (dOp vAdd (dOp vIx (dVar 3) (dC (.int 0))) (dVar 4)) (dCons (dOp vAdd (dOp vIx (dVar 3) (dC (.int 1))) (dVar 4)) dNil))) (dTg (.nm 5)))
    (dSeq (dIf (dNot (dTest (dCall (a2 sp_law_like) (dCons (dTup (dCons (dCall (a2 sp_longer_of) (dCons (dVar 3) (dCons (dVar 5) dNil))) (dCons (dCall (a2 sp_longer_of) (dCons (dVar 5) (dCons (dVar 3) dNil))) (dCons (dCall (a2 sp_longer_of) (dCons (dVar 5) (dCons (dVar 5) dNil))) dNil)))) (dCons (dTup (dCons (dVar 5) (dCons (dVar 5) (dCons (dVar 5) dNil)))) dNil))))) (dRet (dC (.bl false))) dNext)
    (dSeq (dAsg (dCall (a2 sp_law_spin) (dCons (dVar 0) (dCons (dCB vLen (dCons (dVar 4) dNil)) dNil))) (dTg (.nm 6)))
    (dSeq (dAsg (dTup (dCons (dOp vIx (dVar 5) (dC (.int 0))) (dCons (dOp vAdd (dOp vIx (dVar 3) (dC (.int 1))) (dCall (a4 sp_law_turned) (dCons (dVar 0) (dCons (dVar 4) (dCons (dVar 6) (dCons (dVar 2) dNil)))))) dNil))) (dTg (.nm 7)))
    (dSeq (dAsg (dOp vAdd (dCall (a4 sp_law_turned) (dCons (dVar 0) (dCons (dVar 4) (dCons (dVar 6) (dCons (dVar 2) dNil))))) (dCall (a3 sp_law_made) (dCons (dVar 0) (dCons (dCall (a2 sp_law_spin) (dCons (dVar 0) (dCons (dC (.int 3)) dNil))) (dCons (dVar 2) dNil))))) (dTg (.nm 8)))
    (dSeq (dAsg (dTup (dCons (dOp vAdd (dOp vIx (dVar 3) (dC (.int 0))) (dVar 8)) (dCons (dOp vAdd (dOp vIx (dVar 3) (dC (.int 1))) (dVar 8)) dNil))) (dTg (.nm 9)))
    (dSeq (dAsg (dTup (dCons (dOp vIx (dVar 3) (dC (.int 0))) (dCons (dOp vAdd (dOp vIx (dVar 3) (dC (.int 1))) (dVar 4)) dNil))) (dTg (.nm 10)))
    (dSeq (dAsg (dTup (dCons (dCall (a2 sp_longer_of) (dCons (dVar 3) (dCons (dVar 7) dNil))) (dCons (dCall (a2 sp_longer_of) (dCons (dVar 7) (dCons (dVar 5) dNil))) (dCons (dCall (a2 sp_longer_of) (dCons (dVar 5) (dCons (dVar 9) dNil))) (dCons (dCall (a2 sp_longer_of) (dCons (dVar 9) (dCons (dVar 5) dNil))) (dCons (dCall (a2 sp_longer_of) (dCons (dVar 10) (dCons (dVar 3) dNil))) (dCons (dCall (a2 sp_longer_of) (dCons (dVar 3) (dCons (dVar 10) dNil))) dNil))))))) (dTg (.nm 11)))
    (dSeq (dIf (dNot (dTest (dCall (a2 sp_law_like) (dCons (dVar 11) (dCons (dTup (dCons (dC .non) (dCons (dC .non) (dCons (dC .non) (dCons (dC .non) (dCons (dC .non) (dCons (dC .non) dNil))))))) dNil))))) (dRet (dC (.bl false))) dNext)
    (dRet (dCall (a2 sp_law_like) (dCons (dTup (dCons (dCall (a2 sp_longer_of) (dCons (dVar 9) (dCons (dVar 3) dNil))) (dCons (dCall (a1 sp_undone) (dCons (dVar 5) dNil)) (dCons (dCall (a1 sp_undone) (dCons (dVar 10) dNil)) dNil)))) (dCons (dTup (dCons (dVar 9) (dCons (dTup (dCons (dOp vIx (dVar 5) (dC (.int 1))) (dCons (dOp vIx (dVar 5) (dC (.int 0))) dNil))) (dCons (dTup (dCons (dOp vAdd (dOp vIx (dVar 3) (dC (.int 1))) (dVar 4)) (dCons (dOp vIx (dVar 3) (dC (.int 0))) dNil))) dNil)))) dNil)))))))))))))))
theorem rd_law_longers_ok : ∀ ds S P, (a3 sp_law_longers) ds S P → rd_law_longers (DEnds.of P) (dstart ["bowl", "long", "high", "one", "rest", "two", "at", "bent", "other", "apart", "more", "told"] ds) S := by
  intro ds S P h
  rcases ds with _ | ⟨x, _ | ⟨y, _ | ⟨z, _ | ⟨w, ds⟩⟩⟩⟩ <;> first | exact (h : False).elim | skip
  simp only [a3, sp_law_longers] at h
  split at h
  · rename_i b l h'
    obtain ⟨so, hS, ok, hc, l0, l1, hh, q⟩ := h
    unfold rd_law_longers
    rw [← sup_self hS]
    walk_at "run"
    refine use_spin sup_same ok (by omega) (by omega) fun so1 n1 ok1 c1 n10 n11 => ?_
    walk_at "run"
    refine use_made sup_same ok1 (by omega) (by omega) (by omega) (by omega) fun so2 p1 ok2 c2 pl1 pb1 => ?_
    walk_at "run"
    refine use_spin sup_same ok2 (by omega) (by omega) fun so3 n2 ok3 c3 n20 n21 => ?_
    walk_at "run"
    refine use_made sup_same ok3 (by omega) (by omega) (by omega) (by omega) fun so4 p2 ok4 c4 pl2 pb2 => ?_
    walk_at "run"
    refine use_spin sup_same ok4 (by omega) (by omega) fun so5 n3 ok5 c5 n30 n31 => ?_
    walk_at "run"
    refine use_made sup_same ok5 (by omega) (by omega) (by omega) (by omega) fun so6 r ok6 c6 rl rb => ?_
    walk_at "run"
    have rl1 : 1 ≤ r.length := by omega
    have rne : r ≠ [] := fun e => by rw [e] at rl1; simp at rl1
    have lp1 : p1.length ≤ 98 := by omega
    have lp2 : p2.length ≤ 98 := by omega
    have lr : r.length ≤ 99 := by omega
    have x1 : isExt (p1, p2) (p1 ++ r, p2 ++ r) = false := not_ext_len (by simp; omega)
    have x2 : isExt (p1 ++ r, p2 ++ r) (p1, p2) = true := ext_more _ _ _
    have sm1 : Sm p1 := by unfold Sm; omega
    have sm2 : Sm p2 := by unfold Sm; omega
    have sm3 : Sm (p1 ++ r) := by unfold Sm; simp; omega
    have sm4 : Sm (p2 ++ r) := by unfold Sm; simp; omega
    refine use_longer sm1 sm2 sm3 sm4 (longer_right x1 x2) ?_
    walk_at "run"
    refine use_longer sm3 sm4 sm1 sm2 (longer_left x2) ?_
    walk_at "run"
    refine use_longer sm3 sm4 sm3 sm4 (longer_left (ext_self _)) ?_
    walk_at "run"
    refine use_like rfl ?_ ?_ ?_
    · try simp only [ef, pl]
      walk_at "okp"
    · try simp only [ef, pl]
      walk_at "okp"
    walk_at "run"
    refine use_spin sup_same ok6 (by omega) (by omega) fun so7 n4 ok7 c7 n40 n41 => ?_
    walk_at "run"
    refine use_turned sup_same ok7 (by omega) n40 n41 (by omega) hh rb fun so8 y1 ok8 c8 y10 y11 yne1 => ?_
    have h4 : n4.toNat < r.length := by omega
    have ne1 := turned_ne_list h4 yne1
    have len1 := turned_len (y := y1) h4
    generalize r.take n4.toNat ++ [y1] ++ r.drop (n4.toNat + 1) = r1 at ne1 len1 ⊢
    walk_at "run"
    refine use_turned sup_same ok8 (by omega) n40 n41 (by omega) hh rb fun so9 y2 ok9 c9 y20 y21 yne2 => ?_
    have ne2 : ∀ z : List Int, r.take n4.toNat ++ [y2] ++ r.drop (n4.toNat + 1) ++ z ≠ r := fun z e => by
      apply yne2
      rw [← e]
      simp [List.getElem?_append, Nat.min_eq_left (Nat.le_of_lt h4)]
    have ne3 : ∀ z x : List Int, r.take n4.toNat ++ [y2] ++ r.drop (n4.toNat + 1) ++ z ≠ r ++ x := fun z x e => by
      apply yne2
      have e2 := congrArg (fun l => l[n4.toNat]?) e
      simp [List.getElem?_append, Nat.min_eq_left (Nat.le_of_lt h4), h4] at e2
      rw [List.getElem?_eq_getElem h4, e2]
    have len2 := turned_len (y := y2) h4
    generalize r.take n4.toNat ++ [y2] ++ r.drop (n4.toNat + 1) = r2 at ne2 ne3 len2 ⊢
    walk_at "run"
    refine use_spin sup_same ok9 (by omega) (by omega) fun so10 n5 ok10 c10 n50 n51 => ?_
    walk_at "run"
    refine use_made sup_same ok10 (by omega) (by omega) (by omega) (by omega) fun so11 w ok11 c11 wl wb => ?_
    walk_at "run"
    have lw : w.length ≤ 3 := by omega
    have lo : r2.length + w.length ≤ 1000 := by omega
    have sm5 : Sm (p2 ++ r1) := by unfold Sm; simp; omega
    have sm6 : Sm (p1 ++ (r2 ++ w)) := by unfold Sm; simp; omega
    have sm7 : Sm (p2 ++ (r2 ++ w)) := by unfold Sm; simp; omega
    refine use_longer sm1 sm2 sm3 sm5 (longer_none (not_ext_len (by simp; omega)) (not_ext_tail (Ne.symm ne1))) ?_
    walk_at "run"
    refine use_longer sm3 sm5 sm3 sm4 (longer_none (not_ext_eq (by simp) (fun e => ne1 (List.append_cancel_left (congrArg Prod.snd e)))) (not_ext_eq (by simp) (fun e => ne1 (List.append_cancel_left (congrArg Prod.snd e)).symm))) ?_
    walk_at "run"
    refine use_longer sm3 sm4 sm6 sm7 (longer_none (not_ext_inner fun z e => ne2 (w ++ z) (by rw [e, List.append_assoc])) (not_ext_inner fun z e => ne3 w z e)) ?_
    walk_at "run"
    refine use_longer sm6 sm7 sm3 sm4 (longer_none (not_ext_inner fun z e => ne3 w z e) (not_ext_inner fun z e => ne2 (w ++ z) (by rw [e, List.append_assoc]))) ?_
    walk_at "run"
    refine use_longer sm1 sm4 sm1 sm2 (longer_none (not_ext_len (by simp; omega)) (not_ext_len (by simp; omega))) ?_
    walk_at "run"
    refine use_longer sm1 sm2 sm1 sm4 (longer_none (not_ext_len (by simp; omega)) (not_ext_len (by simp; omega))) ?_
    walk_at "run"
    refine use_like rfl (by walk_at "okp") (by walk_at "okp") ?_
    walk_at "run"
    refine use_longer sm6 sm7 sm1 sm2 (longer_left (ext_more _ _ _)) ?_
    walk_at "run"
    refine use_undone ?_
    walk_at "run"
    refine use_undone ?_
    walk_at "run"
    refine use_like rfl ?_ ?_ ?_
    · try simp only [ef, pl]
      walk_at "okp"
    · try simp only [ef, pl]
      walk_at "okp"
    refine .of ?_
    simp only [sup_sup]
    exact q _ ok11 (by omega)
  · exact h.elim
end L3

set_option Elab.async false
set_option maxRecDepth 100000
set_option linter.all false
set_option maxHeartbeats 4000000
namespace L3
open PySem L2
local macro_rules | `(tactic| walk_at "rd") => `(tactic| try simp only [dSeq, dAsg, dOp, dUn, dVar, dC, dCons, dNil, dTup, dLst, dLstM, dTest, dChain, dAnd, dOr, dNot, dAndV, dOrV, dNotV, dIfE, dCB, dCall, dSl, dPart, dNoPart, dIf, dRet, dRetN, dNext, dDrop, dTg, setAll, slot, dset, dwipe, dAug,
  a0, a1, a2, a3, a4, a5, a6, dLc, iTupD, iRange1, iRange2, dYes, dLM, dgSub, DEnds.of, dstart,
  vAt_some, vAtL_lst, vIx_tup, vIx_lst, vIx_ro, vIx_ref, vSl_tup, vSl_lst, vSl_ro, vSl_ref, vSlL_lst, vLen_tup, vLen_lst, vLen_ro, vLen_ref, vLenL_lst, vLenL_dK, vAdd_int, vAdd_tup, vAdd_lst, vAdd_ref, vAddL_lst, vSub_int, vLt_int, vLe_int, vGt_int, vGe_int, vMod_int, vDiv_int, vPow_int, vShl_int, vMul_int, vMul_tup, vMul_lst,
  vEq_int, vEq_str, vEq_bl, vEq_tup, vEq_lst, vNe_int, vNe_str, vNe_bl, vNe_tup, isN_non, isN_bl, isN_int, isN_str, isN_tup, isN_lst, isN_ref, vIs_non, vIsNot_non, vNeg_int, vInt_int, vInt_bl, vBool_int, vBool_bl, vAbs_int, vMin2_int, vMax2_int, vTuple_tup, vTuple_lst, vTuple_ref, vTupleL_lst, vList_tup, vList_lst,
  vAllO_some, vAll_x, vAny_x, seqOf_lst, vIsi_x, vIadd_int, vAppL_lst, vAppend_ref, vSetN_some, vSetO_lst, vSet_ref, isSeq_ref, ex_lst, all1,
  isiT_int_int, isiT_int_bool, isiT_int_tuple, isiT_int_str, isiT_int_list, isiT_bl_int, isiT_bl_bool, isiT_bl_tuple, isiT_bl_str, isiT_bl_list, isiT_non_int, isiT_non_bool, isiT_non_tuple, isiT_non_str, isiT_non_list, isiT_str_int, isiT_str_bool, isiT_str_tuple, isiT_str_str, isiT_str_list, isiT_tup_int, isiT_tup_bool, isiT_tup_tuple, isiT_tup_str, isiT_tup_list, isiT_lst_int, isiT_lst_bool, isiT_lst_tuple, isiT_lst_str, isiT_lst_list,
  Option.map_some, Option.bind_some, List.map_cons, List.map_nil, List.length_cons, List.length_nil, List.cons_append, List.nil_append, List.replicate, List.set, List.append_nil, atI_0, atI_1, atI_2, atI_3, atI_4, atI_5, List.length_map, Nat.zero_add, Nat.reduceAdd, Nat.reduceSub, Nat.reduceLeDiff, true_and, and_true, Bool.false_eq_true, if_true, if_false, decide_eq_true_eq, reduceIte, ite_true, ite_false,
  Bool.not_true, Bool.not_false, List.length_append, cut_from, cut_to, sup_same, sup_sup, Option.some.injEq, exists_eq_left', exists_eq_left])
local macro_rules | `(tactic| walk_at "side") => `(tactic| first | assumption | omega | (simp only [List.length_append, List.length_cons, List.length_nil, List.length_take, List.length_drop, List.length_map, List.length_reverse, sizeLine_val]; omega) | decide)
local macro_rules | `(tactic| walk_at "st") => `(tactic| first
  | with_reducible refine st_ix0 ?_ | with_reducible refine st_ix1 ?_ | with_reducible refine st_ix2 ?_ | with_reducible refine st_ix3 ?_ | with_reducible refine st_ix4 ?_
  | with_reducible refine st_add_pp (by walk_at "side") ?_ | with_reducible refine st_add_p1 (by walk_at "side") ?_ | with_reducible refine st_add_1p (by walk_at "side") ?_
  | with_reducible refine st_add ?_ | with_reducible refine st_sub ?_ | with_reducible refine st_iadd ?_ | with_reducible refine st_neg ?_
  | with_reducible refine st_len_p ?_ | with_reducible refine st_len_lp ?_ | with_reducible refine st_len_rp ?_ | with_reducible refine st_len_t ?_ | with_reducible refine st_len_l ?_
  | with_reducible refine st_add_t (by walk_at "side") ?_ | with_reducible refine st_add_l (by walk_at "side") ?_ | with_reducible refine st_add_s (by walk_at "side") ?_
  | with_reducible refine st_iteT ?_ | with_reducible refine st_iteF ?_ | with_reducible refine st_not ?_
  | with_reducible refine st_lt ?_ | with_reducible refine st_le ?_ | with_reducible refine st_gt ?_ | with_reducible refine st_ge ?_ | with_reducible refine st_eqi ?_ | with_reducible refine st_nei ?_ | with_reducible refine st_eqs ?_ | with_reducible refine st_nes ?_ | with_reducible refine st_eqb ?_
  | with_reducible refine st_isn_non ?_ | with_reducible refine st_isn_int ?_ | with_reducible refine st_isn_tup ?_ | with_reducible refine st_isn_str ?_ | with_reducible refine st_isn_bl ?_
  | with_reducible refine st_isnt_non ?_ | with_reducible refine st_isnt_int ?_ | with_reducible refine st_isnt_tup ?_ | with_reducible refine st_isnt_str ?_
  | with_reducible refine st_int ?_ | with_reducible refine st_intb ?_ | with_reducible refine st_abs ?_ | with_reducible refine st_min2 ?_ | with_reducible refine st_max2 ?_
  | with_reducible refine st_tup_l ?_ | with_reducible refine st_tup_t ?_ | with_reducible refine st_lst_t ?_ | with_reducible refine st_lst_l ?_
  | with_reducible refine st_sl_from ?_ | with_reducible refine st_sl_to ?_
  | with_reducible refine st_lx0 ?_ | with_reducible refine st_lx1 ?_ | with_reducible refine st_lx2 ?_ | with_reducible refine st_lx3 ?_
  | with_reducible refine st_mod (by walk_at "side") ?_ | with_reducible refine st_div (by walk_at "side") ?_ | with_reducible refine st_mul (by walk_at "side") ?_ | with_reducible refine st_mul' (by walk_at "side") ?_
  | with_reducible refine st_isi rfl ?_
  | (with_reducible refine And.intro (Nat.le_of_ble_eq_true rfl) ?_)
  | with_reducible refine st_dT (by omega) ?_ | with_reducible refine st_dF (by omega) ?_)
local macro_rules | `(tactic| walk_at "hd") => `(tactic| (with_reducible conv => whnf))
local macro_rules | `(tactic| walk_at "run") => `(tactic| ((with_reducible conv => whnf); repeat (walk_at "st"; (with_reducible conv => whnf))))
local macro_rules | `(tactic| walk_at "okp") => `(tactic| (simp only [pln, plns, plns_ints, dueOk, dueOks, dueOks_ints, List.length_map, List.length_append, List.length_cons, List.length_nil, Bool.and_eq_true, decide_eq_true_eq, and_true, true_and, Nat.reduceAdd, Nat.zero_add, Nat.reduceLeDiff, Bool.and_true, Bool.true_and, decide_true] <;> omega))
/-! the bowl -/
def sp_law_bowl (script : D) (S : Sto) (Q : DK) : Prop := ∃ ns : List Int, script = .ro (ns.map .int) ∧ ns.length ≤ 63 ∧ ∀ b so, S b = none → Ok so → cnt so = 0 → Q (.ref b) (sup S b so)
-- _law_bowl : 0=script 1=figures 2=cell 3=left
def rd_law_bowl : DTS :=
    (dSeq (dAsg (dLstM dNil) (dTg (.nm 1)))
    (dSeq (dFor (iSeq (dSl vSl (dVar 0) (dPart (dUn vNeg (dC (.int 45)))) dNoPart)) (dTg (.nm 2)) (dSeq (dAsg (dOp vAdd (dOp vMod (dCB vAbs (dCons (dCB vInt (dCons (dVar 2) dNil)) dNil)) (dOp vShl (dC (.int 1)) (dC (.int 96)))) (dCB vInt (dCons (dOp vLt (dVar 2) (dC (.int 0))) dNil))) (dTg (.nm 3)))
    (dWhile (dAnd (dTest (dOp vGt (dVar 3) (dC (.int 0)))) (dTest (dOp vLt (dCB vLen (dCons (dVar 1) dNil)) (dC (.int 300))))) (dSeq (dDrop (dLM vAppend (dVar 1) (dCons (dOp vMod (dCB vInt (dCons (dVar 3) dNil)) (dC (.int 8191))) dNil)))
    (dAsg (dOp vDiv (dVar 3) (dC (.int 8191))) (dTg (.nm 3)))))))
    (dRet (dLstM (dCons (dC (.int 0)) (dCons (dOp vAdd (dC (.int 71)) (dOp vMod (dCB vLen (dCons (dVar 0) dNil)) (dC (.int 89)))) (dCons (dOp vAdd (dVar 1) (dLst (dCons (dC (.int 5)) (dCons (dC (.int 2)) dNil)))) dNil)))))))
theorem st_append {A : Addr} {d : D} {xs : List D} {S : Sto} {Q : DK} (hS : S A = some (.lst xs)) (h1 : xs.length < sizeLine) (h : Q .non (sup S A (.lst (xs ++ [d])))) : vAppend (.ref A) [d] S Q := by
  rw [vAppend_ref, hS]
  exact ⟨h1, h⟩
theorem st_len_ref {A : Addr} {xs : List D} {S : Sto} {Q : DK} (hS : S A = some (.lst xs)) (h : Q (.int (xs.length : Nat)) S) : vLen [.ref A] S Q := by
  rw [vLen_ref, hS]
  exact h
theorem st_add_ref {A : Addr} {xs ys : List D} {S : Sto} {Q : DK} (hS : S A = some (.lst xs)) (h1 : xs.length + ys.length ≤ sizeLine) (h : Q (.lst (xs ++ ys)) S) : vAdd (.ref A) (.lst ys) S Q := by
  rw [vAdd_ref, hS]
  exact ⟨h1, h⟩
theorem st_sl_r {xs : List D} {lo hi : Option Int} {S : Sto} {Q : DK} (h : Q (.lst (cut xs lo hi)) S) : vSl (.ro xs) lo hi S Q := h
theorem st_shl {i j : Int} {S : Sto} {Q : DK} (h1 : CPow i j) (h : Q (.int (i * 2 ^ j.toNat)) S) : vShl (.int i) (.int j) S Q := ⟨h1, h⟩
theorem rd_law_bowl_ok : ∀ ds S P, (a1 sp_law_bowl) ds S P → rd_law_bowl (DEnds.of P) (dstart ["script", "figures", "cell", "left"] ds) S := by
  intro ds S P h
  rcases ds with _ | ⟨x, _ | ⟨y, ds⟩⟩ <;> first | exact (h : False).elim | skip
  obtain ⟨ns, rfl, hl, q⟩ := (h : sp_law_bowl x S P)
  unfold rd_law_bowl
  walk_at "run"
  intro p hp
  walk_at "run"
  refine st_sl_r ?_
  walk_at "run"
  rw [cut_map]
  show forL _ _ _ _ _ _ _
  refine forL_inv (fun i δ S' => ∃ (figs : List Int) (c l : Option D), S' = sup S p (.lst (figs.map .int)) ∧ figs.length ≤ 300 ∧ (∀ x ∈ figs, 0 ≤ x ∧ x < 8191) ∧ δ = [some (.ro (ns.map .int)), some (.ref p), c, l]) (fun _ _ _ _ => True.intro) _ 0 _ _ ⟨[], none, none, rfl, by simp, (fun x hx => by cases hx), rfl⟩ ?_ ?_
  · rintro j d _ _ hj ⟨figs, c, l, rfl, hf, hx, rfl⟩ D2 hrt _ hnx _
    rw [List.getElem?_map] at hj
    cases e : (cut ns (some (-45)) none)[j]? with
    | none => rw [e] at hj; cases hj
    | some n =>
    rw [e] at hj
    cases hj
    walk_at "run"
    refine st_shl (by unfold CPow; decide) ?_
    walk_at "run"
    have l0 : 0 ≤ (if n < 0 then -n else n) % (1 * 2 ^ Int.toNat 96) + (if decide (n < 0) = true then 1 else 0) := Int.add_nonneg (Int.emod_nonneg _ (by decide)) (by split <;> decide)
    generalize (if n < 0 then -n else n) % (1 * 2 ^ Int.toNat 96) + (if decide (n < 0) = true then 1 else 0) = left at l0 ⊢
    refine ⟨(300 - figs.length) + 1, whileN_inv (fun m δ S' => ∃ (figs : List Int) (left : Int), m + figs.length = 300 ∧ 0 ≤ left ∧ S' = sup S p (.lst (figs.map .int)) ∧ (∀ x ∈ figs, 0 ≤ x ∧ x < 8191) ∧ δ = [some (.ro (ns.map .int)), some (.ref p), some (.int n), some (.int left)]) ?_ _ _ _ ?_⟩
    · rintro m _ _ ⟨figs, left, hm, l0, rfl, hx, rfl⟩ D3 hrt3 _ hnx3 _
      walk_at "run"
      by_cases c1 : 0 < left
      · walk_at "run"
        refine st_len_ref sup_same ?_
        walk_at "run"
        rw [List.length_map]
        by_cases c2 : (figs.length : Int) < 300
        · walk_at "run"
          rw [isSeq_ref]
          refine ⟨⟨_, sup_same⟩, ?_⟩
          walk_at "run"
          refine st_append sup_same ?_ ?_
          · rw [List.length_map, sizeLine_val]
            omega
          walk_at "run"
          obtain ⟨k, rfl⟩ : ∃ k, m = k + 1 := ⟨m - 1, by omega⟩
          refine hnx3 k _ _ rfl ⟨figs ++ [left % 8191], left / 8191, by simp; omega, Int.ediv_nonneg l0 (by decide), by rw [sup_sup, map_snoc], fun x h => ?_, rfl⟩
          rcases List.mem_append.mp h with h | h
          · exact hx x h
          · simp at h
            subst h
            exact ⟨Int.emod_nonneg _ (by decide), Int.emod_lt_of_pos _ (by decide)⟩
        · walk_at "run"
          exact hnx _ _ ⟨figs, _, _, rfl, by omega, hx, rfl⟩
      · walk_at "run"
        exact hnx _ _ ⟨figs, _, _, rfl, by omega, hx, rfl⟩
    · exact ⟨figs, left, by omega, l0, rfl, hx, rfl⟩
  · rintro _ _ ⟨figs, c, l, rfl, hf, hx, rfl⟩
    walk_at "run"
    refine st_add_ref sup_same (by simp only [List.length_map, List.length_cons, List.length_nil, sizeLine_val]; omega) ?_
    walk_at "run"
    refine fun b hb => ⟨.ref b, sup S b (.lst [.int 0, .int (71 + ns.length % 89), .lst ((figs ++ [5, 2]).map .int)]), fun a o h => ?_, .refl _, ?_⟩
    · by_cases e : a = b
      · subst e
        rw [sup_same] at h ⊢
        rw [← h]
        simp
      · rw [sup_ne e] at h ⊢
        by_cases e2 : a = p
        · subst e2
          rw [hp] at h
          cases h
        · rw [sup_ne e2]
          exact h
    · refine q b _ ?_ ⟨0, _, figs ++ [5, 2], rfl, by omega, by omega, by omega, by simp, fun x h => ?_⟩ rfl
      · by_cases e : b = p
        · subst e
          rw [sup_same] at hb
          cases hb
        · rw [sup_ne e] at hb
          exact hb
      · rcases List.mem_append.mp h with h | h
        · have := hx x h
          omega
        · simp at h
          omega
end L3

set_option Elab.async false
set_option maxRecDepth 100000
set_option linter.all false
set_option maxHeartbeats 4000000
namespace L3
open PySem L2
local macro_rules | `(tactic| walk_at "rd") => `(tactic| try simp only [dSeq, dAsg, dOp, dUn, dVar, dC, dCons, dNil, dTup, dLst, dLstM, dTest, dChain, dAnd, dOr, dNot, dAndV, dOrV, dNotV, dIfE, dCB, dCall, dSl, dPart, dNoPart, dIf, dRet, dRetN, dNext, dDrop, dTg, setAll, slot, dset, dwipe, dAug,
  a0, a1, a2, a3, a4, a5, a6, dLc, iTupD, iRange1, iRange2, dYes, dLM, dgSub, DEnds.of, dstart,
  vAt_some, vAtL_lst, vIx_tup, vIx_lst, vIx_ro, vIx_ref, vSl_tup, vSl_lst, vSl_ro, vSl_ref, vSlL_lst, vLen_tup, vLen_lst, vLen_ro, vLen_ref, vLenL_lst, vLenL_dK, vAdd_int, vAdd_tup, vAdd_lst, vAdd_ref, vAddL_lst, vSub_int, vLt_int, vLe_int, vGt_int, vGe_int, vMod_int, vDiv_int, vPow_int, vShl_int, vMul_int, vMul_tup, vMul_lst,
  vEq_int, vEq_str, vEq_bl, vEq_tup, vEq_lst, vNe_int, vNe_str, vNe_bl, vNe_tup, isN_non, isN_bl, isN_int, isN_str, isN_tup, isN_lst, isN_ref, vIs_non, vIsNot_non, vNeg_int, vInt_int, vInt_bl, vBool_int, vBool_bl, vAbs_int, vMin2_int, vMax2_int, vTuple_tup, vTuple_lst, vTuple_ref, vTupleL_lst, vList_tup, vList_lst,
  vAllO_some, vAll_x, vAny_x, seqOf_lst, vIsi_x, vIadd_int, vAppL_lst, vAppend_ref, vSetN_some, vSetO_lst, vSet_ref, isSeq_ref, ex_lst, all1,
  isiT_int_int, isiT_int_bool, isiT_int_tuple, isiT_int_str, isiT_int_list, isiT_bl_int, isiT_bl_bool, isiT_bl_tuple, isiT_bl_str, isiT_bl_list, isiT_non_int, isiT_non_bool, isiT_non_tuple, isiT_non_str, isiT_non_list, isiT_str_int, isiT_str_bool, isiT_str_tuple, isiT_str_str, isiT_str_list, isiT_tup_int, isiT_tup_bool, isiT_tup_tuple, isiT_tup_str, isiT_tup_list, isiT_lst_int, isiT_lst_bool, isiT_lst_tuple, isiT_lst_str, isiT_lst_list,
  Option.map_some, Option.bind_some, List.map_cons, List.map_nil, List.length_cons, List.length_nil, List.cons_append, List.nil_append, List.replicate, List.set, List.append_nil, atI_0, atI_1, atI_2, atI_3, atI_4, atI_5, List.length_map, Nat.zero_add, Nat.reduceAdd, Nat.reduceSub, Nat.reduceLeDiff, true_and, and_true, Bool.false_eq_true, if_true, if_false, decide_eq_true_eq, reduceIte, ite_true, ite_false,
  Bool.not_true, Bool.not_false, List.length_append, cut_from, cut_to, sup_same, sup_sup, Option.some.injEq, exists_eq_left', exists_eq_left])
local macro_rules | `(tactic| walk_at "side") => `(tactic| first | assumption | omega | (simp only [List.length_append, List.length_cons, List.length_nil, List.length_take, List.length_drop, List.length_map, List.length_reverse, sizeLine_val]; omega) | decide)
local macro_rules | `(tactic| walk_at "st") => `(tactic| first
  | with_reducible refine st_ix0 ?_ | with_reducible refine st_ix1 ?_ | with_reducible refine st_ix2 ?_ | with_reducible refine st_ix3 ?_ | with_reducible refine st_ix4 ?_
  | with_reducible refine st_add_pp (by walk_at "side") ?_ | with_reducible refine st_add_p1 (by walk_at "side") ?_ | with_reducible refine st_add_1p (by walk_at "side") ?_
  | with_reducible refine st_add ?_ | with_reducible refine st_sub ?_ | with_reducible refine st_iadd ?_ | with_reducible refine st_neg ?_
  | with_reducible refine st_len_p ?_ | with_reducible refine st_len_lp ?_ | with_reducible refine st_len_rp ?_ | with_reducible refine st_len_t ?_ | with_reducible refine st_len_l ?_
  | with_reducible refine st_add_t (by walk_at "side") ?_ | with_reducible refine st_add_l (by walk_at "side") ?_ | with_reducible refine st_add_s (by walk_at "side") ?_
  | with_reducible refine st_iteT ?_ | with_reducible refine st_iteF ?_ | with_reducible refine st_not ?_
  | with_reducible refine st_lt ?_ | with_reducible refine st_le ?_ | with_reducible refine st_gt ?_ | with_reducible refine st_ge ?_ | with_reducible refine st_eqi ?_ | with_reducible refine st_nei ?_ | with_reducible refine st_eqs ?_ | with_reducible refine st_nes ?_ | with_reducible refine st_eqb ?_
  | with_reducible refine st_isn_non ?_ | with_reducible refine st_isn_int ?_ | with_reducible refine st_isn_tup ?_ | with_reducible refine st_isn_str ?_ | with_reducible refine st_isn_bl ?_
  | with_reducible refine st_isnt_non ?_ | with_reducible refine st_isnt_int ?_ | with_reducible refine st_isnt_tup ?_ | with_reducible refine st_isnt_str ?_
  | with_reducible refine st_int ?_ | with_reducible refine st_intb ?_ | with_reducible refine st_abs ?_ | with_reducible refine st_min2 ?_ | with_reducible refine st_max2 ?_
  | with_reducible refine st_tup_l ?_ | with_reducible refine st_tup_t ?_ | with_reducible refine st_lst_t ?_ | with_reducible refine st_lst_l ?_
  | with_reducible refine st_sl_from ?_ | with_reducible refine st_sl_to ?_
  | with_reducible refine st_lx0 ?_ | with_reducible refine st_lx1 ?_ | with_reducible refine st_lx2 ?_ | with_reducible refine st_lx3 ?_
  | with_reducible refine st_mod (by walk_at "side") ?_ | with_reducible refine st_div (by walk_at "side") ?_ | with_reducible refine st_mul (by walk_at "side") ?_ | with_reducible refine st_mul' (by walk_at "side") ?_
  | with_reducible refine st_isi rfl ?_
  | (with_reducible refine And.intro (Nat.le_of_ble_eq_true rfl) ?_)
  | with_reducible refine st_dT (by omega) ?_ | with_reducible refine st_dF (by omega) ?_)
local macro_rules | `(tactic| walk_at "hd") => `(tactic| (with_reducible conv => whnf))
local macro_rules | `(tactic| walk_at "run") => `(tactic| ((with_reducible conv => whnf); repeat (walk_at "st"; (with_reducible conv => whnf))))
local macro_rules | `(tactic| walk_at "okp") => `(tactic| (simp only [pln, plns, plns_ints, dueOk, dueOks, dueOks_ints, List.length_map, List.length_append, List.length_cons, List.length_nil, Bool.and_eq_true, decide_eq_true_eq, and_true, true_and, Nat.reduceAdd, Nat.zero_add, Nat.reduceLeDiff, Bool.and_true, Bool.true_and, decide_true] <;> omega))
/-! the ends -/
theorem cpl_self : ∀ p : List Int, cpl p p = p.length
  | [] => rfl
  | a :: p => by simp [cpl, cpl_self p]
theorem cpl_app : ∀ (e p q : List Int), cpl (e ++ p) (e ++ q) = e.length + cpl p q
  | [], p, q => by simp
  | a :: e, p, q => by simp [cpl, cpl_app e p q]; omega
theorem cpl_nil (p : List Int) : cpl [] p = 0 := by simp [cpl]
theorem cpl_nil' (p : List Int) : cpl p [] = 0 := by cases p <;> simp [cpl]
theorem cend_app (p q e : List Int) : cend (p ++ e) (q ++ e) = cend p q ++ e := by
  unfold cend
  rw [List.reverse_append, List.reverse_append, cpl_app, List.length_reverse, List.length_append]
  have := (cpl_le p.reverse q.reverse).1
  rw [List.length_reverse] at this
  rw [show p.length + e.length - (e.length + cpl p.reverse q.reverse) = p.length - cpl p.reverse q.reverse by omega, List.drop_append_of_le_length (by omega)]
theorem cend_nil (q : List Int) : cend [] q = [] := by simp [cend]
theorem cend_nil' (q : List Int) : cend q [] = [] := by simp [cend, cpl_nil']
theorem cend_snoc {p q : List Int} {x y : Int} (h : x ≠ y) : cend (p ++ [x]) (q ++ [y]) = [] := by
  unfold cend
  simp [cpl, h]
def sp_law_ends (bowl long high : D) (S : Sto) (Q : DK) : Prop := match bowl, long, high with
  | .ref b, .int l, .int h => ∃ so, S b = some so ∧ Ok so ∧ cnt so ≤ 200000 ∧ 6 ≤ l ∧ l ≤ 99 ∧ 2 ≤ h ∧ ∀ so', Ok so' → cnt so' ≤ cnt so + 20000 → Q (.bl true) (sup S b so')
  | _, _, _ => False
-- _law_ends : 0=bowl 1=long 2=high 3=end 4=first 5=second 6=told
def rd_law_ends : DTS :=
    (dSeq (dAsg (dCall (a3 sp_law_made) (dCons (dVar 0) (dCons (dOp vSub (dOp vSub (dVar 1) (dC (.int 1))) (dCall (a2 sp_law_spin) (dCons (dVar 0) (dCons (dC (.int 6)) dNil)))) (dCons (dVar 2) dNil)))) (dTg (.nm 3)))
    (dSeq (dAsg (dCall (a3 sp_law_made) (dCons (dVar 0) (dCons (dOp vAdd (dC (.int 1)) (dCall (a2 sp_law_spin) (dCons (dVar 0) (dCons (dC (.int 4)) dNil)))) (dCons (dVar 2) dNil)))) (dTg (.nm 4)))
    (dSeq (dAsg (dOp vAdd (dCall (a3 sp_law_made) (dCons (dVar 0) (dCons (dCall (a2 sp_law_spin) (dCons (dVar 0) (dCons (dC (.int 4)) dNil))) (dCons (dVar 2) dNil)))) (dCall (a4 sp_law_turned) (dCons (dVar 0) (dCons (dSl vSl (dVar 4) (dPart (dUn vNeg (dC (.int 1)))) dNoPart) (dCons (dC (.int 0)) (dCons (dVar 2) dNil)))))) (dTg (.nm 5)))
    (dSeq (dAsg (dTup (dCons (dCall (a2 sp_common_end) (dCons (dOp vAdd (dVar 4) (dVar 3)) (dCons (dOp vAdd (dVar 5) (dVar 3)) dNil))) (dCons (dCall (a2 sp_common_end) (dCons (dVar 3) (dCons (dOp vAdd (dVar 5) (dVar 3)) dNil))) (dCons (dCall (a2 sp_common_end) (dCons (dOp vAdd (dVar 4) (dVar 3)) (dCons (dVar 3) dNil))) (dCons (dCall (a2 sp_common_end) (dCons (dVar 3) (dCons (dVar 3) dNil))) dNil))))) (dTg (.nm 6)))
    (dSeq (dIf (dNot (dTest (dCall (a2 sp_law_like) (dCons (dVar 6) (dCons (dTup (dCons (dVar 3) (dCons (dVar 3) (dCons (dVar 3) (dCons (dVar 3) dNil))))) dNil))))) (dRet (dC (.bl false))) dNext)
    (dRet (dCall (a2 sp_law_like) (dCons (dTup (dCons (dCall (a2 sp_common_end) (dCons (dVar 4) (dCons (dVar 5) dNil))) (dCons (dCall (a2 sp_common_end) (dCons (dTup dNil) (dCons (dVar 4) dNil))) (dCons (dCall (a2 sp_common_end) (dCons (dOp vAdd (dOp vAdd (dVar 4) (dVar 3)) (dVar 4)) (dCons (dOp vAdd (dVar 3) (dVar 4)) dNil))) dNil)))) (dCons (dTup (dCons (dTup dNil) (dCons (dTup dNil) (dCons (dOp vAdd (dVar 3) (dVar 4)) dNil)))) dNil)))))))))
theorem use_cend {p q : List Int} {d : List Int} {S : Sto} {Q : DK} (e : cend p q = d) (k : Q (pl d) S) : sp_common_end (.tup (p.map .int)) (.tup (q.map .int)) S Q := by
  simp only [sp_common_end, asP, asInts_map]
  rw [e]
  exact k
theorem use_cend0 {q : List Int} {S : Sto} {Q : DK} (k : Q (pl []) S) : sp_common_end (.tup []) (.tup (q.map .int)) S Q := by
  simp only [sp_common_end, asP, asInts_map, asInts_nil]
  rw [cend_nil]
  exact k
theorem st_sl_last {p : List Int} {x : Int} {S : Sto} {Q : DK} (h : Q (.tup ([x].map .int)) S) : vSl (.tup ((p ++ [x]).map .int)) (some (-1)) none S Q := by
  rw [vSl_tup, cut_map]
  have : cut (p ++ [x]) (some (-1)) none = [x] := by
    unfold cut
    rw [HT.sIx_none]
    have e : HT.sIx (p ++ [x]).length 0 (some (-1)) = p.length := by
      show (if (-1 : Int) < 0 then ((-1 : Int) + ((p ++ [x]).length : Int)).toNat else min (-1 : Int).toNat (p ++ [x]).length) = p.length
      rw [if_pos (by decide), List.length_append]
      simp only [List.length_cons, List.length_nil]
      omega
    rw [e]
    simp
  rw [this]
  exact h
theorem rd_law_ends_ok : ∀ ds S P, (a3 sp_law_ends) ds S P → rd_law_ends (DEnds.of P) (dstart ["bowl", "long", "high", "end", "first", "second", "told"] ds) S := by
  intro ds S P h
  rcases ds with _ | ⟨x, _ | ⟨y, _ | ⟨z, _ | ⟨w, ds⟩⟩⟩⟩ <;> first | exact (h : False).elim | skip
  simp only [a3, sp_law_ends] at h
  split at h
  · rename_i b l h'
    obtain ⟨so, hS, ok, hc, l0, l1, hh, q⟩ := h
    unfold rd_law_ends
    rw [← sup_self hS]
    walk_at "run"
    refine use_spin sup_same ok (by omega) (by omega) fun so1 n1 ok1 c1 n10 n11 => ?_
    walk_at "run"
    refine use_made sup_same ok1 (by omega) (by omega) (by omega) (by omega) fun so2 e ok2 c2 el eb => ?_
    walk_at "run"
    refine use_spin sup_same ok2 (by omega) (by omega) fun so3 n2 ok3 c3 n20 n21 => ?_
    walk_at "run"
    refine use_made sup_same ok3 (by omega) (by omega) (by omega) (by omega) fun so4 f ok4 c4 fl fb => ?_
    have fne : f ≠ [] := fun z => by rw [z] at fl; simp at fl; omega
    obtain ⟨f', v, rfl⟩ : ∃ f' v, f = f' ++ [v] := ⟨_, _, (List.dropLast_concat_getLast fne).symm⟩
    have vb := fb v (by simp)
    walk_at "run"
    refine use_spin sup_same ok4 (by omega) (by omega) fun so5 n3 ok5 c5 n30 n31 => ?_
    walk_at "run"
    refine use_made sup_same ok5 (by omega) (by omega) (by omega) (by omega) fun so6 s ok6 c6 sl sb => ?_
    walk_at "run"
    refine st_sl_last ?_
    walk_at "run"
    refine use_turned sup_same ok6 (by omega) (by omega) (by simp) (by simp) hh (fun x hx => by simp at hx; subst hx; exact vb) fun so7 y ok7 c7 y0 y1 yne => ?_
    have yne' : v ≠ y := by
      intro z
      subst z
      exact yne rfl
    have hl1 : e.length ≤ 99 := by omega
    have hl2 : (f' ++ [v]).length ≤ 99 := by omega
    have hl3 : s.length ≤ 99 := by omega
    show (vAdd (.tup (s.map .int)) (.tup (([y] : List Int).map .int)) _ _)
    refine st_add_pp (by walk_at "side") ?_
    have hc0 : cend (f' ++ [v]) (s ++ [y]) = [] := cend_snoc yne'
    generalize f' ++ [v] = f at fl fb hl2 hc0 ⊢
    have hl4 : (s ++ [y]).length ≤ 100 := by simp; omega
    generalize s ++ [y] = g at hl4 hc0 ⊢
    walk_at "run"
    refine use_cend (d := e) (by rw [cend_app, hc0]; rfl) ?_
    walk_at "run"
    refine use_cend (d := e) (by have := cend_app [] g e; rw [cend_nil] at this; simpa using this) ?_
    walk_at "run"
    refine use_cend (d := e) (by have := cend_app f [] e; rw [cend_nil'] at this; simpa using this) ?_
    walk_at "run"
    refine use_cend (d := e) (by have := cend_app [] [] e; rw [cend_nil] at this; simpa using this) ?_
    walk_at "run"
    refine use_like rfl ?_ ?_ ?_
    · try simp only [ef, pl]
      walk_at "okp"
    · try simp only [ef, pl]
      walk_at "okp"
    walk_at "run"
    refine use_cend hc0 ?_
    walk_at "run"
    refine use_cend0 ?_
    walk_at "run"
    refine use_cend (d := e ++ f) (by have := cend_app f [] (e ++ f); rw [cend_nil'] at this; simpa using this) ?_
    walk_at "run"
    refine use_like rfl ?_ ?_ ?_
    · try simp only [ef, pl]
      walk_at "okp"
    · try simp only [ef, pl]
      walk_at "okp"
    refine .of ?_
    simp only [sup_sup]
    exact q _ ok7 (by omega)
  · exact h.elim
/-! odd things -/
theorem isPile_ok {h : Int} {p : List Int} (hb : InB h p) : isPile h (.tup (p.map .int)) = true := by
  simp only [isPile, List.all_map, List.all_eq_true]
  intro x hx
  have := hb x hx
  simp only [Function.comp, within, Bool.and_eq_true, decide_eq_true_eq]
  omega
theorem isPile_bad {h : Int} {p q : List D} {t : D} (ht : within 0 (h - 1) t = false) : isPile h (.tup (p ++ [t] ++ q)) = false := by
  simp [isPile, ht]
theorem pv1_ints (p : List Int) : (p.map D.int).all pv1 = true := by simp [pv1]
theorem st_pick {R : D → Prop} {xs : List D} {n : Int} {S : Sto} {Q : DK} (h0 : 0 ≤ n) (h1 : n < xs.length) (hp : ∀ x ∈ xs, R x) (h : ∀ x, R x → Q x S) : vIx (.tup xs) (.int n) S Q := by
  rw [vIx_tup, atI_int h0, List.getElem?_eq_getElem (by omega)]
  exact h _ (hp _ (List.getElem_mem _))
theorem st_pow {i j : Int} {S : Sto} {Q : DK} (h1 : CPow i j) (h : Q (.int (i ^ j.toNat)) S) : vPow (.int i) (.int j) S Q := ⟨h1, h⟩
def sp_law_odd (bowl pile high : D) (S : Sto) (Q : DK) : Prop := match bowl, asP pile, high with
  | .ref b, some p, .int h => ∃ so, S b = some so ∧ Ok so ∧ cnt so ≤ 400000 ∧ p.length ≤ 100 ∧ 2 ≤ h ∧ h ≤ 1000 ∧ ∀ so' ds, Ok so' → cnt so' ≤ cnt so + 3 → ds.all pv1 = true → ds.length ≤ 300 → isPile h (.tup ds) = false → Q (.tup ds) (sup S b so')
  | _, _, _ => False
-- _law_odd : 0=bowl 1=pile 2=high 3=at 4=thing
def rd_law_odd : DTS :=
    (dSeq (dAsg (dCall (a2 sp_law_spin) (dCons (dVar 0) (dCons (dOp vAdd (dCB vLen (dCons (dVar 1) dNil)) (dC (.int 1))) dNil))) (dTg (.nm 3)))
    (dSeq (dAsg (dOp vIx (dTup (dCons (dVar 2) (dCons (dUn vNeg (dC (.int 1))) (dCons (dC (.bl true)) (dCons (dC (.bl false)) (dCons (dC (.str "0")) (dCons (dC .non) (dCons (dTup dNil) (dCons (dTup (dCons (dC (.int 0)) dNil)) (dCons (dLst (dCons (dC (.int 0)) dNil)) (dCons (dOp vPow (dC (.int 10)) (dC (.int 40))) (dCons (dUn vNeg (dOp vPow (dC (.int 10)) (dC (.int 59)))) (dCons (dC (.str "")) dNil))))))))))))) (dCall (a2 sp_law_spin) (dCons (dVar 0) (dCons (dC (.int 12)) dNil)))) (dTg (.nm 4)))
    (dSeq (dIf (dAnd (dTest (dOp vLt (dVar 3) (dCB vLen (dCons (dVar 1) dNil)))) (dTest (dOp vEq (dCall (a2 sp_law_spin) (dCons (dVar 0) (dCons (dC (.int 2)) dNil))) (dC (.int 0))))) (dRet (dOp vAdd (dOp vAdd (dSl vSl (dVar 1) dNoPart (dPart (dVar 3))) (dTup (dCons (dVar 4) dNil))) (dSl vSl (dVar 1) (dPart (dOp vAdd (dVar 3) (dC (.int 1)))) dNoPart))) dNext)
    (dRet (dOp vAdd (dOp vAdd (dSl vSl (dVar 1) dNoPart (dPart (dVar 3))) (dTup (dCons (dVar 4) dNil))) (dSl vSl (dVar 1) (dPart (dVar 3)) dNoPart))))))
theorem st_sl_fromZ {p : List Int} {k : Int} {S : Sto} {Q : DK} (h0 : 0 ≤ k) (h : Q (.tup ((p.drop k.toNat).map .int)) S) : vSl (.tup (p.map .int)) (some k) none S Q := by
  obtain ⟨n, rfl⟩ := Int.eq_ofNat_of_zero_le h0
  exact st_sl_from h
theorem st_sl_toZ {p : List Int} {k : Int} {S : Sto} {Q : DK} (h0 : 0 ≤ k) (h : Q (.tup ((p.take k.toNat).map .int)) S) : vSl (.tup (p.map .int)) none (some k) S Q := by
  obtain ⟨n, rfl⟩ := Int.eq_ofNat_of_zero_le h0
  exact st_sl_to h
theorem rd_law_odd_ok : ∀ ds S P, (a3 sp_law_odd) ds S P → rd_law_odd (DEnds.of P) (dstart ["bowl", "pile", "high", "at", "thing"] ds) S := by
  intro ds S P h
  rcases ds with _ | ⟨x, _ | ⟨y, _ | ⟨z, _ | ⟨w, ds⟩⟩⟩⟩ <;> first | exact (h : False).elim | skip
  simp only [a3, sp_law_odd] at h
  split at h
  · rename_i b p h' e
    obtain ⟨so, hS, ok, hc, hp, hh, hh2, q⟩ := h
    rw [asP_eq e]
    unfold rd_law_odd
    rw [← sup_self hS]
    walk_at "run"
    refine use_spin sup_same ok (by omega) (by omega) fun so1 n1 ok1 c1 n10 n11 => ?_
    walk_at "run"
    refine st_pow (by unfold CPow; decide) ?_
    walk_at "run"
    refine st_pow (by unfold CPow; decide) ?_
    walk_at "run"
    refine use_spin sup_same ok1 (by omega) (by omega) fun so2 n2 ok2 c2 n20 n21 => ?_
    walk_at "run"
    refine st_pick (R := fun x => pv1 x = true ∧ within 0 (h' - 1) x = false) n20 n21 ?_ fun t ⟨t1, t2⟩ => ?_
    · simp only [List.forall_mem_cons, pv1, within, true_and]
      simp
      omega
    walk_at "run"
    have fin : ∀ (so' : SO) (k m : Nat), Ok so' → cnt so' ≤ cnt so + 3 → P (.tup ((p.take k).map .int ++ [t] ++ (p.drop m).map .int)) (sup S b so') := fun so' k m ok' c' => by
      refine q so' _ ok' c' ?_ ?_ (isPile_bad t2)
      · rw [List.all_append, List.all_append, pv1_ints, pv1_ints]
        simp [t1]
      · simp only [List.length_append, List.length_map, List.length_take, List.length_drop, List.length_cons, List.length_nil]
        omega
    have z : ∀ k : Nat, (p.take k).length ≤ 100 ∧ (p.drop k).length ≤ 100 := fun k => by
      simp only [List.length_take, List.length_drop]
      omega
    by_cases c1 : n1 < p.length
    · walk_at "run"
      refine use_spin sup_same ok2 (by omega) (by omega) fun so3 n3 ok3 c3 n30 n31 => ?_
      walk_at "run"
      by_cases c2 : n3 = 0
      · walk_at "run"
        refine st_sl_toZ n10 ?_
        walk_at "run"
        refine st_sl_fromZ (by omega) ?_
        walk_at "run"
        refine .of ?_
        simp only [sup_sup]
        exact fin _ _ _ ok3 (by omega)
      · walk_at "run"
        refine st_sl_toZ n10 ?_
        walk_at "run"
        refine st_sl_fromZ (by omega) ?_
        walk_at "run"
        refine .of ?_
        simp only [sup_sup]
        exact fin _ _ _ ok3 (by omega)
    · walk_at "run"
      refine st_sl_toZ n10 ?_
      walk_at "run"
      refine st_sl_fromZ (by omega) ?_
      walk_at "run"
      refine .of ?_
      simp only [sup_sup]
      exact fin _ _ _ ok2 (by omega)
  · exact h.elim
end L3

set_option Elab.async false
set_option maxRecDepth 100000
set_option linter.all false
set_option maxHeartbeats 4000000
namespace L3
open PySem L2
local macro_rules | `(tactic| walk_at "rd") => `(tactic| try simp only [dSeq, dAsg, dOp, dUn, dVar, dC, dCons, dNil, dTup, dLst, dLstM, dTest, dChain, dAnd, dOr, dNot, dAndV, dOrV, dNotV, dIfE, dCB, dCall, dSl, dPart, dNoPart, dIf, dRet, dRetN, dNext, dDrop, dTg, setAll, slot, dset, dwipe, dAug,
  a0, a1, a2, a3, a4, a5, a6, dLc, iTupD, iRange1, iRange2, dYes, dLM, dgSub, DEnds.of, dstart,
  vAt_some, vAtL_lst, vIx_tup, vIx_lst, vIx_ro, vIx_ref, vSl_tup, vSl_lst, vSl_ro, vSl_ref, vSlL_lst, vLen_tup, vLen_lst, vLen_ro, vLen_ref, vLenL_lst, vLenL_dK, vAdd_int, vAdd_tup, vAdd_lst, vAdd_ref, vAddL_lst, vSub_int, vLt_int, vLe_int, vGt_int, vGe_int, vMod_int, vDiv_int, vPow_int, vShl_int, vMul_int, vMul_tup, vMul_lst,
  vEq_int, vEq_str, vEq_bl, vEq_tup, vEq_lst, vNe_int, vNe_str, vNe_bl, vNe_tup, isN_non, isN_bl, isN_int, isN_str, isN_tup, isN_lst, isN_ref, vIs_non, vIsNot_non, vNeg_int, vInt_int, vInt_bl, vBool_int, vBool_bl, vAbs_int, vMin2_int, vMax2_int, vTuple_tup, vTuple_lst, vTuple_ref, vTupleL_lst, vList_tup, vList_lst,
  vAllO_some, vAll_x, vAny_x, seqOf_lst, vIsi_x, vIadd_int, vAppL_lst, vAppend_ref, vSetN_some, vSetO_lst, vSet_ref, isSeq_ref, ex_lst, all1,
  isiT_int_int, isiT_int_bool, isiT_int_tuple, isiT_int_str, isiT_int_list, isiT_bl_int, isiT_bl_bool, isiT_bl_tuple, isiT_bl_str, isiT_bl_list, isiT_non_int, isiT_non_bool, isiT_non_tuple, isiT_non_str, isiT_non_list, isiT_str_int, isiT_str_bool, isiT_str_tuple, isiT_str_str, isiT_str_list, isiT_tup_int, isiT_tup_bool, isiT_tup_tuple, isiT_tup_str, isiT_tup_list, isiT_lst_int, isiT_lst_bool, isiT_lst_tuple, isiT_lst_str, isiT_lst_list,
  Option.map_some, Option.bind_some, List.map_cons, List.map_nil, List.length_cons, List.length_nil, List.cons_append, List.nil_append, List.replicate, List.set, List.append_nil, atI_0, atI_1, atI_2, atI_3, atI_4, atI_5, List.length_map, Nat.zero_add, Nat.reduceAdd, Nat.reduceSub, Nat.reduceLeDiff, true_and, and_true, Bool.false_eq_true, if_true, if_false, decide_eq_true_eq, reduceIte, ite_true, ite_false,
  Bool.not_true, Bool.not_false, List.length_append, cut_from, cut_to, sup_same, sup_sup, Option.some.injEq, exists_eq_left', exists_eq_left])
local macro_rules | `(tactic| walk_at "side") => `(tactic| first | assumption | omega | (simp only [List.length_append, List.length_cons, List.length_nil, List.length_take, List.length_drop, List.length_map, List.length_reverse, sizeLine_val]; omega) | decide)
local macro_rules | `(tactic| walk_at "st") => `(tactic| first
  | with_reducible refine st_ix0 ?_ | with_reducible refine st_ix1 ?_ | with_reducible refine st_ix2 ?_ | with_reducible refine st_ix3 ?_ | with_reducible refine st_ix4 ?_
  | with_reducible refine st_add_pp (by walk_at "side") ?_ | with_reducible refine st_add_p1 (by walk_at "side") ?_ | with_reducible refine st_add_1p (by walk_at "side") ?_
  | with_reducible refine st_add ?_ | with_reducible refine st_sub ?_ | with_reducible refine st_iadd ?_ | with_reducible refine st_neg ?_
  | with_reducible refine st_len_p ?_ | with_reducible refine st_len_lp ?_ | with_reducible refine st_len_rp ?_ | with_reducible refine st_len_t ?_ | with_reducible refine st_len_l ?_
  | with_reducible refine st_add_t (by walk_at "side") ?_ | with_reducible refine st_add_l (by walk_at "side") ?_ | with_reducible refine st_add_s (by walk_at "side") ?_
  | with_reducible refine st_iteT ?_ | with_reducible refine st_iteF ?_ | with_reducible refine st_not ?_
  | with_reducible refine st_lt ?_ | with_reducible refine st_le ?_ | with_reducible refine st_gt ?_ | with_reducible refine st_ge ?_ | with_reducible refine st_eqi ?_ | with_reducible refine st_nei ?_ | with_reducible refine st_eqs ?_ | with_reducible refine st_nes ?_ | with_reducible refine st_eqb ?_
  | with_reducible refine st_isn_non ?_ | with_reducible refine st_isn_int ?_ | with_reducible refine st_isn_tup ?_ | with_reducible refine st_isn_str ?_ | with_reducible refine st_isn_bl ?_
  | with_reducible refine st_isnt_non ?_ | with_reducible refine st_isnt_int ?_ | with_reducible refine st_isnt_tup ?_ | with_reducible refine st_isnt_str ?_
  | with_reducible refine st_int ?_ | with_reducible refine st_intb ?_ | with_reducible refine st_abs ?_ | with_reducible refine st_min2 ?_ | with_reducible refine st_max2 ?_
  | with_reducible refine st_tup_l ?_ | with_reducible refine st_tup_t ?_ | with_reducible refine st_lst_t ?_ | with_reducible refine st_lst_l ?_
  | with_reducible refine st_sl_from ?_ | with_reducible refine st_sl_to ?_
  | with_reducible refine st_lx0 ?_ | with_reducible refine st_lx1 ?_ | with_reducible refine st_lx2 ?_ | with_reducible refine st_lx3 ?_
  | with_reducible refine st_mod (by walk_at "side") ?_ | with_reducible refine st_div (by walk_at "side") ?_ | with_reducible refine st_mul (by walk_at "side") ?_ | with_reducible refine st_mul' (by walk_at "side") ?_
  | with_reducible refine st_isi rfl ?_
  | (with_reducible refine And.intro (Nat.le_of_ble_eq_true rfl) ?_)
  | with_reducible refine st_dT (by omega) ?_ | with_reducible refine st_dF (by omega) ?_)
local macro_rules | `(tactic| walk_at "hd") => `(tactic| (with_reducible conv => whnf))
local macro_rules | `(tactic| walk_at "run") => `(tactic| ((with_reducible conv => whnf); repeat (walk_at "st"; (with_reducible conv => whnf))))
local macro_rules | `(tactic| walk_at "okp") => `(tactic| (simp only [pln, plns, plns_ints, dueOk, dueOks, dueOks_ints, List.length_map, List.length_append, List.length_cons, List.length_nil, Bool.and_eq_true, decide_eq_true_eq, and_true, true_and, Nat.reduceAdd, Nat.zero_add, Nat.reduceLeDiff, Bool.and_true, Bool.true_and, decide_true] <;> omega))
/-! the judged -/
def sp_law_judged (bowl long high : D) (S : Sto) (Q : DK) : Prop := match bowl, long, high with
  | .ref b, .int l, .int h => ∃ so, S b = some so ∧ Ok so ∧ cnt so ≤ 300000 ∧ 1 ≤ l ∧ l ≤ 99 ∧ 2 ≤ h ∧ h ≤ 24 ∧ ∀ so', Ok so' → Q (.bl true) (sup S b so')
  | _, _, _ => False
-- _law_judged : 0=bowl 1=long 2=high 3=off 4=on 5=right 6=pile 7=turn 8=odd 9=wrong 10=wide 11=thing
def rd_law_judged : DTS :=
    (dSeq (dAsg (dCall (a3 sp_law_made) (dCons (dVar 0) (dCons (dCall (a2 sp_law_spin) (dCons (dVar 0) (dCons (dVar 1) dNil))) (dCons (dVar 2) dNil)))) (dTg (.nm 3)))
    (dSeq (dAsg (dCall (a3 sp_law_made) (dCons (dVar 0) (dCons (dCall (a2 sp_law_spin) (dCons (dVar 0) (dCons (dVar 1) dNil))) (dCons (dVar 2) dNil)))) (dTg (.nm 4)))
    (dSeq (dAsg (dTup (dCons (dVar 3) (dCons (dVar 4) (dCons (dOp vAdd (dVar 3) (dTup (dCons (dOp vSub (dVar 2) (dC (.int 1))) dNil))) (dCons (dTup dNil) dNil))))) (dTg (.nm 5)))
    (dSeq (dIf (dNot (dTest (dCall (a2 sp_law_like) (dCons (dCB vTuple (dCons (dLc (iTupD (dVar 5)) (dTg (.nm 6)) dYes (dCall (a2 sp_is_pile) (dCons (dVar 2) (dCons (dVar 6) dNil))) [6]) dNil)) (dCons (dTup (dCons (dC (.bl true)) (dCons (dC (.bl true)) (dCons (dC (.bl true)) (dCons (dC (.bl true)) dNil))))) dNil))))) (dRet (dC (.bl false))) dNext)
    (dSeq (dIf (dNot (dTest (dCall (a2 sp_law_like) (dCons (dTup (dCons (dCall (a2 sp_is_effect) (dCons (dVar 2) (dCons (dTup (dCons (dVar 3) (dCons (dVar 4) dNil))) dNil))) (dCons (dCall (a2 sp_is_effect) (dCons (dVar 2) (dCons (dTup (dCons (dTup dNil) (dCons (dOp vAdd (dVar 3) (dTup (dCons (dOp vSub (dVar 2) (dC (.int 1))) dNil))) dNil))) dNil))) (dCons (dCall (a2 sp_is_effect) (dCons (dC (.int 24)) (dCons (dTup (dCons (dTup dNil) (dCons (dTup dNil) dNil))) dNil))) dNil)))) (dCons (dTup (dCons (dC (.bl true)) (dCons (dC (.bl true)) (dCons (dC (.bl true)) dNil)))) dNil))))) (dRet (dC (.bl false))) dNext)
    (dSeq (dFor (iRange1 (dC (.int 4))) (dTg (.nm 7)) (dSeq (dAsg (dCall (a3 sp_law_odd) (dCons (dVar 0) (dCons (dVar 3) (dCons (dVar 2) dNil)))) (dTg (.nm 8)))
    (dIf (dNot (dTest (dCall (a2 sp_law_like) (dCons (dTup (dCons (dCall (a2 sp_is_pile) (dCons (dVar 2) (dCons (dVar 8) dNil))) (dCons (dCall (a2 sp_is_effect) (dCons (dVar 2) (dCons (dTup (dCons (dVar 8) (dCons (dVar 4) dNil))) dNil))) (dCons (dCall (a2 sp_is_effect) (dCons (dVar 2) (dCons (dTup (dCons (dVar 4) (dCons (dVar 8) dNil))) dNil))) (dCons (dCall (a2 sp_is_effect) (dCons (dVar 2) (dCons (dTup (dCons (dVar 8) (dCons (dVar 8) dNil))) dNil))) dNil))))) (dCons (dTup (dCons (dC (.bl false)) (dCons (dC (.bl false)) (dCons (dC (.bl false)) (dCons (dC (.bl false)) dNil))))) dNil))))) (dRet (dC (.bl false))) dNext)))
    (dSeq (dAsg (dOp vIx (dTup (dCons (dTup (dCons (dVar 3) (dCons (dVar 4) dNil))) (dCons (dCB vList (dCons (dVar 3) dNil)) (dCons (dC .non) (dCons (dC (.str "")) (dCons (dC (.str "01")) (dCons (dC (.int 0)) (dCons (dC (.bl true)) (dCons (dC (.int 7)) (dCons (dLst dNil) (dCons (dTup (dCons (dVar 3) dNil)) (dCons (dLst (dCons (dTup dNil) dNil)) dNil)))))))))))) (dCall (a2 sp_law_spin) (dCons (dVar 0) (dCons (dC (.int 11)) dNil)))) (dTg (.nm 9)))
    (dSeq (dIf (dNot (dTest (dCall (a2 sp_law_like) (dCons (dTup (dCons (dCall (a2 sp_is_pile) (dCons (dVar 2) (dCons (dVar 9) dNil))) (dCons (dCall (a2 sp_is_effect) (dCons (dVar 2) (dCons (dTup (dCons (dVar 3) (dCons (dVar 9) dNil))) dNil))) (dCons (dCall (a2 sp_is_effect) (dCons (dVar 2) (dCons (dTup (dCons (dVar 9) (dCons (dVar 4) dNil))) dNil))) dNil)))) (dCons (dTup (dCons (dC (.bl false)) (dCons (dC (.bl false)) (dCons (dC (.bl false)) dNil)))) dNil))))) (dRet (dC (.bl false))) dNext)
    (dSeq (dAsg (dTup (dCons (dTup (dCons (dVar 3) (dCons (dVar 4) (dCons (dTup dNil) dNil)))) (dCons (dTup (dCons (dVar 3) dNil)) (dCons (dTup dNil) (dCons (dLst (dCons (dVar 3) (dCons (dVar 4) dNil))) (dCons (dOp vAdd (dOp vAdd (dVar 3) (dVar 4)) (dTup (dCons (dC (.int 0)) dNil))) (dCons (dC .non) (dCons (dC (.str "")) (dCons (dTup (dCons (dTup (dCons (dVar 3) (dCons (dVar 4) dNil))) dNil)) (dCons (dTup (dCons (dCB vList (dCons (dVar 3) dNil)) (dCons (dVar 4) dNil))) (dCons (dTup (dCons (dVar 3) (dCons (dCB vList (dCons (dVar 4) dNil)) dNil))) (dCons (dTup (dCons (dTup (dCons (dVar 3) (dCons (dVar 4) dNil))) (dCons (dTup (dCons (dVar 4) (dCons (dVar 3) dNil))) dNil))) (dCons (dC (.int 3)) dNil))))))))))))) (dTg (.nm 10)))
    (dRet (dCall (a2 sp_law_like) (dCons (dCB vTuple (dCons (dLc (iTupD (dVar 10)) (dTg (.nm 11)) dYes (dCall (a2 sp_is_effect) (dCons (dVar 2) (dCons (dVar 11) dNil))) [11]) dNil)) (dCons (dOp vMul (dTup (dCons (dC (.bl false)) dNil)) (dC (.int 12))) dNil)))))))))))))
theorem use_pile {h : Int} {x : D} {c : Bool} {S : Sto} {Q : DK} (h1 : pv2 x = true) (e : isPile h x = c) (k : Q (.bl c) S) : sp_is_pile (.int h) x S Q := ⟨h1, by rw [e]; exact k⟩
theorem use_eff {h : Int} {x : D} {c : Bool} {S : Sto} {Q : DK} (h1 : pv3 x = true) (e : isEff h x = c) (k : Q (.bl c) S) : sp_is_effect (.int h) x S Q := ⟨h1, by rw [e]; exact k⟩
theorem use_odd {b : Addr} {p : List Int} {h : Int} {S : Sto} {Q : DK} {so : SO} (hS : S b = some so) (ok : Ok so) (c : cnt so ≤ 400000) (h1 : p.length ≤ 100) (h2 : 2 ≤ h) (h3 : h ≤ 1000)
    (q : ∀ so' ds, Ok so' → cnt so' ≤ cnt so + 3 → ds.all pv1 = true → ds.length ≤ 300 → isPile h (.tup ds) = false → Q (.tup ds) (sup S b so')) : sp_law_odd (.ref b) (.tup (p.map .int)) (.int h) S Q := by
  simp only [sp_law_odd, asP, asInts_map]
  exact ⟨so, hS, ok, c, h1, h2, h3, q⟩
theorem isEff_ints {h : Int} (p : List Int) : isEff h (.tup (p.map .int)) = false := by
  rcases p with _ | ⟨a, _ | ⟨b, _ | ⟨c, p⟩⟩⟩ <;> simp [isEff, isPile]
theorem pv2_ints {p : List Int} (hp : p.length ≤ 1000) : pv2 (.tup (p.map .int)) = true := by
  simp only [pv2, pv1_ints, List.length_map, Bool.true_and, decide_eq_true_eq]
  omega
theorem pv3_ints {p : List Int} : pv3 (.tup (p.map .int)) = true := by
  simp [pv3, pv2, pv1]
theorem st_mul_t {ds : List D} {j : Int} {S : Sto} {Q : DK} (h0 : ds ≠ [] ∧ 2 ≤ j ∧ j ≤ 1000 ∧ ds.length ≤ 1000) (h : Q (.tup (List.replicate j.toNat ds).flatten) S) : vMul (.tup ds) (.int j) S Q := ⟨h0.1, h0.2.1, h0.2.2.1, h0.2.2.2, h⟩
theorem rd_law_judged_ok : ∀ ds S P, (a3 sp_law_judged) ds S P → rd_law_judged (DEnds.of P) (dstart ["bowl", "long", "high", "off", "on", "right", "pile", "turn", "odd", "wrong", "wide", "thing"] ds) S := by
  intro ds S P h
  rcases ds with _ | ⟨x, _ | ⟨y, _ | ⟨z, _ | ⟨w, ds⟩⟩⟩⟩ <;> first | exact (h : False).elim | skip
  simp only [a3, sp_law_judged] at h
  split at h
  · rename_i b l h'
    obtain ⟨so, hS, ok, hc, l0, l1, hh, hh2, q⟩ := h
    unfold rd_law_judged
    rw [← sup_self hS]
    walk_at "run"
    refine use_spin sup_same ok (by omega) (by omega) fun so1 n1 ok1 c1 n10 n11 => ?_
    walk_at "run"
    refine use_made sup_same ok1 (by omega) (by omega) (by omega) (by omega) fun so2 off ok2 c2 fl fb => ?_
    walk_at "run"
    refine use_spin sup_same ok2 (by omega) (by omega) fun so3 n2 ok3 c3 n20 n21 => ?_
    walk_at "run"
    refine use_made sup_same ok3 (by omega) (by omega) (by omega) (by omega) fun so4 on ok4 c4 nl nb => ?_
    have lf : off.length ≤ 98 := by omega
    have ln : on.length ≤ 98 := by omega
    have bm : InB h' (off ++ [h' - 1]) := fun x hx => by
      rcases List.mem_append.mp hx with hx | hx
      · exact fb x hx
      · simp at hx
        omega
    have pf := isPile_ok fb
    have pn := isPile_ok nb
    have pm := isPile_ok bm
    have p0 : isPile h' (.tup []) = true := rfl
    have vf := pv2_ints (p := off) (by omega)
    have vn := pv2_ints (p := on) (by omega)
    have vm := pv2_ints (p := off ++ [h' - 1]) (by simp; omega)
    have v0 : pv2 (.tup []) = true := rfl
    walk_at "run"
    refine lcL_pure (fun d => .bl (isPile h' d)) True.intro _ [] (by rw [sizeLine_val]; simp) (fun d hd P hp => ?_) ?_
    · walk_at "run"
      refine use_pile ?_ rfl hp
      simp only [List.mem_cons, List.not_mem_nil, or_false] at hd
      rcases hd with rfl | rfl | rfl | rfl <;> assumption
    walk_at "run"
    refine use_like ?_ ?_ ?_ ?_
    · simp only [List.map_cons, List.map_nil, List.nil_append, pf, pn, pm, p0]
    · rfl
    · rfl
    walk_at "run"
    refine use_eff (c := true) (by simp only [pv3, List.all_cons, List.all_nil, vf, vn, Bool.and_true]) (by simp only [isEff, pf, pn, Bool.and_true]) ?_
    walk_at "run"
    refine use_eff (c := true) (by simp only [pv3, List.all_cons, List.all_nil, v0, vm, Bool.and_true]) (by simp only [isEff, pm, p0, Bool.and_true]) ?_
    walk_at "run"
    refine use_eff (c := true) rfl rfl ?_
    walk_at "run"
    refine use_like rfl rfl rfl ?_
    walk_at "run"
    refine ⟨by decide, by decide, ?_⟩
    simp only [sup_sup]
    have pe1 : isEff h' (.tup [.tup (off.map .int), .tup (on.map .int)]) = true := by simp only [isEff, pf, pn, Bool.and_true]
    refine forL_inv (fun i δ S' => ∃ (so' : SO) (o7 o8 : Option D), S' = sup S b so' ∧ Ok so' ∧ cnt so' ≤ cnt so4 + 3 * i ∧ δ = [some (.ref b), some (.int l), some (.int h'), some (.tup (off.map .int)), some (.tup (on.map .int)), some (.tup [.tup (off.map .int), .tup (on.map .int), .tup ((off ++ [h' - 1]).map .int), .tup []]), none, o7, o8, none, none, none]) (fun _ _ _ _ => True.intro) _ 0 _ _ ⟨so4, none, none, rfl, ok4, by omega, rfl⟩ ?_ ?_
    · rintro j d _ _ hj ⟨so5, o7, o8, rfl, ok5, c5, rfl⟩ D2 hrt _ hnx _
      have hj4 : j < 4 := by
        have := List.getElem?_eq_some_iff.mp hj
        obtain ⟨z, _⟩ := this
        simpa [rngD] using z
      walk_at "run"
      refine use_odd sup_same ok5 (by omega) (by omega) hh (by omega) fun so6 odd ok6 c6 o1 o2 o3 => ?_
      have ov : pv2 (.tup odd) = true := by
        simp only [pv2, o1, Bool.true_and, decide_eq_true_eq]
        omega
      walk_at "run"
      refine use_pile ov o3 ?_
      walk_at "run"
      refine use_eff (c := false) (by simp only [pv3, List.all_cons, List.all_nil, ov, vn, Bool.and_true]) (by simp only [isEff, o3, Bool.false_and]) ?_
      walk_at "run"
      refine use_eff (c := false) (by simp only [pv3, List.all_cons, List.all_nil, ov, vn, Bool.and_true]) (by simp only [isEff, o3, Bool.and_false]) ?_
      walk_at "run"
      refine use_eff (c := false) (by simp only [pv3, List.all_cons, List.all_nil, ov, vn, Bool.and_true]) (by simp only [isEff, o3, Bool.and_false]) ?_
      walk_at "run"
      refine use_like rfl rfl rfl ?_
      walk_at "run"
      simp only [sup_sup]
      exact hnx _ _ ⟨so6, _, _, rfl, ok6, by omega, rfl⟩
    · rintro _ _ ⟨so5, o7, o8, rfl, ok5, c5, rfl⟩
      have c5' : cnt so5 ≤ cnt so4 + 20 := by
        have : (rngD 0 (Int.toNat 4)).length = 4 := rfl
        omega
      walk_at "run"
      refine use_spin sup_same ok5 (by omega) (by omega) fun so6 n3 ok6 c6 n30 n31 => ?_
      walk_at "run"
      refine st_pick (R := fun x => pv2 x = true ∧ isPile h' x = false) n30 n31 ?_ fun t ⟨t1, t2⟩ => ?_
      · simp only [List.forall_mem_cons]
        simp [pv2, pv1, isPile, within, isEff]
      walk_at "run"
      refine use_pile t1 t2 ?_
      walk_at "run"
      refine use_eff (c := false) (by simp only [pv3, List.all_cons, List.all_nil, t1, vf, Bool.and_true]) (by simp only [isEff, t2, Bool.and_false]) ?_
      walk_at "run"
      refine use_eff (c := false) (by simp only [pv3, List.all_cons, List.all_nil, t1, vn, Bool.and_true]) (by simp only [isEff, t2, Bool.false_and]) ?_
      walk_at "run"
      refine use_like rfl rfl rfl ?_
      walk_at "run"
      refine lcL_pure (fun d => .bl (isEff h' d)) True.intro _ [] (by rw [sizeLine_val]; simp) (fun d hd P hp => ?_) ?_
      · walk_at "run"
        refine use_eff ?_ rfl hp
        simp only [List.mem_cons, List.not_mem_nil, or_false] at hd
        rcases hd with rfl | rfl | rfl | rfl | rfl | rfl | rfl | rfl | rfl | rfl | rfl | rfl <;> first | rfl | simp [pv3, pv2, pv1] | skip
        all_goals omega
      walk_at "run"
      refine st_mul_t ⟨by simp, by decide, by decide, by simp⟩ ?_
      walk_at "run"
      refine use_like (told := .tup _) ?_ rfl rfl ?_
      · refine congrArg D.tup ?_
        show _ = [D.bl false, .bl false, .bl false, .bl false, .bl false, .bl false, .bl false, .bl false, .bl false, .bl false, .bl false, .bl false]
        simp only [List.map_cons, List.map_nil, List.nil_append]
        have e2 : ∀ x : D, x ∈ [D.tup [.tup (off.map .int), .tup (on.map .int), .tup []], .tup [.tup (off.map .int)], .tup [], .lst [.tup (off.map .int), .tup (on.map .int)]] → isEff h' x = false := by
          simp only [List.forall_mem_cons]
          simp [isEff]
        rw [isEff_ints, e2 _ (by simp), e2 _ (by simp), e2 _ (by simp), e2 _ (by simp)]
        simp [isEff, isPile, within]
      refine .of ?_
      simp only [sup_sup]
      exact q _ ok6
  · exact h.elim
/-! the law -/
-- law : 0=script 1=bowl 2=long 3=high
def rd_law : DTS :=
    (dSeq (dAsg (dCall (a1 sp_law_bowl) (dCons (dVar 0) dNil)) (dTg (.nm 1)))
    (dSeq (dAsg (dC (.int 6)) (dTg (.nm 2)))
    (dSeq (dIf (dTest (dOp vEq (dCall (a2 sp_law_spin) (dCons (dVar 1) (dCons (dC (.int 11)) dNil))) (dC (.int 0)))) (dAsg (dC (.int 99)) (dTg (.nm 2))) dNext)
    (dSeq (dAsg (dOp vAdd (dC (.int 2)) (dCall (a2 sp_law_spin) (dCons (dVar 1) (dCons (dC (.int 23)) dNil)))) (dTg (.nm 3)))
    (dSeq (dIf (dOr (dNot (dTest (dCall (a3 sp_law_longers) (dCons (dVar 1) (dCons (dVar 2) (dCons (dVar 3) dNil)))))) (dNot (dTest (dCall (a3 sp_law_ends) (dCons (dVar 1) (dCons (dVar 2) (dCons (dOp vIx (dTup (dCons (dC (.int 2)) (dCons (dVar 3) dNil))) (dCall (a2 sp_law_spin) (dCons (dVar 1) (dCons (dC (.int 2)) dNil)))) dNil))))))) (dRet (dC (.bl false))) dNext)
    (dRet (dAndV (dCall (a3 sp_law_judged) (dCons (dVar 1) (dCons (dVar 2) (dCons (dVar 3) dNil)))) (dCall (a2 sp_law_like) (dCons (dTup (dCons (dCall (a2 sp_is_pile) (dCons (dC (.int 1)) (dCons (dTup (dCons (dC (.int 0)) (dCons (dC (.int 0)) dNil))) dNil))) (dCons (dCall (a2 sp_is_pile) (dCons (dC (.int 1)) (dCons (dTup (dCons (dC (.int 1)) dNil)) dNil))) (dCons (dCall (a2 sp_is_effect) (dCons (dC (.int 1)) (dCons (dTup (dCons (dTup (dCons (dC (.int 0)) dNil)) (dCons (dTup (dCons (dC (.int 1)) dNil)) dNil))) dNil))) dNil)))) (dCons (dTup (dCons (dC (.bl true)) (dCons (dC (.bl false)) (dCons (dC (.bl false)) dNil)))) dNil))))))))))
theorem use_bowl {ns : List Int} {S : Sto} {Q : DK} (h : ns.length ≤ 63) (q : ∀ b so, S b = none → Ok so → cnt so = 0 → Q (.ref b) (sup S b so)) : sp_law_bowl (.ro (ns.map .int)) S Q := ⟨ns, rfl, h, q⟩
theorem use_longers {b : Addr} {l h : Int} {S : Sto} {Q : DK} {so : SO} (hS : S b = some so) (ok : Ok so) (c : cnt so ≤ 100000) (l0 : 1 ≤ l) (l1 : l ≤ 99) (h0 : 2 ≤ h) (q : ∀ so', Ok so' → cnt so' ≤ cnt so + 20000 → Q (.bl true) (sup S b so')) : sp_law_longers (.ref b) (.int l) (.int h) S Q := ⟨so, hS, ok, c, l0, l1, h0, q⟩
theorem use_ends {b : Addr} {l h : Int} {S : Sto} {Q : DK} {so : SO} (hS : S b = some so) (ok : Ok so) (c : cnt so ≤ 200000) (l0 : 6 ≤ l) (l1 : l ≤ 99) (h0 : 2 ≤ h) (q : ∀ so', Ok so' → cnt so' ≤ cnt so + 20000 → Q (.bl true) (sup S b so')) : sp_law_ends (.ref b) (.int l) (.int h) S Q := ⟨so, hS, ok, c, l0, l1, h0, q⟩
theorem use_judged {b : Addr} {l h : Int} {S : Sto} {Q : DK} {so : SO} (hS : S b = some so) (ok : Ok so) (c : cnt so ≤ 300000) (l0 : 1 ≤ l) (l1 : l ≤ 99) (h0 : 2 ≤ h) (h1 : h ≤ 24) (q : ∀ so', Ok so' → Q (.bl true) (sup S b so')) : sp_law_judged (.ref b) (.int l) (.int h) S Q := ⟨so, hS, ok, c, l0, l1, h0, h1, q⟩
theorem rd_law_tail {b : Addr} {S : Sto} {P : DK} {ns : List Int} {l : Int} (hl : l = 6 ∨ l = 99) (qq : ∀ S', P (.bl true) S') {so : SO} (ok : Ok so) (c : cnt so ≤ 10) : ∀ D2 : DEnds, D2 = DEnds.of P →
    (dSeq (dAsg (dOp vAdd (dC (.int 2)) (dCall (a2 sp_law_spin) (dCons (dVar 1) (dCons (dC (.int 23)) dNil)))) (dTg (.nm 3))) (dSeq (dIf (dOr (dNot (dTest (dCall (a3 sp_law_longers) (dCons (dVar 1) (dCons (dVar 2) (dCons (dVar 3) dNil)))))) (dNot (dTest (dCall (a3 sp_law_ends) (dCons (dVar 1) (dCons (dVar 2) (dCons (dOp vIx (dTup (dCons (dC (.int 2)) (dCons (dVar 3) dNil))) (dCall (a2 sp_law_spin) (dCons (dVar 1) (dCons (dC (.int 2)) dNil)))) dNil))))))) (dRet (dC (.bl false))) dNext)
    (dRet (dAndV (dCall (a3 sp_law_judged) (dCons (dVar 1) (dCons (dVar 2) (dCons (dVar 3) dNil)))) (dCall (a2 sp_law_like) (dCons (dTup (dCons (dCall (a2 sp_is_pile) (dCons (dC (.int 1)) (dCons (dTup (dCons (dC (.int 0)) (dCons (dC (.int 0)) dNil))) dNil))) (dCons (dCall (a2 sp_is_pile) (dCons (dC (.int 1)) (dCons (dTup (dCons (dC (.int 1)) dNil)) dNil))) (dCons (dCall (a2 sp_is_effect) (dCons (dC (.int 1)) (dCons (dTup (dCons (dTup (dCons (dC (.int 0)) dNil)) (dCons (dTup (dCons (dC (.int 1)) dNil)) dNil))) dNil))) dNil)))) (dCons (dTup (dCons (dC (.bl true)) (dCons (dC (.bl false)) (dCons (dC (.bl false)) dNil)))) dNil))))))) D2 [some (.ro (ns.map .int)), some (.ref b), some (.int l), none] (sup S b so) := by
  rintro D2 rfl
  walk_at "run"
  refine use_spin sup_same ok (by omega) (by omega) fun so1 n1 ok1 c1 n10 n11 => ?_
  walk_at "run"
  refine use_longers sup_same ok1 (by omega) (by omega) (by omega) (by omega) fun so2 ok2 c2 => ?_
  walk_at "run"
  refine use_spin sup_same ok2 (by omega) (by omega) fun so3 n3 ok3 c3 n30 n31 => ?_
  refine st_pick (R := fun x => ∃ i, x = .int i ∧ 2 ≤ i) n30 n31 ?_ fun t ⟨i, e, i2⟩ => ?_
  · intro x hx
    simp only [List.mem_cons, List.not_mem_nil, or_false] at hx
    rcases hx with rfl | rfl
    · exact ⟨_, rfl, by omega⟩
    · exact ⟨_, rfl, by omega⟩
  subst e
  walk_at "run"
  refine use_ends sup_same ok3 (by omega) (by omega) (by omega) i2 fun so4 ok4 c4 => ?_
  walk_at "run"
  refine use_judged sup_same ok4 (by omega) (by omega) (by omega) (by omega) (by omega) fun so5 ok5 => ?_
  walk_at "run"
  refine use_pile (c := true) rfl rfl ?_
  walk_at "run"
  refine use_pile (c := false) rfl rfl ?_
  walk_at "run"
  refine use_eff (c := false) rfl rfl ?_
  walk_at "run"
  refine use_like rfl rfl rfl ?_
  exact .of (qq _)
theorem rd_law_ok : ∀ ds S P, spTrue ds S P → rd_law (DEnds.of P) (dstart ["script", "bowl", "long", "high"] ds) S := by
  rintro ds S P ⟨ns, rfl, hl, q⟩
  unfold rd_law
  walk_at "run"
  refine use_bowl hl fun b so hb ok c => ?_
  walk_at "run"
  refine use_spin sup_same ok (by omega) (by omega) fun so1 n1 ok1 c1 n10 n11 => ?_
  walk_at "run"
  rw [sup_sup]
  by_cases e : n1 = 0
  · walk_at "run"
    exact rd_law_tail (.inr rfl) q ok1 (by omega) _ rfl
  · walk_at "run"
    exact rd_law_tail (.inl rfl) q ok1 (by omega) _ rfl
theorem FnD.none {P : Program} {w : World} {K : PySem.W.Frag} {mg : Str → Option Value} {base : Heap} {k : Nat} {f : Addr} {fd : FuncData} {ps : List Str} : FnD P w K mg base k f fd ps (fun _ _ _ => False) :=
  ⟨fun vs H Q E ⟨_, _, _, _, _, _, h, _⟩ => h.elim, fun _ _ _ _ _ _ _ _ _ _ _ _ _ ⟨_, _, _, _, _, _, h, _⟩ => h.elim⟩
end L3

set_option Elab.async false
set_option maxRecDepth 100000
set_option linter.all false
set_option maxHeartbeats 4000000
namespace L3
set_option autoImplicit false
open PySem PySem.Spec PyProof.Rows L2
/-! the text by places -/
def topS (i : Nat) : Stmt := PySem.Challenge.pw_pilesfit_k02_effect_looks.main.body.getD i (.Pass ⟨0, 0, 0, 0⟩)
abbrev s_is_extended : Stmt := topS 1
abbrev N_is_extended : List Str := ["one", "other", "many", "pile"]
theorem sc_is_extended : FnScope N_is_extended ["one", "other"] (defScope s_is_extended) := ⟨rfl, rfl, rfl, by decide +kernel, rfl, by decide +kernel, by decide +kernel⟩
abbrev s_is_integer : Stmt := topS 3
abbrev N_is_integer : List Str := ["thing"]
theorem sc_is_integer : FnScope N_is_integer ["thing"] (defScope s_is_integer) := ⟨rfl, rfl, rfl, by decide +kernel, rfl, by decide +kernel, by decide +kernel⟩
abbrev s_integer_within : Stmt := topS 4
abbrev N_integer_within : List Str := ["thing", "low", "high"]
theorem sc_integer_within : FnScope N_integer_within ["thing", "low", "high"] (defScope s_integer_within) := ⟨rfl, rfl, rfl, by decide +kernel, rfl, by decide +kernel, by decide +kernel⟩
abbrev s_is_tuple : Stmt := topS 5
abbrev N_is_tuple : List Str := ["thing", "many"]
theorem sc_is_tuple : FnScope N_is_tuple ["thing", "many"] (defScope s_is_tuple) := ⟨rfl, rfl, rfl, by decide +kernel, rfl, by decide +kernel, by decide +kernel⟩
abbrev s_longer_of : Stmt := topS 7
abbrev N_longer_of : List Str := ["one", "other"]
theorem sc_longer_of : FnScope N_longer_of ["one", "other"] (defScope s_longer_of) := ⟨rfl, rfl, rfl, by decide +kernel, rfl, by decide +kernel, by decide +kernel⟩
abbrev s_common_end : Stmt := topS 8
abbrev N_common_end : List Str := ["one", "other", "many"]
theorem sc_common_end : FnScope N_common_end ["one", "other"] (defScope s_common_end) := ⟨rfl, rfl, rfl, by decide +kernel, rfl, by decide +kernel, by decide +kernel⟩
abbrev s_undone : Stmt := topS 9
abbrev N_undone : List Str := ["effect"]
theorem sc_undone : FnScope N_undone ["effect"] (defScope s_undone) := ⟨rfl, rfl, rfl, by decide +kernel, rfl, by decide +kernel, by decide +kernel⟩
abbrev s_is_pile : Stmt := topS 10
abbrev N_is_pile : List Str := ["kinds", "thing", "kind"]
theorem sc_is_pile : FnScope N_is_pile ["kinds", "thing"] (defScope s_is_pile) := ⟨rfl, rfl, rfl, by decide +kernel, rfl, by decide +kernel, by decide +kernel⟩
abbrev s_is_effect : Stmt := topS 11
abbrev N_is_effect : List Str := ["kinds", "thing"]
theorem sc_is_effect : FnScope N_is_effect ["kinds", "thing"] (defScope s_is_effect) := ⟨rfl, rfl, rfl, by decide +kernel, rfl, by decide +kernel, by decide +kernel⟩
abbrev s_law_like : Stmt := topS 13
abbrev N_law_like : List Str := ["told", "due", "at"]
theorem sc_law_like : FnScope N_law_like ["told", "due"] (defScope s_law_like) := ⟨rfl, rfl, rfl, by decide +kernel, rfl, by decide +kernel, by decide +kernel⟩
abbrev s_law_bowl : Stmt := topS 14
abbrev N_law_bowl : List Str := ["script", "figures", "cell", "left"]
theorem sc_law_bowl : FnScope N_law_bowl ["script"] (defScope s_law_bowl) := ⟨rfl, rfl, rfl, by decide +kernel, rfl, by decide +kernel, by decide +kernel⟩
abbrev s_law_spin : Stmt := topS 15
abbrev N_law_spin : List Str := ["bowl", "many"]
theorem sc_law_spin : FnScope N_law_spin ["bowl", "many"] (defScope s_law_spin) := ⟨rfl, rfl, rfl, by decide +kernel, rfl, by decide +kernel, by decide +kernel⟩
abbrev s_law_made : Stmt := topS 16
abbrev N_law_made : List Str := ["bowl", "long", "high", "turn"]
theorem sc_law_made : FnScope N_law_made ["bowl", "long", "high"] (defScope s_law_made) := ⟨rfl, rfl, rfl, by decide +kernel, rfl, by decide +kernel, by decide +kernel⟩
abbrev s_law_turned : Stmt := topS 17
abbrev N_law_turned : List Str := ["bowl", "pile", "at", "high"]
theorem sc_law_turned : FnScope N_law_turned ["bowl", "pile", "at", "high"] (defScope s_law_turned) := ⟨rfl, rfl, rfl, by decide +kernel, rfl, by decide +kernel, by decide +kernel⟩
abbrev s_law_longers : Stmt := topS 18
abbrev N_law_longers : List Str := ["bowl", "long", "high", "one", "rest", "two", "at", "bent", "other", "apart", "more", "told"]
theorem sc_law_longers : FnScope N_law_longers ["bowl", "long", "high"] (defScope s_law_longers) := ⟨rfl, rfl, rfl, by decide +kernel, rfl, by decide +kernel, by decide +kernel⟩
abbrev s_law_ends : Stmt := topS 19
abbrev N_law_ends : List Str := ["bowl", "long", "high", "end", "first", "second", "told"]
theorem sc_law_ends : FnScope N_law_ends ["bowl", "long", "high"] (defScope s_law_ends) := ⟨rfl, rfl, rfl, by decide +kernel, rfl, by decide +kernel, by decide +kernel⟩
abbrev s_law_odd : Stmt := topS 20
abbrev N_law_odd : List Str := ["bowl", "pile", "high", "at", "thing"]
theorem sc_law_odd : FnScope N_law_odd ["bowl", "pile", "high"] (defScope s_law_odd) := ⟨rfl, rfl, rfl, by decide +kernel, rfl, by decide +kernel, by decide +kernel⟩
abbrev s_law_judged : Stmt := topS 21
abbrev N_law_judged : List Str := ["bowl", "long", "high", "off", "on", "right", "pile", "turn", "odd", "wrong", "wide", "thing"]
theorem sc_law_judged : FnScope N_law_judged ["bowl", "long", "high"] (defScope s_law_judged) := ⟨rfl, rfl, rfl, by decide +kernel, rfl, by decide +kernel, by decide +kernel⟩
abbrev s_law : Stmt := topS 22
abbrev N_law : List Str := ["script", "bowl", "long", "high"]
theorem sc_law : FnScope N_law ["script"] (defScope s_law) := ⟨rfl, rfl, rfl, by decide +kernel, rfl, by decide +kernel, by decide +kernel⟩
/-- what the top has written -/
structure Txt (K : PySem.W.Frag) (mg : Str → Option Value) where
  f_is_extended : Addr
  fd_is_extended : FuncData
  F_is_extended : Fun K "is_extended" "is_extended" s_is_extended f_is_extended fd_is_extended
  m_is_extended : mg "is_extended" = some (.ref f_is_extended)
  b_is_extended : Binds K fd_is_extended ["one", "other"] []
  f_is_integer : Addr
  fd_is_integer : FuncData
  F_is_integer : Fun K "is_integer" "is_integer" s_is_integer f_is_integer fd_is_integer
  m_is_integer : mg "is_integer" = some (.ref f_is_integer)
  b_is_integer : Binds K fd_is_integer ["thing"] []
  f_integer_within : Addr
  fd_integer_within : FuncData
  F_integer_within : Fun K "integer_within" "integer_within" s_integer_within f_integer_within fd_integer_within
  m_integer_within : mg "integer_within" = some (.ref f_integer_within)
  b_integer_within : Binds K fd_integer_within ["thing", "low", "high"] []
  f_is_tuple : Addr
  fd_is_tuple : FuncData
  F_is_tuple : Fun K "is_tuple" "is_tuple" s_is_tuple f_is_tuple fd_is_tuple
  m_is_tuple : mg "is_tuple" = some (.ref f_is_tuple)
  b_is_tuple : Binds K fd_is_tuple ["thing", "many"] []
  f_longer_of : Addr
  fd_longer_of : FuncData
  F_longer_of : Fun K "longer_of" "longer_of" s_longer_of f_longer_of fd_longer_of
  m_longer_of : mg "longer_of" = some (.ref f_longer_of)
  b_longer_of : Binds K fd_longer_of ["one", "other"] []
  f_common_end : Addr
  fd_common_end : FuncData
  F_common_end : Fun K "common_end" "common_end" s_common_end f_common_end fd_common_end
  m_common_end : mg "common_end" = some (.ref f_common_end)
  b_common_end : Binds K fd_common_end ["one", "other"] []
  f_undone : Addr
  fd_undone : FuncData
  F_undone : Fun K "undone" "undone" s_undone f_undone fd_undone
  m_undone : mg "undone" = some (.ref f_undone)
  b_undone : Binds K fd_undone ["effect"] []
  f_is_pile : Addr
  fd_is_pile : FuncData
  F_is_pile : Fun K "is_pile" "is_pile" s_is_pile f_is_pile fd_is_pile
  m_is_pile : mg "is_pile" = some (.ref f_is_pile)
  b_is_pile : Binds K fd_is_pile ["kinds", "thing"] []
  f_is_effect : Addr
  fd_is_effect : FuncData
  F_is_effect : Fun K "is_effect" "is_effect" s_is_effect f_is_effect fd_is_effect
  m_is_effect : mg "is_effect" = some (.ref f_is_effect)
  b_is_effect : Binds K fd_is_effect ["kinds", "thing"] []
  f_law_like : Addr
  fd_law_like : FuncData
  F_law_like : Fun K "_law_like" "_law_like" s_law_like f_law_like fd_law_like
  m_law_like : mg "_law_like" = some (.ref f_law_like)
  b_law_like : Binds K fd_law_like ["told", "due"] []
  f_law_bowl : Addr
  fd_law_bowl : FuncData
  F_law_bowl : Fun K "_law_bowl" "_law_bowl" s_law_bowl f_law_bowl fd_law_bowl
  m_law_bowl : mg "_law_bowl" = some (.ref f_law_bowl)
  b_law_bowl : Binds K fd_law_bowl ["script"] []
  f_law_spin : Addr
  fd_law_spin : FuncData
  F_law_spin : Fun K "_law_spin" "_law_spin" s_law_spin f_law_spin fd_law_spin
  m_law_spin : mg "_law_spin" = some (.ref f_law_spin)
  b_law_spin : Binds K fd_law_spin ["bowl", "many"] []
  f_law_made : Addr
  fd_law_made : FuncData
  F_law_made : Fun K "_law_made" "_law_made" s_law_made f_law_made fd_law_made
  m_law_made : mg "_law_made" = some (.ref f_law_made)
  b_law_made : Binds K fd_law_made ["bowl", "long", "high"] []
  f_law_turned : Addr
  fd_law_turned : FuncData
  F_law_turned : Fun K "_law_turned" "_law_turned" s_law_turned f_law_turned fd_law_turned
  m_law_turned : mg "_law_turned" = some (.ref f_law_turned)
  b_law_turned : Binds K fd_law_turned ["bowl", "pile", "at", "high"] []
  f_law_longers : Addr
  fd_law_longers : FuncData
  F_law_longers : Fun K "_law_longers" "_law_longers" s_law_longers f_law_longers fd_law_longers
  m_law_longers : mg "_law_longers" = some (.ref f_law_longers)
  b_law_longers : Binds K fd_law_longers ["bowl", "long", "high"] []
  f_law_ends : Addr
  fd_law_ends : FuncData
  F_law_ends : Fun K "_law_ends" "_law_ends" s_law_ends f_law_ends fd_law_ends
  m_law_ends : mg "_law_ends" = some (.ref f_law_ends)
  b_law_ends : Binds K fd_law_ends ["bowl", "long", "high"] []
  f_law_odd : Addr
  fd_law_odd : FuncData
  F_law_odd : Fun K "_law_odd" "_law_odd" s_law_odd f_law_odd fd_law_odd
  m_law_odd : mg "_law_odd" = some (.ref f_law_odd)
  b_law_odd : Binds K fd_law_odd ["bowl", "pile", "high"] []
  f_law_judged : Addr
  fd_law_judged : FuncData
  F_law_judged : Fun K "_law_judged" "_law_judged" s_law_judged f_law_judged fd_law_judged
  m_law_judged : mg "_law_judged" = some (.ref f_law_judged)
  b_law_judged : Binds K fd_law_judged ["bowl", "long", "high"] []
  f_law : Addr
  fd_law : FuncData
  F_law : Fun K "law" "law" s_law f_law fd_law
  m_law : mg "law" = some (.ref f_law)
  b_law : Binds K fd_law ["script"] []
  z_abs : mg "abs" = none
  z_all : mg "all" = none
  z_bool : mg "bool" = none
  z_int : mg "int" = none
  z_isinstance : mg "isinstance" = none
  z_len : mg "len" = none
  z_list : mg "list" = none
  z_min : mg "min" = none
  z_range : mg "range" = none
  z_tuple : mg "tuple" = none
section
variable {P : Program} {w : World} {K : PySem.W.Frag} {mg : Str → Option Value} {base : Heap}
theorem dv_is_extended (T : Txt K mg) : ∀ (cdv : Value) (A : Around) (outer : List Env) (s : Shared) (H : Hp) (E : XK), Room 0 (A.deeper (envOfC "is_extended" (defScope s_is_extended) s.heap.objs.size T.f_is_extended cdv)) → DPSs (cxOf CX0 P w K mg base N_is_extended "is_extended" (defScope s_is_extended) T.f_is_extended cdv A outer s H E).nox (defBody s_is_extended) rd_is_extended := by
    intro cdv A outer s H E hr
    unfold rd_is_extended
    exact (dpss_cons (dps_set 2 sc_is_extended.nd (dpe_op dop_sub (dpe_callB dcall_len (by rfl) T.z_len boot_len (dpa_cons (dpe_ix dix (dpe_var 0) dpe_int) dpa_nil)) (dpe_callB dcall_len (by rfl) T.z_len boot_len (dpa_cons (dpe_ix dix (dpe_var 1) dpe_int) dpa_nil))))
    (dpss_cons (dps_if (DPW.pt (dpw_or (dpt_cmp dop_lt (dpe_var 2) dpe_int) (dpw_or1 (dpt_cmp (dop_ne hr.units) (dpe_op dop_sub (dpe_callB dcall_len (by rfl) T.z_len boot_len (dpa_cons (dpe_ix dix (dpe_var 0) dpe_int) dpa_nil)) (dpe_callB dcall_len (by rfl) T.z_len boot_len (dpa_cons (dpe_ix dix (dpe_var 1) dpe_int) dpa_nil))) (dpe_var 2))))) (dpss_one (dps_ret dpe_bl)) dpss_nil)
    (dpss_cons (dps_set 3 sc_is_extended.nd (dpe_slice dsl (dpe_ix dix (dpe_var 0) dpe_int) (dpo_some (dpe_callB dcall_len (by rfl) T.z_len boot_len (dpa_cons (dpe_ix dix (dpe_var 1) dpe_int) dpa_nil))) dpo_none))
    (dpss_one (dps_ret (dpe_cmp (dop_eq hr.units) (dpe_var 0) (dpe_tup (dpa_cons (dpe_op dop_add (dpe_ix dix (dpe_var 1) dpe_int) (dpe_var 3)) (dpa_cons (dpe_op dop_add (dpe_ix dix (dpe_var 1) dpe_int) (dpe_var 3)) dpa_nil)))))))))
theorem ok_is_extended (T : Txt K mg) : FnD P w K mg base 1 T.f_is_extended T.fd_is_extended ["one", "other"] (a2 sp_is_extended) := FnD.mk T.F_is_extended sc_is_extended a2_len (dv_is_extended T) rd_is_extended_ok
theorem dv_is_integer (T : Txt K mg) : ∀ (cdv : Value) (A : Around) (outer : List Env) (s : Shared) (H : Hp) (E : XK), Room 0 (A.deeper (envOfC "is_integer" (defScope s_is_integer) s.heap.objs.size T.f_is_integer cdv)) → DPSs (cxOf CX0 P w K mg base N_is_integer "is_integer" (defScope s_is_integer) T.f_is_integer cdv A outer s H E).nox (defBody s_is_integer) rd_is_integer := by
    intro cdv A outer s H E hr
    unfold rd_is_integer
    exact (dpss_one (dps_ret (dpe_and (dpe_callB dcall_isi (by rfl) T.z_isinstance boot_isinstance (dpa_cons (dpe_var 0) (dpa_cons (dpe_ty (by rfl) T.z_int boot_int) dpa_nil))) (dpe_one (dpe_not (dpe_callB dcall_isi (by rfl) T.z_isinstance boot_isinstance (dpa_cons (dpe_var 0) (dpa_cons (dpe_ty (by rfl) T.z_bool boot_bool) dpa_nil))))))))
theorem ok_is_integer (T : Txt K mg) : FnD P w K mg base 1 T.f_is_integer T.fd_is_integer ["thing"] (a1 sp_is_integer) := FnD.mk T.F_is_integer sc_is_integer a1_len (dv_is_integer T) rd_is_integer_ok
theorem dv_integer_within (T : Txt K mg) : ∀ (cdv : Value) (A : Around) (outer : List Env) (s : Shared) (H : Hp) (E : XK), Room 1 (A.deeper (envOfC "integer_within" (defScope s_integer_within) s.heap.objs.size T.f_integer_within cdv)) → DPSs (cxOf CX0 P w K mg base N_integer_within "integer_within" (defScope s_integer_within) T.f_integer_within cdv A outer s H E).nox (defBody s_integer_within) rd_integer_within := by
    intro cdv A outer s H E hr
    unfold rd_integer_within
    exact (dpss_one (dps_ret (dpe_and (dpe_call (ok_is_integer T) (hr.mono (by decide)) (by rfl) T.m_is_integer T.F_is_integer.kp T.b_is_integer (dpa_cons (dpe_var 0) dpa_nil)) (dpe_one (dpe_chain dop_le dop_le (dpe_var 1) (dpe_var 0) (dpe_var 2))))))
theorem ok_integer_within (T : Txt K mg) : FnD P w K mg base 2 T.f_integer_within T.fd_integer_within ["thing", "low", "high"] (a3 sp_integer_within) := FnD.mk T.F_integer_within sc_integer_within a3_len (dv_integer_within T) rd_integer_within_ok
theorem dv_is_tuple (T : Txt K mg) : ∀ (cdv : Value) (A : Around) (outer : List Env) (s : Shared) (H : Hp) (E : XK), Room 0 (A.deeper (envOfC "is_tuple" (defScope s_is_tuple) s.heap.objs.size T.f_is_tuple cdv)) → DPSs (cxOf CX0 P w K mg base N_is_tuple "is_tuple" (defScope s_is_tuple) T.f_is_tuple cdv A outer s H E).nox (defBody s_is_tuple) rd_is_tuple := by
    intro cdv A outer s H E hr
    unfold rd_is_tuple
    exact (dpss_one (dps_ret (dpe_and (dpe_callB dcall_isi (by rfl) T.z_isinstance boot_isinstance (dpa_cons (dpe_var 0) (dpa_cons (dpe_ty (by rfl) T.z_tuple boot_tuple) dpa_nil))) (dpe_one (dpe_cmp (dop_eq hr.units) (dpe_callB dcall_len (by rfl) T.z_len boot_len (dpa_cons (dpe_var 0) dpa_nil)) (dpe_var 1))))))
theorem ok_is_tuple (T : Txt K mg) : FnD P w K mg base 1 T.f_is_tuple T.fd_is_tuple ["thing", "many"] (a2 sp_is_tuple) := FnD.mk T.F_is_tuple sc_is_tuple a2_len (dv_is_tuple T) rd_is_tuple_ok
theorem dv_longer_of (T : Txt K mg) : ∀ (cdv : Value) (A : Around) (outer : List Env) (s : Shared) (H : Hp) (E : XK), Room 1 (A.deeper (envOfC "longer_of" (defScope s_longer_of) s.heap.objs.size T.f_longer_of cdv)) → DPSs (cxOf CX0 P w K mg base N_longer_of "longer_of" (defScope s_longer_of) T.f_longer_of cdv A outer s H E).nox (defBody s_longer_of) rd_longer_of := by
    intro cdv A outer s H E hr
    unfold rd_longer_of
    exact (dpss_cons (dps_if (dpt_val (dpe_call (ok_is_extended T) (hr.mono (by decide)) (by rfl) T.m_is_extended T.F_is_extended.kp T.b_is_extended (dpa_cons (dpe_var 0) (dpa_cons (dpe_var 1) dpa_nil)))) (dpss_one (dps_ret (dpe_var 0))) dpss_nil)
    (dpss_one (dps_ret (dpe_ifExp (dpt_val (dpe_call (ok_is_extended T) (hr.mono (by decide)) (by rfl) T.m_is_extended T.F_is_extended.kp T.b_is_extended (dpa_cons (dpe_var 1) (dpa_cons (dpe_var 0) dpa_nil)))) (dpe_var 1) dpe_non))))
theorem ok_longer_of (T : Txt K mg) : FnD P w K mg base 2 T.f_longer_of T.fd_longer_of ["one", "other"] (a2 sp_longer_of) := FnD.mk T.F_longer_of sc_longer_of a2_len (dv_longer_of T) rd_longer_of_ok
theorem dv_common_end (T : Txt K mg) : ∀ (cdv : Value) (A : Around) (outer : List Env) (s : Shared) (H : Hp) (E : XK), Room 0 (A.deeper (envOfC "common_end" (defScope s_common_end) s.heap.objs.size T.f_common_end cdv)) → DPSs (cxOf CX0 P w K mg base N_common_end "common_end" (defScope s_common_end) T.f_common_end cdv A outer s H E).nox (defBody s_common_end) rd_common_end := by
    intro cdv A outer s H E hr
    unfold rd_common_end
    exact (dpss_cons (dps_set 2 sc_common_end.nd dpe_int)
    (dpss_cons (dps_while (DPW.pt (dpw_and (dpt_cmp dop_lt (dpe_var 2) (dpe_callB (dcall_min2 rfl) (by rfl) T.z_min boot_min (dpa_cons (dpe_callB dcall_len (by rfl) T.z_len boot_len (dpa_cons (dpe_var 0) dpa_nil)) (dpa_cons (dpe_callB dcall_len (by rfl) T.z_len boot_len (dpa_cons (dpe_var 1) dpa_nil)) dpa_nil)))) (dpw_and1 (dpt_cmp (dop_eq hr.units) (dpe_ix dix (dpe_var 0) (dpe_op dop_sub (dpe_op dop_sub (dpe_callB dcall_len (by rfl) T.z_len boot_len (dpa_cons (dpe_var 0) dpa_nil)) dpe_int) (dpe_var 2))) (dpe_ix dix (dpe_var 1) (dpe_op dop_sub (dpe_op dop_sub (dpe_callB dcall_len (by rfl) T.z_len boot_len (dpa_cons (dpe_var 1) dpa_nil)) dpe_int) (dpe_var 2))))))) (dpss_one (dps_aug 2 dop_iadd sc_common_end.nd dpe_int)))
    (dpss_one (dps_ret (dpe_slice dsl (dpe_var 0) (dpo_some (dpe_op dop_sub (dpe_callB dcall_len (by rfl) T.z_len boot_len (dpa_cons (dpe_var 0) dpa_nil)) (dpe_var 2))) dpo_none)))))
theorem ok_common_end (T : Txt K mg) : FnD P w K mg base 1 T.f_common_end T.fd_common_end ["one", "other"] (a2 sp_common_end) := FnD.mk T.F_common_end sc_common_end a2_len (dv_common_end T) rd_common_end_ok
theorem dv_undone (T : Txt K mg) : ∀ (cdv : Value) (A : Around) (outer : List Env) (s : Shared) (H : Hp) (E : XK), Room 0 (A.deeper (envOfC "undone" (defScope s_undone) s.heap.objs.size T.f_undone cdv)) → DPSs (cxOf CX0 P w K mg base N_undone "undone" (defScope s_undone) T.f_undone cdv A outer s H E).nox (defBody s_undone) rd_undone := by
    intro cdv A outer s H E hr
    unfold rd_undone
    exact (dpss_one (dps_ret (dpe_tup (dpa_cons (dpe_ix dix (dpe_var 0) dpe_int) (dpa_cons (dpe_ix dix (dpe_var 0) dpe_int) dpa_nil)))))
theorem ok_undone (T : Txt K mg) : FnD P w K mg base 1 T.f_undone T.fd_undone ["effect"] (a1 sp_undone) := FnD.mk T.F_undone sc_undone a1_len (dv_undone T) rd_undone_ok
theorem dv_is_pile (T : Txt K mg) : ∀ (cdv : Value) (A : Around) (outer : List Env) (s : Shared) (H : Hp) (E : XK), Room 2 (A.deeper (envOfC "is_pile" (defScope s_is_pile) s.heap.objs.size T.f_is_pile cdv)) → DPSs (cxOf CX0 P w K mg base N_is_pile "is_pile" (defScope s_is_pile) T.f_is_pile cdv A outer s H E).nox (defBody s_is_pile) rd_is_pile := by
    intro cdv A outer s H E hr
    unfold rd_is_pile
    exact (dpss_one (dps_ret (dpe_and (dpe_callB dcall_isi (by rfl) T.z_isinstance boot_isinstance (dpa_cons (dpe_var 1) (dpa_cons (dpe_ty (by rfl) T.z_tuple boot_tuple) dpa_nil))) (dpe_one (dpe_callB (dcall_all rfl) (by rfl) T.z_all boot_all (dpa_cons (dpe_lc (tg := (.nm 2)) (own := [("kind", 2)]) sc_is_pile.nd (dpi_tup (dpe_var 1)) (blkOk_by (own := [("kind", 2)]) (N := N_is_pile) (sc := defScope s_is_pile) (by decide +kernel)) (fun _ _ _ _ _ => dpg_name 2 sc_is_pile.nd) (fun _ _ _ _ _ => dpt_yes) (fun _ _ _ _ _ => (dpe_call (ok_integer_within T) (hr.mono (by decide)) (by rfl) T.m_integer_within T.F_integer_within.kp T.b_integer_within (dpa_cons (dpe_var 2) (dpa_cons dpe_int (dpa_cons (dpe_op dop_sub (dpe_var 0) dpe_int) dpa_nil)))))) dpa_nil))))))
theorem ok_is_pile (T : Txt K mg) : FnD P w K mg base 3 T.f_is_pile T.fd_is_pile ["kinds", "thing"] (a2 sp_is_pile) := FnD.mk T.F_is_pile sc_is_pile a2_len (dv_is_pile T) rd_is_pile_ok
theorem dv_is_effect (T : Txt K mg) : ∀ (cdv : Value) (A : Around) (outer : List Env) (s : Shared) (H : Hp) (E : XK), Room 3 (A.deeper (envOfC "is_effect" (defScope s_is_effect) s.heap.objs.size T.f_is_effect cdv)) → DPSs (cxOf CX0 P w K mg base N_is_effect "is_effect" (defScope s_is_effect) T.f_is_effect cdv A outer s H E).nox (defBody s_is_effect) rd_is_effect := by
    intro cdv A outer s H E hr
    unfold rd_is_effect
    exact (dpss_one (dps_ret (dpe_and (dpe_call (ok_is_tuple T) (hr.mono (by decide)) (by rfl) T.m_is_tuple T.F_is_tuple.kp T.b_is_tuple (dpa_cons (dpe_var 1) (dpa_cons dpe_int dpa_nil))) (dpe_and (dpe_call (ok_is_pile T) (hr.mono (by decide)) (by rfl) T.m_is_pile T.F_is_pile.kp T.b_is_pile (dpa_cons (dpe_var 0) (dpa_cons (dpe_ix dix (dpe_var 1) dpe_int) dpa_nil))) (dpe_one (dpe_call (ok_is_pile T) (hr.mono (by decide)) (by rfl) T.m_is_pile T.F_is_pile.kp T.b_is_pile (dpa_cons (dpe_var 0) (dpa_cons (dpe_ix dix (dpe_var 1) dpe_int) dpa_nil))))))))
theorem ok_is_effect (T : Txt K mg) : FnD P w K mg base 4 T.f_is_effect T.fd_is_effect ["kinds", "thing"] (a2 sp_is_effect) := FnD.mk T.F_is_effect sc_is_effect a2_len (dv_is_effect T) rd_is_effect_ok
theorem dv_law_like (T : Txt K mg) {k : Nat} {spr : DSp} (G : FnD P w K mg base k T.f_law_like T.fd_law_like ["told", "due"] spr) (hk : 0 ≤ k) : ∀ (cdv : Value) (A : Around) (outer : List Env) (s : Shared) (H : Hp) (E : XK), Room k (A.deeper (envOfC "_law_like" (defScope s_law_like) s.heap.objs.size T.f_law_like cdv)) → DPSs (cxOf CX0 P w K mg base N_law_like "_law_like" (defScope s_law_like) T.f_law_like cdv A outer s H E).nox (defBody s_law_like) (rd_law_like spr) := by
    intro cdv A outer s H E hr
    unfold rd_law_like
    exact (dpss_cons (dps_if (dpt_cmp dop_is (dpe_var 1) dpe_non) (dpss_one (dps_ret (dpe_cmp dop_is (dpe_var 0) dpe_non))) dpss_nil)
    (dpss_cons (dps_if (dpt_val (dpe_callB dcall_isi (by rfl) T.z_isinstance boot_isinstance (dpa_cons (dpe_var 1) (dpa_cons (dpe_ty (by rfl) T.z_bool boot_bool) dpa_nil)))) (dpss_one (dps_ret (dpe_and (dpe_callB dcall_isi (by rfl) T.z_isinstance boot_isinstance (dpa_cons (dpe_var 0) (dpa_cons (dpe_ty (by rfl) T.z_bool boot_bool) dpa_nil))) (dpe_one (dpe_cmp (dop_eq hr.units) (dpe_var 0) (dpe_var 1)))))) dpss_nil)
    (dpss_cons (dps_if (dpt_val (dpe_callB dcall_isi (by rfl) T.z_isinstance boot_isinstance (dpa_cons (dpe_var 1) (dpa_cons (dpe_ty (by rfl) T.z_int boot_int) dpa_nil)))) (dpss_one (dps_ret (dpe_and (dpe_callB dcall_isi (by rfl) T.z_isinstance boot_isinstance (dpa_cons (dpe_var 0) (dpa_cons (dpe_ty (by rfl) T.z_int boot_int) dpa_nil))) (dpe_and (dpe_not (dpe_callB dcall_isi (by rfl) T.z_isinstance boot_isinstance (dpa_cons (dpe_var 0) (dpa_cons (dpe_ty (by rfl) T.z_bool boot_bool) dpa_nil)))) (dpe_one (dpe_cmp (dop_eq hr.units) (dpe_var 0) (dpe_var 1))))))) dpss_nil)
    (dpss_cons (dps_if (DPW.pt (dpw_or (dpt_not (dpt_val (dpe_callB dcall_isi (by rfl) T.z_isinstance boot_isinstance (dpa_cons (dpe_var 0) (dpa_cons (dpe_ty (by rfl) T.z_tuple boot_tuple) dpa_nil))))) (dpw_or1 (dpt_cmp (dop_ne hr.units) (dpe_callB dcall_len (by rfl) T.z_len boot_len (dpa_cons (dpe_var 0) dpa_nil)) (dpe_callB dcall_len (by rfl) T.z_len boot_len (dpa_cons (dpe_var 1) dpa_nil)))))) (dpss_one (dps_ret dpe_bl)) dpss_nil)
    (dpss_cons (dps_for (dpi_range1 (by rfl) T.z_range (dpe_callB dcall_len (by rfl) T.z_len boot_len (dpa_cons (dpe_var 1) dpa_nil))) (dpg_tg (dpg_name 2 sc_law_like.nd)) (dpss_one (dps_if (dpt_not (dpt_val (dpe_call G hr (by rfl) T.m_law_like T.F_law_like.kp T.b_law_like (dpa_cons (dpe_ix dix (dpe_var 0) (dpe_var 2)) (dpa_cons (dpe_ix dix (dpe_var 1) (dpe_var 2)) dpa_nil))))) (dpss_one (dps_ret dpe_bl)) dpss_nil)))
    (dpss_one (dps_ret dpe_bl)))))))
theorem ok_like_n (T : Txt K mg) : ∀ n, FnD P w K mg base (n + 1) T.f_law_like T.fd_law_like ["told", "due"] (a2 (sp_like n))
  | 0 => FnD.mk T.F_law_like sc_law_like a2_len (dv_law_like T (k := 0) (spr := fun _ _ _ => False) FnD.none (Nat.le_refl 0)) (rd_law_like_ok 0 _ (fun m e => by cases e))
  | n + 1 => FnD.mk T.F_law_like sc_law_like a2_len (dv_law_like T (ok_like_n T n) (Nat.zero_le _)) (rd_law_like_ok (n + 1) _ (fun m e => by cases e; rfl))
theorem ok_law_like (T : Txt K mg) : FnD P w K mg base 7 T.f_law_like T.fd_law_like ["told", "due"] (a2 sp_law_like) := ok_like_n T 6
theorem dv_law_bowl (T : Txt K mg) : ∀ (cdv : Value) (A : Around) (outer : List Env) (s : Shared) (H : Hp) (E : XK), Room 0 (A.deeper (envOfC "_law_bowl" (defScope s_law_bowl) s.heap.objs.size T.f_law_bowl cdv)) → DPSs (cxOf CX0 P w K mg base N_law_bowl "_law_bowl" (defScope s_law_bowl) T.f_law_bowl cdv A outer s H E).nox (defBody s_law_bowl) rd_law_bowl := by
    intro cdv A outer s H E hr
    unfold rd_law_bowl
    exact (dpss_cons (dps_set 1 sc_law_bowl.nd (dpe_lstM dpa_nil))
    (dpss_cons (dps_for (dpi_seq (dpe_slice dsl (dpe_var 0) (dpo_some (dpe_un dun_neg dpe_int)) dpo_none)) (dpg_tg (dpg_name 2 sc_law_bowl.nd)) (dpss_cons (dps_set 3 sc_law_bowl.nd (dpe_op dop_add (dpe_op dop_mod (dpe_callB dcall_abs (by rfl) T.z_abs boot_abs (dpa_cons (dpe_callTy dcall_int (by rfl) T.z_int boot_int (dpa_cons (dpe_var 2) dpa_nil)) dpa_nil)) (dpe_op dop_shl dpe_int dpe_int)) (dpe_callTy dcall_int (by rfl) T.z_int boot_int (dpa_cons (dpe_cmp dop_lt (dpe_var 2) dpe_int) dpa_nil))))
    (dpss_one (dps_while (DPW.pt (dpw_and (dpt_cmp dop_gt (dpe_var 3) dpe_int) (dpw_and1 (dpt_cmp dop_lt (dpe_callB dcall_len (by rfl) T.z_len boot_len (dpa_cons (dpe_var 1) dpa_nil)) dpe_int)))) (dpss_cons (dps_expr (dpe_lm PySem.F.slot_list_append PySem.F.type_list_append mt_append lr_append (dpe_var 1) (dpa_cons (dpe_op dop_mod (dpe_callTy dcall_int (by rfl) T.z_int boot_int (dpa_cons (dpe_var 3) dpa_nil)) dpe_int) dpa_nil)))
    (dpss_one (dps_set 3 sc_law_bowl.nd (dpe_op dop_div (dpe_var 3) dpe_int))))))))
    (dpss_one (dps_ret (dpe_lstM (dpa_cons dpe_int (dpa_cons (dpe_op dop_add dpe_int (dpe_op dop_mod (dpe_callB dcall_len (by rfl) T.z_len boot_len (dpa_cons (dpe_var 0) dpa_nil)) dpe_int)) (dpa_cons (dpe_op dop_add (dpe_var 1) (dpe_lst (dpa_cons dpe_int (dpa_cons dpe_int dpa_nil)))) dpa_nil))))))))
theorem ok_law_bowl (T : Txt K mg) : FnD P w K mg base 1 T.f_law_bowl T.fd_law_bowl ["script"] (a1 sp_law_bowl) := FnD.mk T.F_law_bowl sc_law_bowl a1_len (dv_law_bowl T) rd_law_bowl_ok
theorem dv_law_spin (T : Txt K mg) : ∀ (cdv : Value) (A : Around) (outer : List Env) (s : Shared) (H : Hp) (E : XK), Room 0 (A.deeper (envOfC "_law_spin" (defScope s_law_spin) s.heap.objs.size T.f_law_spin cdv)) → DPSs (cxOf CX0 P w K mg base N_law_spin "_law_spin" (defScope s_law_spin) T.f_law_spin cdv A outer s H E).nox (defBody s_law_spin) rd_law_spin := by
    intro cdv A outer s H E hr
    unfold rd_law_spin
    exact (dpss_cons (dps_asg (dpe_op dop_add (dpe_ix dix (dpe_var 0) dpe_int) dpe_int) (dpg_sub (dpe_var 0) dpe_int))
    (dpss_cons (dps_asg (dpe_op dop_mod (dpe_callTy dcall_int (by rfl) T.z_int boot_int (dpa_cons (dpe_op dop_add (dpe_op dop_add (dpe_op dop_mul (dpe_ix dix (dpe_var 0) dpe_int) dpe_int) (dpe_op dop_mul (dpe_ix dix (dpe_ix dix (dpe_var 0) dpe_int) (dpe_op dop_mod (dpe_callTy dcall_int (by rfl) T.z_int boot_int (dpa_cons (dpe_op dop_sub (dpe_op dop_mul (dpe_ix dix (dpe_var 0) dpe_int) (dpe_ix dix (dpe_var 0) dpe_int)) dpe_int) dpa_nil)) (dpe_callB dcall_len (by rfl) T.z_len boot_len (dpa_cons (dpe_ix dix (dpe_var 0) dpe_int) dpa_nil)))) dpe_int)) (dpe_op dop_mul (dpe_ix dix (dpe_var 0) dpe_int) dpe_int)) dpa_nil)) dpe_int) (dpg_sub (dpe_var 0) dpe_int))
    (dpss_one (dps_ret (dpe_op dop_mod (dpe_callTy dcall_int (by rfl) T.z_int boot_int (dpa_cons (dpe_op dop_div (dpe_ix dix (dpe_var 0) dpe_int) dpe_int) dpa_nil)) (dpe_var 1))))))
theorem ok_law_spin (T : Txt K mg) : FnD P w K mg base 1 T.f_law_spin T.fd_law_spin ["bowl", "many"] (a2 sp_law_spin) := FnD.mk T.F_law_spin sc_law_spin a2_len (dv_law_spin T) rd_law_spin_ok
theorem dv_law_made (T : Txt K mg) : ∀ (cdv : Value) (A : Around) (outer : List Env) (s : Shared) (H : Hp) (E : XK), Room 1 (A.deeper (envOfC "_law_made" (defScope s_law_made) s.heap.objs.size T.f_law_made cdv)) → DPSs (cxOf CX0 P w K mg base N_law_made "_law_made" (defScope s_law_made) T.f_law_made cdv A outer s H E).nox (defBody s_law_made) rd_law_made := by
    intro cdv A outer s H E hr
    unfold rd_law_made
    exact (dpss_one (dps_ret (dpe_callTy dcall_tuple (by rfl) T.z_tuple boot_tuple (dpa_cons (dpe_lc (tg := (.nm 3)) (own := [("turn", 3)]) sc_law_made.nd (dpi_range1 (by rfl) T.z_range (dpe_var 1)) (blkOk_by (own := [("turn", 3)]) (N := N_law_made) (sc := defScope s_law_made) (by decide +kernel)) (fun _ _ _ _ _ => dpg_name 3 sc_law_made.nd) (fun _ _ _ _ _ => dpt_yes) (fun _ _ _ _ _ => (dpe_call (ok_law_spin T) (hr.mono (by decide)) (by rfl) T.m_law_spin T.F_law_spin.kp T.b_law_spin (dpa_cons (dpe_var 0) (dpa_cons (dpe_var 2) dpa_nil))))) dpa_nil))))
theorem ok_law_made (T : Txt K mg) : FnD P w K mg base 2 T.f_law_made T.fd_law_made ["bowl", "long", "high"] (a3 sp_law_made) := FnD.mk T.F_law_made sc_law_made a3_len (dv_law_made T) rd_law_made_ok
theorem dv_law_turned (T : Txt K mg) : ∀ (cdv : Value) (A : Around) (outer : List Env) (s : Shared) (H : Hp) (E : XK), Room 1 (A.deeper (envOfC "_law_turned" (defScope s_law_turned) s.heap.objs.size T.f_law_turned cdv)) → DPSs (cxOf CX0 P w K mg base N_law_turned "_law_turned" (defScope s_law_turned) T.f_law_turned cdv A outer s H E).nox (defBody s_law_turned) rd_law_turned := by
    intro cdv A outer s H E hr
    unfold rd_law_turned
    exact (dpss_one (dps_ret (dpe_op dop_add (dpe_op dop_add (dpe_slice dsl (dpe_var 1) dpo_none (dpo_some (dpe_var 2))) (dpe_tup (dpa_cons (dpe_op dop_mod (dpe_callTy dcall_int (by rfl) T.z_int boot_int (dpa_cons (dpe_op dop_add (dpe_op dop_add (dpe_ix dix (dpe_var 1) (dpe_var 2)) dpe_int) (dpe_call (ok_law_spin T) (hr.mono (by decide)) (by rfl) T.m_law_spin T.F_law_spin.kp T.b_law_spin (dpa_cons (dpe_var 0) (dpa_cons (dpe_op dop_sub (dpe_var 3) dpe_int) dpa_nil)))) dpa_nil)) (dpe_var 3)) dpa_nil))) (dpe_slice dsl (dpe_var 1) (dpo_some (dpe_op dop_add (dpe_var 2) dpe_int)) dpo_none))))
theorem ok_law_turned (T : Txt K mg) : FnD P w K mg base 2 T.f_law_turned T.fd_law_turned ["bowl", "pile", "at", "high"] (a4 sp_law_turned) := FnD.mk T.F_law_turned sc_law_turned a4_len (dv_law_turned T) rd_law_turned_ok
theorem dv_law_longers (T : Txt K mg) : ∀ (cdv : Value) (A : Around) (outer : List Env) (s : Shared) (H : Hp) (E : XK), Room 7 (A.deeper (envOfC "_law_longers" (defScope s_law_longers) s.heap.objs.size T.f_law_longers cdv)) → DPSs (cxOf CX0 P w K mg base N_law_longers "_law_longers" (defScope s_law_longers) T.f_law_longers cdv A outer s H E).nox (defBody s_law_longers) rd_law_longers := by
    intro cdv A outer s H E hr
    unfold rd_law_longers
    exact (dpss_cons (dps_set 3 sc_law_longers.nd (dpe_tup (dpa_cons (dpe_call (ok_law_made T) (hr.mono (by decide)) (by rfl) T.m_law_made T.F_law_made.kp T.b_law_made (dpa_cons (dpe_var 0) (dpa_cons (dpe_call (ok_law_spin T) (hr.mono (by decide)) (by rfl) T.m_law_spin T.F_law_spin.kp T.b_law_spin (dpa_cons (dpe_var 0) (dpa_cons (dpe_var 1) dpa_nil))) (dpa_cons (dpe_var 2) dpa_nil)))) (dpa_cons (dpe_call (ok_law_made T) (hr.mono (by decide)) (by rfl) T.m_law_made T.F_law_made.kp T.b_law_made (dpa_cons (dpe_var 0) (dpa_cons (dpe_call (ok_law_spin T) (hr.mono (by decide)) (by rfl) T.m_law_spin T.F_law_spin.kp T.b_law_spin (dpa_cons (dpe_var 0) (dpa_cons (dpe_var 1) dpa_nil))) (dpa_cons (dpe_var 2) dpa_nil)))) dpa_nil))))
    (dpss_cons (dps_set 4 sc_law_longers.nd (dpe_call (ok_law_made T) (hr.mono (by decide)) (by rfl) T.m_law_made T.F_law_made.kp T.b_law_made (dpa_cons (dpe_var 0) (dpa_cons (dpe_op dop_add dpe_int (dpe_call (ok_law_spin T) (hr.mono (by decide)) (by rfl) T.m_law_spin T.F_law_spin.kp T.b_law_spin (dpa_cons (dpe_var 0) (dpa_cons (dpe_var 1) dpa_nil)))) (dpa_cons (dpe_var 2) dpa_nil)))))
    (dpss_cons (dps_set 5 sc_law_longers.nd (dpe_tup (dpa_cons (dpe_op dop_add (dpe_ix dix (dpe_var 3) dpe_int) (dpe_var 4)) (dpa_cons (dpe_op dop_add (dpe_ix dix (dpe_var 3) dpe_int) (dpe_var 4)) dpa_nil))))
    (dpss_cons (dps_if (dpt_not (dpt_val (dpe_call (ok_law_like T) (hr.mono (by decide)) (by rfl) T.m_law_like T.F_law_like.kp T.b_law_like (dpa_cons (dpe_tup (dpa_cons (dpe_call (ok_longer_of T) (hr.mono (by decide)) (by rfl) T.m_longer_of T.F_longer_of.kp T.b_longer_of (dpa_cons (dpe_var 3) (dpa_cons (dpe_var 5) dpa_nil))) (dpa_cons (dpe_call (ok_longer_of T) (hr.mono (by decide)) (by rfl) T.m_longer_of T.F_longer_of.kp T.b_longer_of (dpa_cons (dpe_var 5) (dpa_cons (dpe_var 3) dpa_nil))) (dpa_cons (dpe_call (ok_longer_of T) (hr.mono (by decide)) (by rfl) T.m_longer_of T.F_longer_of.kp T.b_longer_of (dpa_cons (dpe_var 5) (dpa_cons (dpe_var 5) dpa_nil))) dpa_nil)))) (dpa_cons (dpe_tup (dpa_cons (dpe_var 5) (dpa_cons (dpe_var 5) (dpa_cons (dpe_var 5) dpa_nil)))) dpa_nil))))) (dpss_one (dps_ret dpe_bl)) dpss_nil)
    (dpss_cons (dps_set 6 sc_law_longers.nd (dpe_call (ok_law_spin T) (hr.mono (by decide)) (by rfl) T.m_law_spin T.F_law_spin.kp T.b_law_spin (dpa_cons (dpe_var 0) (dpa_cons (dpe_callB dcall_len (by rfl) T.z_len boot_len (dpa_cons (dpe_var 4) dpa_nil)) dpa_nil))))
    (dpss_cons (dps_set 7 sc_law_longers.nd (dpe_tup (dpa_cons (dpe_ix dix (dpe_var 5) dpe_int) (dpa_cons (dpe_op dop_add (dpe_ix dix (dpe_var 3) dpe_int) (dpe_call (ok_law_turned T) (hr.mono (by decide)) (by rfl) T.m_law_turned T.F_law_turned.kp T.b_law_turned (dpa_cons (dpe_var 0) (dpa_cons (dpe_var 4) (dpa_cons (dpe_var 6) (dpa_cons (dpe_var 2) dpa_nil)))))) dpa_nil))))
    (dpss_cons (dps_set 8 sc_law_longers.nd (dpe_op dop_add (dpe_call (ok_law_turned T) (hr.mono (by decide)) (by rfl) T.m_law_turned T.F_law_turned.kp T.b_law_turned (dpa_cons (dpe_var 0) (dpa_cons (dpe_var 4) (dpa_cons (dpe_var 6) (dpa_cons (dpe_var 2) dpa_nil))))) (dpe_call (ok_law_made T) (hr.mono (by decide)) (by rfl) T.m_law_made T.F_law_made.kp T.b_law_made (dpa_cons (dpe_var 0) (dpa_cons (dpe_call (ok_law_spin T) (hr.mono (by decide)) (by rfl) T.m_law_spin T.F_law_spin.kp T.b_law_spin (dpa_cons (dpe_var 0) (dpa_cons dpe_int dpa_nil))) (dpa_cons (dpe_var 2) dpa_nil))))))
    (dpss_cons (dps_set 9 sc_law_longers.nd (dpe_tup (dpa_cons (dpe_op dop_add (dpe_ix dix (dpe_var 3) dpe_int) (dpe_var 8)) (dpa_cons (dpe_op dop_add (dpe_ix dix (dpe_var 3) dpe_int) (dpe_var 8)) dpa_nil))))
    (dpss_cons (dps_set 10 sc_law_longers.nd (dpe_tup (dpa_cons (dpe_ix dix (dpe_var 3) dpe_int) (dpa_cons (dpe_op dop_add (dpe_ix dix (dpe_var 3) dpe_int) (dpe_var 4)) dpa_nil))))
    (dpss_cons (dps_set 11 sc_law_longers.nd (dpe_tup (dpa_cons (dpe_call (ok_longer_of T) (hr.mono (by decide)) (by rfl) T.m_longer_of T.F_longer_of.kp T.b_longer_of (dpa_cons (dpe_var 3) (dpa_cons (dpe_var 7) dpa_nil))) (dpa_cons (dpe_call (ok_longer_of T) (hr.mono (by decide)) (by rfl) T.m_longer_of T.F_longer_of.kp T.b_longer_of (dpa_cons (dpe_var 7) (dpa_cons (dpe_var 5) dpa_nil))) (dpa_cons (dpe_call (ok_longer_of T) (hr.mono (by decide)) (by rfl) T.m_longer_of T.F_longer_of.kp T.b_longer_of (dpa_cons (dpe_var 5) (dpa_cons (dpe_var 9) dpa_nil))) (dpa_cons (dpe_call (ok_longer_of T) (hr.mono (by decide)) (by rfl) T.m_longer_of T.F_longer_of.kp T.b_longer_of (dpa_cons (dpe_var 9) (dpa_cons (dpe_var 5) dpa_nil))) (dpa_cons (dpe_call (ok_longer_of T) (hr.mono (by decide)) (by rfl) T.m_longer_of T.F_longer_of.kp T.b_longer_of (dpa_cons (dpe_var 10) (dpa_cons (dpe_var 3) dpa_nil))) (dpa_cons (dpe_call (ok_longer_of T) (hr.mono (by decide)) (by rfl) T.m_longer_of T.F_longer_of.kp T.b_longer_of (dpa_cons (dpe_var 3) (dpa_cons (dpe_var 10) dpa_nil))) dpa_nil))))))))
    (dpss_cons (dps_if (dpt_not (dpt_val (dpe_call (ok_law_like T) (hr.mono (by decide)) (by rfl) T.m_law_like T.F_law_like.kp T.b_law_like (dpa_cons (dpe_var 11) (dpa_cons (dpe_tup (dpa_cons dpe_non (dpa_cons dpe_non (dpa_cons dpe_non (dpa_cons dpe_non (dpa_cons dpe_non (dpa_cons dpe_non dpa_nil))))))) dpa_nil))))) (dpss_one (dps_ret dpe_bl)) dpss_nil)
    (dpss_one (dps_ret (dpe_call (ok_law_like T) (hr.mono (by decide)) (by rfl) T.m_law_like T.F_law_like.kp T.b_law_like (dpa_cons (dpe_tup (dpa_cons (dpe_call (ok_longer_of T) (hr.mono (by decide)) (by rfl) T.m_longer_of T.F_longer_of.kp T.b_longer_of (dpa_cons (dpe_var 9) (dpa_cons (dpe_var 3) dpa_nil))) (dpa_cons (dpe_call (ok_undone T) (hr.mono (by decide)) (by rfl) T.m_undone T.F_undone.kp T.b_undone (dpa_cons (dpe_var 5) dpa_nil)) (dpa_cons (dpe_call (ok_undone T) (hr.mono (by decide)) (by rfl) T.m_undone T.F_undone.kp T.b_undone (dpa_cons (dpe_var 10) dpa_nil)) dpa_nil)))) (dpa_cons (dpe_tup (dpa_cons (dpe_var 9) (dpa_cons (dpe_tup (dpa_cons (dpe_ix dix (dpe_var 5) dpe_int) (dpa_cons (dpe_ix dix (dpe_var 5) dpe_int) dpa_nil))) (dpa_cons (dpe_tup (dpa_cons (dpe_op dop_add (dpe_ix dix (dpe_var 3) dpe_int) (dpe_var 4)) (dpa_cons (dpe_ix dix (dpe_var 3) dpe_int) dpa_nil))) dpa_nil)))) dpa_nil))))))))))))))))
theorem ok_law_longers (T : Txt K mg) : FnD P w K mg base 8 T.f_law_longers T.fd_law_longers ["bowl", "long", "high"] (a3 sp_law_longers) := FnD.mk T.F_law_longers sc_law_longers a3_len (dv_law_longers T) rd_law_longers_ok
theorem dv_law_ends (T : Txt K mg) : ∀ (cdv : Value) (A : Around) (outer : List Env) (s : Shared) (H : Hp) (E : XK), Room 7 (A.deeper (envOfC "_law_ends" (defScope s_law_ends) s.heap.objs.size T.f_law_ends cdv)) → DPSs (cxOf CX0 P w K mg base N_law_ends "_law_ends" (defScope s_law_ends) T.f_law_ends cdv A outer s H E).nox (defBody s_law_ends) rd_law_ends := by
    intro cdv A outer s H E hr
    unfold rd_law_ends
    exact (dpss_cons (dps_set 3 sc_law_ends.nd (dpe_call (ok_law_made T) (hr.mono (by decide)) (by rfl) T.m_law_made T.F_law_made.kp T.b_law_made (dpa_cons (dpe_var 0) (dpa_cons (dpe_op dop_sub (dpe_op dop_sub (dpe_var 1) dpe_int) (dpe_call (ok_law_spin T) (hr.mono (by decide)) (by rfl) T.m_law_spin T.F_law_spin.kp T.b_law_spin (dpa_cons (dpe_var 0) (dpa_cons dpe_int dpa_nil)))) (dpa_cons (dpe_var 2) dpa_nil)))))
    (dpss_cons (dps_set 4 sc_law_ends.nd (dpe_call (ok_law_made T) (hr.mono (by decide)) (by rfl) T.m_law_made T.F_law_made.kp T.b_law_made (dpa_cons (dpe_var 0) (dpa_cons (dpe_op dop_add dpe_int (dpe_call (ok_law_spin T) (hr.mono (by decide)) (by rfl) T.m_law_spin T.F_law_spin.kp T.b_law_spin (dpa_cons (dpe_var 0) (dpa_cons dpe_int dpa_nil)))) (dpa_cons (dpe_var 2) dpa_nil)))))
    (dpss_cons (dps_set 5 sc_law_ends.nd (dpe_op dop_add (dpe_call (ok_law_made T) (hr.mono (by decide)) (by rfl) T.m_law_made T.F_law_made.kp T.b_law_made (dpa_cons (dpe_var 0) (dpa_cons (dpe_call (ok_law_spin T) (hr.mono (by decide)) (by rfl) T.m_law_spin T.F_law_spin.kp T.b_law_spin (dpa_cons (dpe_var 0) (dpa_cons dpe_int dpa_nil))) (dpa_cons (dpe_var 2) dpa_nil)))) (dpe_call (ok_law_turned T) (hr.mono (by decide)) (by rfl) T.m_law_turned T.F_law_turned.kp T.b_law_turned (dpa_cons (dpe_var 0) (dpa_cons (dpe_slice dsl (dpe_var 4) (dpo_some (dpe_un dun_neg dpe_int)) dpo_none) (dpa_cons dpe_int (dpa_cons (dpe_var 2) dpa_nil)))))))
    (dpss_cons (dps_set 6 sc_law_ends.nd (dpe_tup (dpa_cons (dpe_call (ok_common_end T) (hr.mono (by decide)) (by rfl) T.m_common_end T.F_common_end.kp T.b_common_end (dpa_cons (dpe_op dop_add (dpe_var 4) (dpe_var 3)) (dpa_cons (dpe_op dop_add (dpe_var 5) (dpe_var 3)) dpa_nil))) (dpa_cons (dpe_call (ok_common_end T) (hr.mono (by decide)) (by rfl) T.m_common_end T.F_common_end.kp T.b_common_end (dpa_cons (dpe_var 3) (dpa_cons (dpe_op dop_add (dpe_var 5) (dpe_var 3)) dpa_nil))) (dpa_cons (dpe_call (ok_common_end T) (hr.mono (by decide)) (by rfl) T.m_common_end T.F_common_end.kp T.b_common_end (dpa_cons (dpe_op dop_add (dpe_var 4) (dpe_var 3)) (dpa_cons (dpe_var 3) dpa_nil))) (dpa_cons (dpe_call (ok_common_end T) (hr.mono (by decide)) (by rfl) T.m_common_end T.F_common_end.kp T.b_common_end (dpa_cons (dpe_var 3) (dpa_cons (dpe_var 3) dpa_nil))) dpa_nil))))))
    (dpss_cons (dps_if (dpt_not (dpt_val (dpe_call (ok_law_like T) (hr.mono (by decide)) (by rfl) T.m_law_like T.F_law_like.kp T.b_law_like (dpa_cons (dpe_var 6) (dpa_cons (dpe_tup (dpa_cons (dpe_var 3) (dpa_cons (dpe_var 3) (dpa_cons (dpe_var 3) (dpa_cons (dpe_var 3) dpa_nil))))) dpa_nil))))) (dpss_one (dps_ret dpe_bl)) dpss_nil)
    (dpss_one (dps_ret (dpe_call (ok_law_like T) (hr.mono (by decide)) (by rfl) T.m_law_like T.F_law_like.kp T.b_law_like (dpa_cons (dpe_tup (dpa_cons (dpe_call (ok_common_end T) (hr.mono (by decide)) (by rfl) T.m_common_end T.F_common_end.kp T.b_common_end (dpa_cons (dpe_var 4) (dpa_cons (dpe_var 5) dpa_nil))) (dpa_cons (dpe_call (ok_common_end T) (hr.mono (by decide)) (by rfl) T.m_common_end T.F_common_end.kp T.b_common_end (dpa_cons (dpe_tup dpa_nil) (dpa_cons (dpe_var 4) dpa_nil))) (dpa_cons (dpe_call (ok_common_end T) (hr.mono (by decide)) (by rfl) T.m_common_end T.F_common_end.kp T.b_common_end (dpa_cons (dpe_op dop_add (dpe_op dop_add (dpe_var 4) (dpe_var 3)) (dpe_var 4)) (dpa_cons (dpe_op dop_add (dpe_var 3) (dpe_var 4)) dpa_nil))) dpa_nil)))) (dpa_cons (dpe_tup (dpa_cons (dpe_tup dpa_nil) (dpa_cons (dpe_tup dpa_nil) (dpa_cons (dpe_op dop_add (dpe_var 3) (dpe_var 4)) dpa_nil)))) dpa_nil))))))))))
theorem ok_law_ends (T : Txt K mg) : FnD P w K mg base 8 T.f_law_ends T.fd_law_ends ["bowl", "long", "high"] (a3 sp_law_ends) := FnD.mk T.F_law_ends sc_law_ends a3_len (dv_law_ends T) rd_law_ends_ok
theorem dv_law_odd (T : Txt K mg) : ∀ (cdv : Value) (A : Around) (outer : List Env) (s : Shared) (H : Hp) (E : XK), Room 1 (A.deeper (envOfC "_law_odd" (defScope s_law_odd) s.heap.objs.size T.f_law_odd cdv)) → DPSs (cxOf CX0 P w K mg base N_law_odd "_law_odd" (defScope s_law_odd) T.f_law_odd cdv A outer s H E).nox (defBody s_law_odd) rd_law_odd := by
    intro cdv A outer s H E hr
    unfold rd_law_odd
    exact (dpss_cons (dps_set 3 sc_law_odd.nd (dpe_call (ok_law_spin T) (hr.mono (by decide)) (by rfl) T.m_law_spin T.F_law_spin.kp T.b_law_spin (dpa_cons (dpe_var 0) (dpa_cons (dpe_op dop_add (dpe_callB dcall_len (by rfl) T.z_len boot_len (dpa_cons (dpe_var 1) dpa_nil)) dpe_int) dpa_nil))))
    (dpss_cons (dps_set 4 sc_law_odd.nd (dpe_ix dix (dpe_tup (dpa_cons (dpe_var 2) (dpa_cons (dpe_un dun_neg dpe_int) (dpa_cons dpe_bl (dpa_cons dpe_bl (dpa_cons dpe_str (dpa_cons dpe_non (dpa_cons (dpe_tup dpa_nil) (dpa_cons (dpe_tup (dpa_cons dpe_int dpa_nil)) (dpa_cons (dpe_lst (dpa_cons dpe_int dpa_nil)) (dpa_cons (dpe_op dop_pow dpe_int dpe_int) (dpa_cons (dpe_un dun_neg (dpe_op dop_pow dpe_int dpe_int)) (dpa_cons dpe_str dpa_nil))))))))))))) (dpe_call (ok_law_spin T) (hr.mono (by decide)) (by rfl) T.m_law_spin T.F_law_spin.kp T.b_law_spin (dpa_cons (dpe_var 0) (dpa_cons dpe_int dpa_nil)))))
    (dpss_cons (dps_if (DPW.pt (dpw_and (dpt_cmp dop_lt (dpe_var 3) (dpe_callB dcall_len (by rfl) T.z_len boot_len (dpa_cons (dpe_var 1) dpa_nil))) (dpw_and1 (dpt_cmp (dop_eq hr.units) (dpe_call (ok_law_spin T) (hr.mono (by decide)) (by rfl) T.m_law_spin T.F_law_spin.kp T.b_law_spin (dpa_cons (dpe_var 0) (dpa_cons dpe_int dpa_nil))) dpe_int)))) (dpss_one (dps_ret (dpe_op dop_add (dpe_op dop_add (dpe_slice dsl (dpe_var 1) dpo_none (dpo_some (dpe_var 3))) (dpe_tup (dpa_cons (dpe_var 4) dpa_nil))) (dpe_slice dsl (dpe_var 1) (dpo_some (dpe_op dop_add (dpe_var 3) dpe_int)) dpo_none)))) dpss_nil)
    (dpss_one (dps_ret (dpe_op dop_add (dpe_op dop_add (dpe_slice dsl (dpe_var 1) dpo_none (dpo_some (dpe_var 3))) (dpe_tup (dpa_cons (dpe_var 4) dpa_nil))) (dpe_slice dsl (dpe_var 1) (dpo_some (dpe_var 3)) dpo_none)))))))
theorem ok_law_odd (T : Txt K mg) : FnD P w K mg base 2 T.f_law_odd T.fd_law_odd ["bowl", "pile", "high"] (a3 sp_law_odd) := FnD.mk T.F_law_odd sc_law_odd a3_len (dv_law_odd T) rd_law_odd_ok
theorem dv_law_judged (T : Txt K mg) : ∀ (cdv : Value) (A : Around) (outer : List Env) (s : Shared) (H : Hp) (E : XK), Room 7 (A.deeper (envOfC "_law_judged" (defScope s_law_judged) s.heap.objs.size T.f_law_judged cdv)) → DPSs (cxOf CX0 P w K mg base N_law_judged "_law_judged" (defScope s_law_judged) T.f_law_judged cdv A outer s H E).nox (defBody s_law_judged) rd_law_judged := by
    intro cdv A outer s H E hr
    unfold rd_law_judged
    exact (dpss_cons (dps_set 3 sc_law_judged.nd (dpe_call (ok_law_made T) (hr.mono (by decide)) (by rfl) T.m_law_made T.F_law_made.kp T.b_law_made (dpa_cons (dpe_var 0) (dpa_cons (dpe_call (ok_law_spin T) (hr.mono (by decide)) (by rfl) T.m_law_spin T.F_law_spin.kp T.b_law_spin (dpa_cons (dpe_var 0) (dpa_cons (dpe_var 1) dpa_nil))) (dpa_cons (dpe_var 2) dpa_nil)))))
    (dpss_cons (dps_set 4 sc_law_judged.nd (dpe_call (ok_law_made T) (hr.mono (by decide)) (by rfl) T.m_law_made T.F_law_made.kp T.b_law_made (dpa_cons (dpe_var 0) (dpa_cons (dpe_call (ok_law_spin T) (hr.mono (by decide)) (by rfl) T.m_law_spin T.F_law_spin.kp T.b_law_spin (dpa_cons (dpe_var 0) (dpa_cons (dpe_var 1) dpa_nil))) (dpa_cons (dpe_var 2) dpa_nil)))))
    (dpss_cons (dps_set 5 sc_law_judged.nd (dpe_tup (dpa_cons (dpe_var 3) (dpa_cons (dpe_var 4) (dpa_cons (dpe_op dop_add (dpe_var 3) (dpe_tup (dpa_cons (dpe_op dop_sub (dpe_var 2) dpe_int) dpa_nil))) (dpa_cons (dpe_tup dpa_nil) dpa_nil))))))
    (dpss_cons (dps_if (dpt_not (dpt_val (dpe_call (ok_law_like T) (hr.mono (by decide)) (by rfl) T.m_law_like T.F_law_like.kp T.b_law_like (dpa_cons (dpe_callTy dcall_tuple (by rfl) T.z_tuple boot_tuple (dpa_cons (dpe_lc (tg := (.nm 6)) (own := [("pile", 6)]) sc_law_judged.nd (dpi_tup (dpe_var 5)) (blkOk_by (own := [("pile", 6)]) (N := N_law_judged) (sc := defScope s_law_judged) (by decide +kernel)) (fun _ _ _ _ _ => dpg_name 6 sc_law_judged.nd) (fun _ _ _ _ _ => dpt_yes) (fun _ _ _ _ _ => (dpe_call (ok_is_pile T) (hr.mono (by decide)) (by rfl) T.m_is_pile T.F_is_pile.kp T.b_is_pile (dpa_cons (dpe_var 2) (dpa_cons (dpe_var 6) dpa_nil))))) dpa_nil)) (dpa_cons (dpe_tup (dpa_cons dpe_bl (dpa_cons dpe_bl (dpa_cons dpe_bl (dpa_cons dpe_bl dpa_nil))))) dpa_nil))))) (dpss_one (dps_ret dpe_bl)) dpss_nil)
    (dpss_cons (dps_if (dpt_not (dpt_val (dpe_call (ok_law_like T) (hr.mono (by decide)) (by rfl) T.m_law_like T.F_law_like.kp T.b_law_like (dpa_cons (dpe_tup (dpa_cons (dpe_call (ok_is_effect T) (hr.mono (by decide)) (by rfl) T.m_is_effect T.F_is_effect.kp T.b_is_effect (dpa_cons (dpe_var 2) (dpa_cons (dpe_tup (dpa_cons (dpe_var 3) (dpa_cons (dpe_var 4) dpa_nil))) dpa_nil))) (dpa_cons (dpe_call (ok_is_effect T) (hr.mono (by decide)) (by rfl) T.m_is_effect T.F_is_effect.kp T.b_is_effect (dpa_cons (dpe_var 2) (dpa_cons (dpe_tup (dpa_cons (dpe_tup dpa_nil) (dpa_cons (dpe_op dop_add (dpe_var 3) (dpe_tup (dpa_cons (dpe_op dop_sub (dpe_var 2) dpe_int) dpa_nil))) dpa_nil))) dpa_nil))) (dpa_cons (dpe_call (ok_is_effect T) (hr.mono (by decide)) (by rfl) T.m_is_effect T.F_is_effect.kp T.b_is_effect (dpa_cons dpe_int (dpa_cons (dpe_tup (dpa_cons (dpe_tup dpa_nil) (dpa_cons (dpe_tup dpa_nil) dpa_nil))) dpa_nil))) dpa_nil)))) (dpa_cons (dpe_tup (dpa_cons dpe_bl (dpa_cons dpe_bl (dpa_cons dpe_bl dpa_nil)))) dpa_nil))))) (dpss_one (dps_ret dpe_bl)) dpss_nil)
    (dpss_cons (dps_for (dpi_range1 (by rfl) T.z_range dpe_int) (dpg_tg (dpg_name 7 sc_law_judged.nd)) (dpss_cons (dps_set 8 sc_law_judged.nd (dpe_call (ok_law_odd T) (hr.mono (by decide)) (by rfl) T.m_law_odd T.F_law_odd.kp T.b_law_odd (dpa_cons (dpe_var 0) (dpa_cons (dpe_var 3) (dpa_cons (dpe_var 2) dpa_nil)))))
    (dpss_one (dps_if (dpt_not (dpt_val (dpe_call (ok_law_like T) (hr.mono (by decide)) (by rfl) T.m_law_like T.F_law_like.kp T.b_law_like (dpa_cons (dpe_tup (dpa_cons (dpe_call (ok_is_pile T) (hr.mono (by decide)) (by rfl) T.m_is_pile T.F_is_pile.kp T.b_is_pile (dpa_cons (dpe_var 2) (dpa_cons (dpe_var 8) dpa_nil))) (dpa_cons (dpe_call (ok_is_effect T) (hr.mono (by decide)) (by rfl) T.m_is_effect T.F_is_effect.kp T.b_is_effect (dpa_cons (dpe_var 2) (dpa_cons (dpe_tup (dpa_cons (dpe_var 8) (dpa_cons (dpe_var 4) dpa_nil))) dpa_nil))) (dpa_cons (dpe_call (ok_is_effect T) (hr.mono (by decide)) (by rfl) T.m_is_effect T.F_is_effect.kp T.b_is_effect (dpa_cons (dpe_var 2) (dpa_cons (dpe_tup (dpa_cons (dpe_var 4) (dpa_cons (dpe_var 8) dpa_nil))) dpa_nil))) (dpa_cons (dpe_call (ok_is_effect T) (hr.mono (by decide)) (by rfl) T.m_is_effect T.F_is_effect.kp T.b_is_effect (dpa_cons (dpe_var 2) (dpa_cons (dpe_tup (dpa_cons (dpe_var 8) (dpa_cons (dpe_var 8) dpa_nil))) dpa_nil))) dpa_nil))))) (dpa_cons (dpe_tup (dpa_cons dpe_bl (dpa_cons dpe_bl (dpa_cons dpe_bl (dpa_cons dpe_bl dpa_nil))))) dpa_nil))))) (dpss_one (dps_ret dpe_bl)) dpss_nil))))
    (dpss_cons (dps_set 9 sc_law_judged.nd (dpe_ix dix (dpe_tup (dpa_cons (dpe_tup (dpa_cons (dpe_var 3) (dpa_cons (dpe_var 4) dpa_nil))) (dpa_cons (dpe_callTy dcall_list (by rfl) T.z_list boot_list (dpa_cons (dpe_var 3) dpa_nil)) (dpa_cons dpe_non (dpa_cons dpe_str (dpa_cons dpe_str (dpa_cons dpe_int (dpa_cons dpe_bl (dpa_cons dpe_int (dpa_cons (dpe_lst dpa_nil) (dpa_cons (dpe_tup (dpa_cons (dpe_var 3) dpa_nil)) (dpa_cons (dpe_lst (dpa_cons (dpe_tup dpa_nil) dpa_nil)) dpa_nil)))))))))))) (dpe_call (ok_law_spin T) (hr.mono (by decide)) (by rfl) T.m_law_spin T.F_law_spin.kp T.b_law_spin (dpa_cons (dpe_var 0) (dpa_cons dpe_int dpa_nil)))))
    (dpss_cons (dps_if (dpt_not (dpt_val (dpe_call (ok_law_like T) (hr.mono (by decide)) (by rfl) T.m_law_like T.F_law_like.kp T.b_law_like (dpa_cons (dpe_tup (dpa_cons (dpe_call (ok_is_pile T) (hr.mono (by decide)) (by rfl) T.m_is_pile T.F_is_pile.kp T.b_is_pile (dpa_cons (dpe_var 2) (dpa_cons (dpe_var 9) dpa_nil))) (dpa_cons (dpe_call (ok_is_effect T) (hr.mono (by decide)) (by rfl) T.m_is_effect T.F_is_effect.kp T.b_is_effect (dpa_cons (dpe_var 2) (dpa_cons (dpe_tup (dpa_cons (dpe_var 3) (dpa_cons (dpe_var 9) dpa_nil))) dpa_nil))) (dpa_cons (dpe_call (ok_is_effect T) (hr.mono (by decide)) (by rfl) T.m_is_effect T.F_is_effect.kp T.b_is_effect (dpa_cons (dpe_var 2) (dpa_cons (dpe_tup (dpa_cons (dpe_var 9) (dpa_cons (dpe_var 4) dpa_nil))) dpa_nil))) dpa_nil)))) (dpa_cons (dpe_tup (dpa_cons dpe_bl (dpa_cons dpe_bl (dpa_cons dpe_bl dpa_nil)))) dpa_nil))))) (dpss_one (dps_ret dpe_bl)) dpss_nil)
    (dpss_cons (dps_set 10 sc_law_judged.nd (dpe_tup (dpa_cons (dpe_tup (dpa_cons (dpe_var 3) (dpa_cons (dpe_var 4) (dpa_cons (dpe_tup dpa_nil) dpa_nil)))) (dpa_cons (dpe_tup (dpa_cons (dpe_var 3) dpa_nil)) (dpa_cons (dpe_tup dpa_nil) (dpa_cons (dpe_lst (dpa_cons (dpe_var 3) (dpa_cons (dpe_var 4) dpa_nil))) (dpa_cons (dpe_op dop_add (dpe_op dop_add (dpe_var 3) (dpe_var 4)) (dpe_tup (dpa_cons dpe_int dpa_nil))) (dpa_cons dpe_non (dpa_cons dpe_str (dpa_cons (dpe_tup (dpa_cons (dpe_tup (dpa_cons (dpe_var 3) (dpa_cons (dpe_var 4) dpa_nil))) dpa_nil)) (dpa_cons (dpe_tup (dpa_cons (dpe_callTy dcall_list (by rfl) T.z_list boot_list (dpa_cons (dpe_var 3) dpa_nil)) (dpa_cons (dpe_var 4) dpa_nil))) (dpa_cons (dpe_tup (dpa_cons (dpe_var 3) (dpa_cons (dpe_callTy dcall_list (by rfl) T.z_list boot_list (dpa_cons (dpe_var 4) dpa_nil)) dpa_nil))) (dpa_cons (dpe_tup (dpa_cons (dpe_tup (dpa_cons (dpe_var 3) (dpa_cons (dpe_var 4) dpa_nil))) (dpa_cons (dpe_tup (dpa_cons (dpe_var 4) (dpa_cons (dpe_var 3) dpa_nil))) dpa_nil))) (dpa_cons dpe_int dpa_nil))))))))))))))
    (dpss_one (dps_ret (dpe_call (ok_law_like T) (hr.mono (by decide)) (by rfl) T.m_law_like T.F_law_like.kp T.b_law_like (dpa_cons (dpe_callTy dcall_tuple (by rfl) T.z_tuple boot_tuple (dpa_cons (dpe_lc (tg := (.nm 11)) (own := [("thing", 11)]) sc_law_judged.nd (dpi_tup (dpe_var 10)) (blkOk_by (own := [("thing", 11)]) (N := N_law_judged) (sc := defScope s_law_judged) (by decide +kernel)) (fun _ _ _ _ _ => dpg_name 11 sc_law_judged.nd) (fun _ _ _ _ _ => dpt_yes) (fun _ _ _ _ _ => (dpe_call (ok_is_effect T) (hr.mono (by decide)) (by rfl) T.m_is_effect T.F_is_effect.kp T.b_is_effect (dpa_cons (dpe_var 2) (dpa_cons (dpe_var 11) dpa_nil))))) dpa_nil)) (dpa_cons (dpe_op dop_mul (dpe_tup (dpa_cons dpe_bl dpa_nil)) dpe_int) dpa_nil))))))))))))))
theorem ok_law_judged (T : Txt K mg) : FnD P w K mg base 8 T.f_law_judged T.fd_law_judged ["bowl", "long", "high"] (a3 sp_law_judged) := FnD.mk T.F_law_judged sc_law_judged a3_len (dv_law_judged T) rd_law_judged_ok
theorem dv_law (T : Txt K mg) : ∀ (cdv : Value) (A : Around) (outer : List Env) (s : Shared) (H : Hp) (E : XK), Room 8 (A.deeper (envOfC "law" (defScope s_law) s.heap.objs.size T.f_law cdv)) → DPSs (cxOf CX0 P w K mg base N_law "law" (defScope s_law) T.f_law cdv A outer s H E).nox (defBody s_law) rd_law := by
    intro cdv A outer s H E hr
    unfold rd_law
    exact (dpss_cons (dps_set 1 sc_law.nd (dpe_call (ok_law_bowl T) (hr.mono (by decide)) (by rfl) T.m_law_bowl T.F_law_bowl.kp T.b_law_bowl (dpa_cons (dpe_var 0) dpa_nil)))
    (dpss_cons (dps_set 2 sc_law.nd dpe_int)
    (dpss_cons (dps_if (dpt_cmp (dop_eq hr.units) (dpe_call (ok_law_spin T) (hr.mono (by decide)) (by rfl) T.m_law_spin T.F_law_spin.kp T.b_law_spin (dpa_cons (dpe_var 1) (dpa_cons dpe_int dpa_nil))) dpe_int) (dpss_one (dps_set 2 sc_law.nd dpe_int)) dpss_nil)
    (dpss_cons (dps_set 3 sc_law.nd (dpe_op dop_add dpe_int (dpe_call (ok_law_spin T) (hr.mono (by decide)) (by rfl) T.m_law_spin T.F_law_spin.kp T.b_law_spin (dpa_cons (dpe_var 1) (dpa_cons dpe_int dpa_nil)))))
    (dpss_cons (dps_if (DPW.pt (dpw_or (dpt_not (dpt_val (dpe_call (ok_law_longers T) (hr.mono (by decide)) (by rfl) T.m_law_longers T.F_law_longers.kp T.b_law_longers (dpa_cons (dpe_var 1) (dpa_cons (dpe_var 2) (dpa_cons (dpe_var 3) dpa_nil)))))) (dpw_or1 (dpt_not (dpt_val (dpe_call (ok_law_ends T) (hr.mono (by decide)) (by rfl) T.m_law_ends T.F_law_ends.kp T.b_law_ends (dpa_cons (dpe_var 1) (dpa_cons (dpe_var 2) (dpa_cons (dpe_ix dix (dpe_tup (dpa_cons dpe_int (dpa_cons (dpe_var 3) dpa_nil))) (dpe_call (ok_law_spin T) (hr.mono (by decide)) (by rfl) T.m_law_spin T.F_law_spin.kp T.b_law_spin (dpa_cons (dpe_var 1) (dpa_cons dpe_int dpa_nil)))) dpa_nil))))))))) (dpss_one (dps_ret dpe_bl)) dpss_nil)
    (dpss_one (dps_ret (dpe_and (dpe_call (ok_law_judged T) (hr.mono (by decide)) (by rfl) T.m_law_judged T.F_law_judged.kp T.b_law_judged (dpa_cons (dpe_var 1) (dpa_cons (dpe_var 2) (dpa_cons (dpe_var 3) dpa_nil)))) (dpe_one (dpe_call (ok_law_like T) (hr.mono (by decide)) (by rfl) T.m_law_like T.F_law_like.kp T.b_law_like (dpa_cons (dpe_tup (dpa_cons (dpe_call (ok_is_pile T) (hr.mono (by decide)) (by rfl) T.m_is_pile T.F_is_pile.kp T.b_is_pile (dpa_cons dpe_int (dpa_cons (dpe_tup (dpa_cons dpe_int (dpa_cons dpe_int dpa_nil))) dpa_nil))) (dpa_cons (dpe_call (ok_is_pile T) (hr.mono (by decide)) (by rfl) T.m_is_pile T.F_is_pile.kp T.b_is_pile (dpa_cons dpe_int (dpa_cons (dpe_tup (dpa_cons dpe_int dpa_nil)) dpa_nil))) (dpa_cons (dpe_call (ok_is_effect T) (hr.mono (by decide)) (by rfl) T.m_is_effect T.F_is_effect.kp T.b_is_effect (dpa_cons dpe_int (dpa_cons (dpe_tup (dpa_cons (dpe_tup (dpa_cons dpe_int dpa_nil)) (dpa_cons (dpe_tup (dpa_cons dpe_int dpa_nil)) dpa_nil))) dpa_nil))) dpa_nil)))) (dpa_cons (dpe_tup (dpa_cons dpe_bl (dpa_cons dpe_bl (dpa_cons dpe_bl dpa_nil)))) dpa_nil))))))))))))
theorem ok_law (T : Txt K mg) : FnD P w K mg base 9 T.f_law T.fd_law ["script"] spTrue := FnD.mk T.F_law sc_law (fun ds S P h => by obtain ⟨ns, rfl, _⟩ := h; rfl) (dv_law T) rd_law_ok
end
theorem all_mk {l : PySem.W.OpenLaw} {w : World} {K : PySem.W.Frag} {h : Heap} {mg : Str → Option Value} {fa : Addr} (X : K.In h) (G : h.Ns mainGlobals mg) (hfa : mg "law" = some (.ref fa))
    {f0 : Addr} {od0 an0 : Option Addr} {sl0 : Array (Option Value)} {oc0 kV0 dc0 pm0 cd0 ct0 : Value}
    (a0 : PySem.W.nsIn K mainGlobals "is_extended" = some (some (.ref f0))) (l0 : K.lookup f0 = some ⟨oc0, od0, .func (PySem.W.fnOf "is_extended" "is_extended" (defArgs s_is_extended) (defBody s_is_extended) (defScope s_is_extended) .none kV0 dc0 pm0 an0 cd0 ct0), sl0⟩) (c0 : PySem.W.codeIn K cd0 "is_extended" = true) (k0 : PySem.W.keepIn K (.ref f0) = true)
    {f1 : Addr} {od1 an1 : Option Addr} {sl1 : Array (Option Value)} {oc1 kV1 dc1 pm1 cd1 ct1 : Value}
    (a1 : PySem.W.nsIn K mainGlobals "is_integer" = some (some (.ref f1))) (l1 : K.lookup f1 = some ⟨oc1, od1, .func (PySem.W.fnOf "is_integer" "is_integer" (defArgs s_is_integer) (defBody s_is_integer) (defScope s_is_integer) .none kV1 dc1 pm1 an1 cd1 ct1), sl1⟩) (c1 : PySem.W.codeIn K cd1 "is_integer" = true) (k1 : PySem.W.keepIn K (.ref f1) = true)
    {f2 : Addr} {od2 an2 : Option Addr} {sl2 : Array (Option Value)} {oc2 kV2 dc2 pm2 cd2 ct2 : Value}
    (a2 : PySem.W.nsIn K mainGlobals "integer_within" = some (some (.ref f2))) (l2 : K.lookup f2 = some ⟨oc2, od2, .func (PySem.W.fnOf "integer_within" "integer_within" (defArgs s_integer_within) (defBody s_integer_within) (defScope s_integer_within) .none kV2 dc2 pm2 an2 cd2 ct2), sl2⟩) (c2 : PySem.W.codeIn K cd2 "integer_within" = true) (k2 : PySem.W.keepIn K (.ref f2) = true)
    {f3 : Addr} {od3 an3 : Option Addr} {sl3 : Array (Option Value)} {oc3 kV3 dc3 pm3 cd3 ct3 : Value}
    (a3 : PySem.W.nsIn K mainGlobals "is_tuple" = some (some (.ref f3))) (l3 : K.lookup f3 = some ⟨oc3, od3, .func (PySem.W.fnOf "is_tuple" "is_tuple" (defArgs s_is_tuple) (defBody s_is_tuple) (defScope s_is_tuple) .none kV3 dc3 pm3 an3 cd3 ct3), sl3⟩) (c3 : PySem.W.codeIn K cd3 "is_tuple" = true) (k3 : PySem.W.keepIn K (.ref f3) = true)
    {f4 : Addr} {od4 an4 : Option Addr} {sl4 : Array (Option Value)} {oc4 kV4 dc4 pm4 cd4 ct4 : Value}
    (a4 : PySem.W.nsIn K mainGlobals "longer_of" = some (some (.ref f4))) (l4 : K.lookup f4 = some ⟨oc4, od4, .func (PySem.W.fnOf "longer_of" "longer_of" (defArgs s_longer_of) (defBody s_longer_of) (defScope s_longer_of) .none kV4 dc4 pm4 an4 cd4 ct4), sl4⟩) (c4 : PySem.W.codeIn K cd4 "longer_of" = true) (k4 : PySem.W.keepIn K (.ref f4) = true)
    {f5 : Addr} {od5 an5 : Option Addr} {sl5 : Array (Option Value)} {oc5 kV5 dc5 pm5 cd5 ct5 : Value}
    (a5 : PySem.W.nsIn K mainGlobals "common_end" = some (some (.ref f5))) (l5 : K.lookup f5 = some ⟨oc5, od5, .func (PySem.W.fnOf "common_end" "common_end" (defArgs s_common_end) (defBody s_common_end) (defScope s_common_end) .none kV5 dc5 pm5 an5 cd5 ct5), sl5⟩) (c5 : PySem.W.codeIn K cd5 "common_end" = true) (k5 : PySem.W.keepIn K (.ref f5) = true)
    {f6 : Addr} {od6 an6 : Option Addr} {sl6 : Array (Option Value)} {oc6 kV6 dc6 pm6 cd6 ct6 : Value}
    (a6 : PySem.W.nsIn K mainGlobals "undone" = some (some (.ref f6))) (l6 : K.lookup f6 = some ⟨oc6, od6, .func (PySem.W.fnOf "undone" "undone" (defArgs s_undone) (defBody s_undone) (defScope s_undone) .none kV6 dc6 pm6 an6 cd6 ct6), sl6⟩) (c6 : PySem.W.codeIn K cd6 "undone" = true) (k6 : PySem.W.keepIn K (.ref f6) = true)
    {f7 : Addr} {od7 an7 : Option Addr} {sl7 : Array (Option Value)} {oc7 kV7 dc7 pm7 cd7 ct7 : Value}
    (a7 : PySem.W.nsIn K mainGlobals "is_pile" = some (some (.ref f7))) (l7 : K.lookup f7 = some ⟨oc7, od7, .func (PySem.W.fnOf "is_pile" "is_pile" (defArgs s_is_pile) (defBody s_is_pile) (defScope s_is_pile) .none kV7 dc7 pm7 an7 cd7 ct7), sl7⟩) (c7 : PySem.W.codeIn K cd7 "is_pile" = true) (k7 : PySem.W.keepIn K (.ref f7) = true)
    {f8 : Addr} {od8 an8 : Option Addr} {sl8 : Array (Option Value)} {oc8 kV8 dc8 pm8 cd8 ct8 : Value}
    (a8 : PySem.W.nsIn K mainGlobals "is_effect" = some (some (.ref f8))) (l8 : K.lookup f8 = some ⟨oc8, od8, .func (PySem.W.fnOf "is_effect" "is_effect" (defArgs s_is_effect) (defBody s_is_effect) (defScope s_is_effect) .none kV8 dc8 pm8 an8 cd8 ct8), sl8⟩) (c8 : PySem.W.codeIn K cd8 "is_effect" = true) (k8 : PySem.W.keepIn K (.ref f8) = true)
    {f9 : Addr} {od9 an9 : Option Addr} {sl9 : Array (Option Value)} {oc9 kV9 dc9 pm9 cd9 ct9 : Value}
    (a9 : PySem.W.nsIn K mainGlobals "_law_like" = some (some (.ref f9))) (l9 : K.lookup f9 = some ⟨oc9, od9, .func (PySem.W.fnOf "_law_like" "_law_like" (defArgs s_law_like) (defBody s_law_like) (defScope s_law_like) .none kV9 dc9 pm9 an9 cd9 ct9), sl9⟩) (c9 : PySem.W.codeIn K cd9 "_law_like" = true) (k9 : PySem.W.keepIn K (.ref f9) = true)
    {f10 : Addr} {od10 an10 : Option Addr} {sl10 : Array (Option Value)} {oc10 kV10 dc10 pm10 cd10 ct10 : Value}
    (a10 : PySem.W.nsIn K mainGlobals "_law_bowl" = some (some (.ref f10))) (l10 : K.lookup f10 = some ⟨oc10, od10, .func (PySem.W.fnOf "_law_bowl" "_law_bowl" (defArgs s_law_bowl) (defBody s_law_bowl) (defScope s_law_bowl) .none kV10 dc10 pm10 an10 cd10 ct10), sl10⟩) (c10 : PySem.W.codeIn K cd10 "_law_bowl" = true) (k10 : PySem.W.keepIn K (.ref f10) = true)
    {f11 : Addr} {od11 an11 : Option Addr} {sl11 : Array (Option Value)} {oc11 kV11 dc11 pm11 cd11 ct11 : Value}
    (a11 : PySem.W.nsIn K mainGlobals "_law_spin" = some (some (.ref f11))) (l11 : K.lookup f11 = some ⟨oc11, od11, .func (PySem.W.fnOf "_law_spin" "_law_spin" (defArgs s_law_spin) (defBody s_law_spin) (defScope s_law_spin) .none kV11 dc11 pm11 an11 cd11 ct11), sl11⟩) (c11 : PySem.W.codeIn K cd11 "_law_spin" = true) (k11 : PySem.W.keepIn K (.ref f11) = true)
    {f12 : Addr} {od12 an12 : Option Addr} {sl12 : Array (Option Value)} {oc12 kV12 dc12 pm12 cd12 ct12 : Value}
    (a12 : PySem.W.nsIn K mainGlobals "_law_made" = some (some (.ref f12))) (l12 : K.lookup f12 = some ⟨oc12, od12, .func (PySem.W.fnOf "_law_made" "_law_made" (defArgs s_law_made) (defBody s_law_made) (defScope s_law_made) .none kV12 dc12 pm12 an12 cd12 ct12), sl12⟩) (c12 : PySem.W.codeIn K cd12 "_law_made" = true) (k12 : PySem.W.keepIn K (.ref f12) = true)
    {f13 : Addr} {od13 an13 : Option Addr} {sl13 : Array (Option Value)} {oc13 kV13 dc13 pm13 cd13 ct13 : Value}
    (a13 : PySem.W.nsIn K mainGlobals "_law_turned" = some (some (.ref f13))) (l13 : K.lookup f13 = some ⟨oc13, od13, .func (PySem.W.fnOf "_law_turned" "_law_turned" (defArgs s_law_turned) (defBody s_law_turned) (defScope s_law_turned) .none kV13 dc13 pm13 an13 cd13 ct13), sl13⟩) (c13 : PySem.W.codeIn K cd13 "_law_turned" = true) (k13 : PySem.W.keepIn K (.ref f13) = true)
    {f14 : Addr} {od14 an14 : Option Addr} {sl14 : Array (Option Value)} {oc14 kV14 dc14 pm14 cd14 ct14 : Value}
    (a14 : PySem.W.nsIn K mainGlobals "_law_longers" = some (some (.ref f14))) (l14 : K.lookup f14 = some ⟨oc14, od14, .func (PySem.W.fnOf "_law_longers" "_law_longers" (defArgs s_law_longers) (defBody s_law_longers) (defScope s_law_longers) .none kV14 dc14 pm14 an14 cd14 ct14), sl14⟩) (c14 : PySem.W.codeIn K cd14 "_law_longers" = true) (k14 : PySem.W.keepIn K (.ref f14) = true)
    {f15 : Addr} {od15 an15 : Option Addr} {sl15 : Array (Option Value)} {oc15 kV15 dc15 pm15 cd15 ct15 : Value}
    (a15 : PySem.W.nsIn K mainGlobals "_law_ends" = some (some (.ref f15))) (l15 : K.lookup f15 = some ⟨oc15, od15, .func (PySem.W.fnOf "_law_ends" "_law_ends" (defArgs s_law_ends) (defBody s_law_ends) (defScope s_law_ends) .none kV15 dc15 pm15 an15 cd15 ct15), sl15⟩) (c15 : PySem.W.codeIn K cd15 "_law_ends" = true) (k15 : PySem.W.keepIn K (.ref f15) = true)
    {f16 : Addr} {od16 an16 : Option Addr} {sl16 : Array (Option Value)} {oc16 kV16 dc16 pm16 cd16 ct16 : Value}
    (a16 : PySem.W.nsIn K mainGlobals "_law_odd" = some (some (.ref f16))) (l16 : K.lookup f16 = some ⟨oc16, od16, .func (PySem.W.fnOf "_law_odd" "_law_odd" (defArgs s_law_odd) (defBody s_law_odd) (defScope s_law_odd) .none kV16 dc16 pm16 an16 cd16 ct16), sl16⟩) (c16 : PySem.W.codeIn K cd16 "_law_odd" = true) (k16 : PySem.W.keepIn K (.ref f16) = true)
    {f17 : Addr} {od17 an17 : Option Addr} {sl17 : Array (Option Value)} {oc17 kV17 dc17 pm17 cd17 ct17 : Value}
    (a17 : PySem.W.nsIn K mainGlobals "_law_judged" = some (some (.ref f17))) (l17 : K.lookup f17 = some ⟨oc17, od17, .func (PySem.W.fnOf "_law_judged" "_law_judged" (defArgs s_law_judged) (defBody s_law_judged) (defScope s_law_judged) .none kV17 dc17 pm17 an17 cd17 ct17), sl17⟩) (c17 : PySem.W.codeIn K cd17 "_law_judged" = true) (k17 : PySem.W.keepIn K (.ref f17) = true)
    {f18 : Addr} {od18 an18 : Option Addr} {sl18 : Array (Option Value)} {oc18 kV18 dc18 pm18 cd18 ct18 : Value}
    (a18 : PySem.W.nsIn K mainGlobals "law" = some (some (.ref f18))) (l18 : K.lookup f18 = some ⟨oc18, od18, .func (PySem.W.fnOf "law" "law" (defArgs s_law) (defBody s_law) (defScope s_law) .none kV18 dc18 pm18 an18 cd18 ct18), sl18⟩) (c18 : PySem.W.codeIn K cd18 "law" = true) (k18 : PySem.W.keepIn K (.ref f18) = true)
    (z_abs : PySem.W.nsIn K mainGlobals "abs" = some none)    (z_all : PySem.W.nsIn K mainGlobals "all" = some none)    (z_bool : PySem.W.nsIn K mainGlobals "bool" = some none)    (z_int : PySem.W.nsIn K mainGlobals "int" = some none)    (z_isinstance : PySem.W.nsIn K mainGlobals "isinstance" = some none)    (z_len : PySem.W.nsIn K mainGlobals "len" = some none)    (z_list : PySem.W.nsIn K mainGlobals "list" = some none)    (z_min : PySem.W.nsIn K mainGlobals "min" = some none)    (z_range : PySem.W.nsIn K mainGlobals "range" = some none)    (z_tuple : PySem.W.nsIn K mainGlobals "tuple" = some none) :
    ∃ fd : FuncData, (∀ (s : Shared) (v : Value), BindsTo s fd ⟨[v], []⟩ [("script", v)]) ∧ ∀ base : Heap, K.In base → base.Ns mainGlobals mg → FnOk l.prog w K mg base CX0 9 fa fd ["script"] (spLaw K) := by
  have e := hfa.symm.trans (PySem.W.mg_of X G a18)
  cases e
  have F0 := fun_mk (st := s_is_extended) l0 c0 k0
  have b0 := F0.binds (ps := ["one", "other"]) fun _ _ _ _ _ _  us hl => match us, hl with | [_, _], _ => rfl
  have F1 := fun_mk (st := s_is_integer) l1 c1 k1
  have b1 := F1.binds (ps := ["thing"]) fun _ _ _ _ _ _  us hl => match us, hl with | [_], _ => rfl
  have F2 := fun_mk (st := s_integer_within) l2 c2 k2
  have b2 := F2.binds (ps := ["thing", "low", "high"]) fun _ _ _ _ _ _  us hl => match us, hl with | [_, _, _], _ => rfl
  have F3 := fun_mk (st := s_is_tuple) l3 c3 k3
  have b3 := F3.binds (ps := ["thing", "many"]) fun _ _ _ _ _ _  us hl => match us, hl with | [_, _], _ => rfl
  have F4 := fun_mk (st := s_longer_of) l4 c4 k4
  have b4 := F4.binds (ps := ["one", "other"]) fun _ _ _ _ _ _  us hl => match us, hl with | [_, _], _ => rfl
  have F5 := fun_mk (st := s_common_end) l5 c5 k5
  have b5 := F5.binds (ps := ["one", "other"]) fun _ _ _ _ _ _  us hl => match us, hl with | [_, _], _ => rfl
  have F6 := fun_mk (st := s_undone) l6 c6 k6
  have b6 := F6.binds (ps := ["effect"]) fun _ _ _ _ _ _  us hl => match us, hl with | [_], _ => rfl
  have F7 := fun_mk (st := s_is_pile) l7 c7 k7
  have b7 := F7.binds (ps := ["kinds", "thing"]) fun _ _ _ _ _ _  us hl => match us, hl with | [_, _], _ => rfl
  have F8 := fun_mk (st := s_is_effect) l8 c8 k8
  have b8 := F8.binds (ps := ["kinds", "thing"]) fun _ _ _ _ _ _  us hl => match us, hl with | [_, _], _ => rfl
  have F9 := fun_mk (st := s_law_like) l9 c9 k9
  have b9 := F9.binds (ps := ["told", "due"]) fun _ _ _ _ _ _  us hl => match us, hl with | [_, _], _ => rfl
  have F10 := fun_mk (st := s_law_bowl) l10 c10 k10
  have b10 := F10.binds (ps := ["script"]) fun _ _ _ _ _ _  us hl => match us, hl with | [_], _ => rfl
  have F11 := fun_mk (st := s_law_spin) l11 c11 k11
  have b11 := F11.binds (ps := ["bowl", "many"]) fun _ _ _ _ _ _  us hl => match us, hl with | [_, _], _ => rfl
  have F12 := fun_mk (st := s_law_made) l12 c12 k12
  have b12 := F12.binds (ps := ["bowl", "long", "high"]) fun _ _ _ _ _ _  us hl => match us, hl with | [_, _, _], _ => rfl
  have F13 := fun_mk (st := s_law_turned) l13 c13 k13
  have b13 := F13.binds (ps := ["bowl", "pile", "at", "high"]) fun _ _ _ _ _ _  us hl => match us, hl with | [_, _, _, _], _ => rfl
  have F14 := fun_mk (st := s_law_longers) l14 c14 k14
  have b14 := F14.binds (ps := ["bowl", "long", "high"]) fun _ _ _ _ _ _  us hl => match us, hl with | [_, _, _], _ => rfl
  have F15 := fun_mk (st := s_law_ends) l15 c15 k15
  have b15 := F15.binds (ps := ["bowl", "long", "high"]) fun _ _ _ _ _ _  us hl => match us, hl with | [_, _, _], _ => rfl
  have F16 := fun_mk (st := s_law_odd) l16 c16 k16
  have b16 := F16.binds (ps := ["bowl", "pile", "high"]) fun _ _ _ _ _ _  us hl => match us, hl with | [_, _, _], _ => rfl
  have F17 := fun_mk (st := s_law_judged) l17 c17 k17
  have b17 := F17.binds (ps := ["bowl", "long", "high"]) fun _ _ _ _ _ _  us hl => match us, hl with | [_, _, _], _ => rfl
  have F18 := fun_mk (st := s_law) l18 c18 k18
  have b18 := F18.binds (ps := ["script"]) fun _ _ _ _ _ _  us hl => match us, hl with | [_], _ => rfl
  have T : Txt K mg := ⟨f0, _, F0, PySem.W.mg_of X G a0, b0, f1, _, F1, PySem.W.mg_of X G a1, b1, f2, _, F2, PySem.W.mg_of X G a2, b2, f3, _, F3, PySem.W.mg_of X G a3, b3, f4, _, F4, PySem.W.mg_of X G a4, b4, f5, _, F5, PySem.W.mg_of X G a5, b5, f6, _, F6, PySem.W.mg_of X G a6, b6, f7, _, F7, PySem.W.mg_of X G a7, b7, f8, _, F8, PySem.W.mg_of X G a8, b8, f9, _, F9, PySem.W.mg_of X G a9, b9, f10, _, F10, PySem.W.mg_of X G a10, b10, f11, _, F11, PySem.W.mg_of X G a11, b11, f12, _, F12, PySem.W.mg_of X G a12, b12, f13, _, F13, PySem.W.mg_of X G a13, b13, f14, _, F14, PySem.W.mg_of X G a14, b14, f15, _, F15, PySem.W.mg_of X G a15, b15, f16, _, F16, PySem.W.mg_of X G a16, b16, f17, _, F17, PySem.W.mg_of X G a17, b17, fa, _, F18, PySem.W.mg_of X G a18, b18, PySem.W.mg_none_of X G z_abs, PySem.W.mg_none_of X G z_all, PySem.W.mg_none_of X G z_bool, PySem.W.mg_none_of X G z_int, PySem.W.mg_none_of X G z_isinstance, PySem.W.mg_none_of X G z_len, PySem.W.mg_none_of X G z_list, PySem.W.mg_none_of X G z_min, PySem.W.mg_none_of X G z_range, PySem.W.mg_none_of X G z_tuple⟩
  exact ⟨_, fun s v => .of_eq rfl, fun base _ _ => (ok_law (base := base) (P := l.prog) (w := w) ⟨f0, _, F0, PySem.W.mg_of X G a0, b0, f1, _, F1, PySem.W.mg_of X G a1, b1, f2, _, F2, PySem.W.mg_of X G a2, b2, f3, _, F3, PySem.W.mg_of X G a3, b3, f4, _, F4, PySem.W.mg_of X G a4, b4, f5, _, F5, PySem.W.mg_of X G a5, b5, f6, _, F6, PySem.W.mg_of X G a6, b6, f7, _, F7, PySem.W.mg_of X G a7, b7, f8, _, F8, PySem.W.mg_of X G a8, b8, f9, _, F9, PySem.W.mg_of X G a9, b9, f10, _, F10, PySem.W.mg_of X G a10, b10, f11, _, F11, PySem.W.mg_of X G a11, b11, f12, _, F12, PySem.W.mg_of X G a12, b12, f13, _, F13, PySem.W.mg_of X G a13, b13, f14, _, F14, PySem.W.mg_of X G a14, b14, f15, _, F15, PySem.W.mg_of X G a15, b15, f16, _, F16, PySem.W.mg_of X G a16, b16, f17, _, F17, PySem.W.mg_of X G a17, b17, fa, _, F18, PySem.W.mg_of X G a18, b18, PySem.W.mg_none_of X G z_abs, PySem.W.mg_none_of X G z_all, PySem.W.mg_none_of X G z_bool, PySem.W.mg_none_of X G z_int, PySem.W.mg_none_of X G z_isinstance, PySem.W.mg_none_of X G z_len, PySem.W.mg_none_of X G z_list, PySem.W.mg_none_of X G z_min, PySem.W.mg_none_of X G z_range, PySem.W.mg_none_of X G z_tuple⟩).law⟩
theorem walk {l : PySem.W.OpenLaw} {q : Program} {loose : List Str} {XP : (Str → Option Value) → Heap → Prop} {YP : World → Heap → Prop} {d : DefRec} {K : Params → PySem.W.Frag} (hn : l.most = some 63) (hdf : d.params.defaults = [])
    (hY : ∀ (w : World) (h : Heap), YP w h → (K w.params).In h)
    (F : ∀ (w : World) (mg : Str → Option Value) (fa : Addr) (h : Heap), (K w.params).In h → h.Ns mainGlobals mg → mg d.name = some (.ref fa) →
      ∃ fd : FuncData, (∀ (s : Shared) (u : Value), BindsTo s fd ⟨[u], []⟩ [("script", u)]) ∧ ∀ base : Heap, (K w.params).In base → base.Ns mainGlobals mg → FnOk l.prog w (K w.params) mg base CX0 9 fa fd ["script"] (spLaw (K w.params))) :
    PySem.W.WalkO q loose XP YP l.row.toRowW d [] (fun f vs => PySem.call f vs) :=
  L2.walk_of (n := 63) (k := 9) (x := "script") (CX := fun _ => CX0) (sp := fun w => spLaw (K w.params)) hn (by decide) hdf ⟨rfl, by decide, by decide⟩ hY F (fun _ _ a ns hl _ hS => ⟨a, ns, rfl, hS, hl, fun _ => rfl⟩) fun _ _ _ _ _ z => z
end L3

open PySem PySem.W PyProof.Rows in
set_option maxRecDepth 100000 in
set_option maxHeartbeats 0 in
theorem PySem.Challenge.cw_pilesfit_k02_effect_looks_holds : PySem.Challenge.rw_pilesfit_k02_effect_looks.Holds := by
  w_on; o_law; k_head; (case hw => w_witness2)
  k_fill
  refine L3.walk (l := PySem.Challenge.rw_pilesfit_k02_effect_looks) rfl rfl (fun w h Y => PySem.W.kIn_of Y) ?F
  case F =>
    intro w mg fa h KX G hmg
    refine' L3.all_mk KX G hmg ?a0 ?l0 ?c0 ?k0 ?a1 ?l1 ?c1 ?k1 ?a2 ?l2 ?c2 ?k2 ?a3 ?l3 ?c3 ?k3 ?a4 ?l4 ?c4 ?k4 ?a5 ?l5 ?c5 ?k5 ?a6 ?l6 ?c6 ?k6 ?a7 ?l7 ?c7 ?k7 ?a8 ?l8 ?c8 ?k8 ?a9 ?l9 ?c9 ?k9 ?a10 ?l10 ?c10 ?k10 ?a11 ?l11 ?c11 ?k11 ?a12 ?l12 ?c12 ?k12 ?a13 ?l13 ?c13 ?k13 ?a14 ?l14 ?c14 ?k14 ?a15 ?l15 ?c15 ?k15 ?a16 ?l16 ?c16 ?k16 ?a17 ?l17 ?c17 ?k17 ?a18 ?l18 ?c18 ?k18 ?z_abs ?z_all ?z_bool ?z_int ?z_isinstance ?z_len ?z_list ?z_min ?z_range ?z_tuple
    (case a0 => k_is)
    (case l0 => k_is)
    (case c0 => k_is)
    (case k0 => k_is)
    (case a1 => k_is)
    (case l1 => k_is)
    (case c1 => k_is)
    (case k1 => k_is)
    (case a2 => k_is)
    (case l2 => k_is)
    (case c2 => k_is)
    (case k2 => k_is)
    (case a3 => k_is)
    (case l3 => k_is)
    (case c3 => k_is)
    (case k3 => k_is)
    (case a4 => k_is)
    (case l4 => k_is)
    (case c4 => k_is)
    (case k4 => k_is)
    (case a5 => k_is)
    (case l5 => k_is)
    (case c5 => k_is)
    (case k5 => k_is)
    (case a6 => k_is)
    (case l6 => k_is)
    (case c6 => k_is)
    (case k6 => k_is)
    (case a7 => k_is)
    (case l7 => k_is)
    (case c7 => k_is)
    (case k7 => k_is)
    (case a8 => k_is)
    (case l8 => k_is)
    (case c8 => k_is)
    (case k8 => k_is)
    (case a9 => k_is)
    (case l9 => k_is)
    (case c9 => k_is)
    (case k9 => k_is)
    (case a10 => k_is)
    (case l10 => k_is)
    (case c10 => k_is)
    (case k10 => k_is)
    (case a11 => k_is)
    (case l11 => k_is)
    (case c11 => k_is)
    (case k11 => k_is)
    (case a12 => k_is)
    (case l12 => k_is)
    (case c12 => k_is)
    (case k12 => k_is)
    (case a13 => k_is)
    (case l13 => k_is)
    (case c13 => k_is)
    (case k13 => k_is)
    (case a14 => k_is)
    (case l14 => k_is)
    (case c14 => k_is)
    (case k14 => k_is)
    (case a15 => k_is)
    (case l15 => k_is)
    (case c15 => k_is)
    (case k15 => k_is)
    (case a16 => k_is)
    (case l16 => k_is)
    (case c16 => k_is)
    (case k16 => k_is)
    (case a17 => k_is)
    (case l17 => k_is)
    (case c17 => k_is)
    (case k17 => k_is)
    (case a18 => k_is)
    (case l18 => k_is)
    (case c18 => k_is)
    (case k18 => k_is)
    (case z_abs => k_is)
    (case z_all => k_is)
    (case z_bool => k_is)
    (case z_int => k_is)
    (case z_isinstance => k_is)
    (case z_len => k_is)
    (case z_list => k_is)
    (case z_min => k_is)
    (case z_range => k_is)
    (case z_tuple => k_is)
