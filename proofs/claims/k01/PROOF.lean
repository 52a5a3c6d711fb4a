import PyProof.Rows.All
import Wide.All
import OpenK.AllK
import Wide.FinOn
import HandS.ForMost
import HandS.TupAny
import HandS.IsInst
import HandS.Conv
import HandS.Wide
import HandS.TupMul
import HandS.WordsDict
import HandS.Walk
import HandS.Flow
import HandS.Exc
import HandS.ExcInit
import HandS.ExcField
import HandS.ExcOwn
import HandS.WordsExc
import HandS.Style
import PySem.Challenge.RW_pilesfit_k01_effect_joins
set_option Elab.async false
set_option maxRecDepth 100000
set_option linter.all false
/-! A layer of plain data over the hand layer: values are trees, only what is mutable stands in a store. -/
namespace L3
open PySem L2

/-- plain data; ref: a handle of a mutable object -/
inductive D where
  | non | bl (b : Bool) | int (i : Int) | str (x : Str)
  | tup (ds : List D) | lst (ds : List D) | ro (ds : List D) | ref (a : Addr) | ty (n : String)

/-- a mutable object -/
inductive SO where
  | lst (ds : List D)
  | dK (kvs : List (Key × D))
  | ins (C : Addr) (fs : List (Str × D))
abbrev Sto := Addr → Option SO
def sup (S : Sto) (a : Addr) (o : SO) : Sto := fun b => if b = a then some o else S b
theorem sup_same {S : Sto} {a : Addr} {o : SO} : sup S a o a = some o := by unfold sup; rw [if_pos rfl]
theorem sup_ne {S : Sto} {a b : Addr} {o : SO} (h : b ≠ a) : sup S a o b = S b := by unfold sup; rw [if_neg h]
theorem sup_sup {S : Sto} {a : Addr} {o u : SO} : sup (sup S a o) a u = sup S a u := by
  funext b; unfold sup; split <;> rfl
/-- the part of the heap that never changes: neither in the store nor hidden -/
def fz (F : Addr → Bool) (S : Sto) (H : Hp) : Hp := fun a => match F a, S a with | false, none => H a | _, _ => none
theorem fz_some {F : Addr → Bool} {S : Sto} {H : Hp} {a : Addr} {o : SO} (h : S a = some o) : fz F S H a = none := by
  unfold fz; rw [h]; cases F a <;> rfl
theorem fz_hid {F : Addr → Bool} {S : Sto} {H : Hp} {a : Addr} (h : F a = true) : fz F S H a = none := by
  unfold fz; rw [h]
theorem fz_none {F : Addr → Bool} {S : Sto} {H : Hp} {a : Addr} (f : F a = false) (h : S a = none) : fz F S H a = H a := by unfold fz; rw [h, f]
theorem fz_of {F : Addr → Bool} {S : Sto} {H : Hp} {a : Addr} {o : HO} (h : fz F S H a = some o) : F a = false ∧ S a = none ∧ H a = some o := by
  unfold fz at h
  cases f : F a with
  | true => rw [f] at h; cases h
  | false =>
    cases e : S a with
    | none => rw [f, e] at h; exact ⟨rfl, rfl, h⟩
    | some u => rw [f, e] at h; cases h
theorem fz_same (F : Addr → Bool) (S : Sto) (H : Hp) : Same (fz F S H) H := fun _ _ h => (fz_of h).2.2

mutual
inductive Rel (K : PySem.W.Frag) (G : Hp) : V → D → Prop
  | non : Rel K G .non .non
  | bl (b : Bool) : Rel K G (.bl b) (.bl b)
  | int (i : Int) : Rel K G (.int i) (.int i)
  | str (x : Str) : Rel K G (.str x) (.str x)
  | ref (a : Addr) : Rel K G (.ref a) (.ref a)
  | ty (n : String) : Rel K G (.ty n) (.ty n)
  | tup {a : Addr} {xs : List V} {ds : List D} : SqT K G a xs → RelL K G xs ds → Rel K G (.ref a) (.tup ds)
  | lst {a : Addr} {xs : List V} {ds : List D} : G a = some (.lst xs) → RelL K G xs ds → Rel K G (.ref a) (.lst ds)
  | ro {a : Addr} {xs : List V} {ds : List D} : SqL K G a xs → RelL K G xs ds → Rel K G (.ref a) (.ro ds)
inductive RelL (K : PySem.W.Frag) (G : Hp) : List V → List D → Prop
  | nil : RelL K G [] []
  | cons {v : V} {vs : List V} {d : D} {ds : List D} : Rel K G v d → RelL K G vs ds → RelL K G (v :: vs) (d :: ds)
end
theorem sqT_mono {K : PySem.W.Frag} {H H' : Hp} {a : Addr} {xs : List V} (e : Same H H') (h : SqT K H a xs) : SqT K H' a xs := by
  rcases h with (h | ⟨o, h⟩) | h
  · exact .inl (.inl (e _ _ h))
  · exact .inl (.inr ⟨o, e _ _ h⟩)
  · exact .inr h
section
variable {K : PySem.W.Frag} {G G' : Hp}
mutual
theorem Rel.mono (e : Same G G') : ∀ {v : V} {d : D}, Rel K G v d → Rel K G' v d
  | _, _, .non => .non
  | _, _, .bl b => .bl b
  | _, _, .int b => .int b
  | _, _, .str b => .str b
  | _, _, .ref b => .ref b
  | _, _, .ty b => .ty b
  | _, _, .tup h r => .tup (sqT_mono e h) (RelL.mono e r)
  | _, _, .lst h r => .lst (e _ _ h) (RelL.mono e r)
  | _, _, .ro h r => .ro (e.seq h) (RelL.mono e r)
theorem RelL.mono (e : Same G G') : ∀ {vs : List V} {ds : List D}, RelL K G vs ds → RelL K G' vs ds
  | _, _, .nil => .nil
  | _, _, .cons h r => .cons (Rel.mono e h) (RelL.mono e r)
end
theorem RelL.length : ∀ {vs : List V} {ds : List D}, RelL K G vs ds → vs.length = ds.length
  | _, _, .nil => rfl
  | _, _, .cons _ r => by simp [RelL.length r]
theorem RelL.append : ∀ {xs ys : List V} {ds es : List D}, RelL K G xs ds → RelL K G ys es → RelL K G (xs ++ ys) (ds ++ es)
  | _, _, _, _, .nil, s => s
  | _, _, _, _, .cons r t, s => .cons r (RelL.append t s)
theorem RelL.get : ∀ {xs : List V} {ds : List D} {i : Nat} {d : D}, RelL K G xs ds → ds[i]? = some d → ∃ v, xs[i]? = some v ∧ Rel K G v d
  | _, _, _, _, .nil, e => by simp at e
  | _, _, 0, _, .cons r _, e => by simp at e; subst e; exact ⟨_, rfl, r⟩
  | _, _, i + 1, _, .cons _ t, e => by
    obtain ⟨v, h1, h2⟩ := RelL.get (i := i) t (by simpa using e)
    exact ⟨v, by simpa using h1, h2⟩
theorem RelL.get' : ∀ {xs : List V} {ds : List D} {i : Nat} {v : V}, RelL K G xs ds → xs[i]? = some v → ∃ d, ds[i]? = some d ∧ Rel K G v d
  | _, _, _, _, .nil, e => by simp at e
  | _, _, 0, _, .cons r _, e => by simp at e; subst e; exact ⟨_, rfl, r⟩
  | _, _, i + 1, _, .cons _ t, e => by
    obtain ⟨v, h1, h2⟩ := RelL.get' (i := i) t (by simpa using e)
    exact ⟨v, by simpa using h1, h2⟩
theorem RelL.set {v : V} {d : D} (h : Rel K G v d) : ∀ {xs : List V} {ds : List D} (i : Nat), RelL K G xs ds → RelL K G (xs.set i v) (ds.set i d)
  | _, _, _, .nil => .nil
  | _, _, 0, .cons _ t => .cons h t
  | _, _, i + 1, .cons q t => .cons q (RelL.set h i t)
theorem RelL.take : ∀ {xs : List V} {ds : List D} (n : Nat), RelL K G xs ds → RelL K G (xs.take n) (ds.take n)
  | _, _, 0, _ => .nil
  | _, _, _ + 1, .nil => .nil
  | _, _, n + 1, .cons r t => .cons r (RelL.take n t)
theorem RelL.drop : ∀ {xs : List V} {ds : List D} (n : Nat), RelL K G xs ds → RelL K G (xs.drop n) (ds.drop n)
  | _, _, 0, r => r
  | _, _, _ + 1, .nil => .nil
  | _, _, n + 1, .cons _ t => RelL.drop n t
theorem RelL.reverse : ∀ {xs : List V} {ds : List D}, RelL K G xs ds → RelL K G xs.reverse ds.reverse
  | _, _, .nil => .nil
  | _, _, .cons r t => by
    rw [List.reverse_cons, List.reverse_cons]
    exact (RelL.reverse t).append (.cons r .nil)
theorem RelL.ints : ∀ {xs : List V} {ns : List Int}, RelL K G xs (ns.map D.int) → xs = ns.map V.int
  | _, [], h => by cases h; rfl
  | _, n :: ns, h => by
    cases h with
    | cons r t => cases r; rw [RelL.ints t]; rfl
theorem RelL.bls : ∀ {xs : List V} {ns : List Bool}, RelL K G xs (ns.map D.bl) → xs = ns.map V.bl
  | _, [], h => by cases h; rfl
  | _, n :: ns, h => by
    cases h with
    | cons r t => cases r; rw [RelL.bls t]; rfl
theorem RelL.strs : ∀ {xs : List V} {ns : List Str}, RelL K G xs (ns.map D.str) → xs = ns.map V.str
  | _, [], h => by cases h; rfl
  | _, n :: ns, h => by
    cases h with
    | cons r t => cases r; rw [RelL.strs t]; rfl
theorem RelL.ofInts : ∀ (ns : List Int), RelL K G (ns.map V.int) (ns.map D.int)
  | [] => .nil
  | n :: ns => .cons (.int n) (RelL.ofInts ns)
end

/-- fields, entries -/
inductive RelF (K : PySem.W.Frag) (G : Hp) {κ : Type} : List (κ × V) → List (κ × D) → Prop
  | nil : RelF K G [] []
  | cons {k : κ} {v : V} {vs : List (κ × V)} {d : D} {ds : List (κ × D)} : Rel K G v d → RelF K G vs ds → RelF K G ((k, v) :: vs) ((k, d) :: ds)
section
variable {K : PySem.W.Frag} {G G' : Hp} {κ : Type}
theorem RelF.mono (e : Same G G') : ∀ {vs : List (κ × V)} {ds : List (κ × D)}, RelF K G vs ds → RelF K G' vs ds
  | _, _, .nil => .nil
  | _, _, .cons h r => .cons (h.mono e) (RelF.mono e r)
end
def SOk (K : PySem.W.Frag) (G : Hp) (o : Option HO) : SO → Prop
  | .lst ds => ∃ vs, o = some (.lst vs) ∧ RelL K G vs ds
  | .dK kvs => ∃ vs, o = some (.dK vs) ∧ RelF K G vs kvs
  | .ins C fs => ∃ dx vs, o = some (.ins C dx vs) ∧ RelF K G vs fs
theorem SOk.mono {K : PySem.W.Frag} {G G' : Hp} {o : Option HO} (e : Same G G') {u : SO} (h : SOk K G o u) : SOk K G' o u := by
  cases u with
  | lst ds => obtain ⟨vs, e1, r⟩ := h; exact ⟨vs, e1, r.mono e⟩
  | dK ds => obtain ⟨vs, e1, r⟩ := h; exact ⟨vs, e1, r.mono e⟩
  | ins C ds => obtain ⟨dx, vs, e1, r⟩ := h; exact ⟨dx, vs, e1, r.mono e⟩
theorem SOk.some {K : PySem.W.Frag} {G : Hp} {o : Option HO} {u : SO} (h : SOk K G o u) : ∃ x, o = some x := by
  cases u with
  | lst ds => obtain ⟨vs, e1, r⟩ := h; exact ⟨_, e1⟩
  | dK ds => obtain ⟨vs, e1, r⟩ := h; exact ⟨_, e1⟩
  | ins C ds => obtain ⟨dx, vs, e1, r⟩ := h; exact ⟨_, e1⟩
/-- the store and the hidden objects stand in the heap -/
structure SimB (K : PySem.W.Frag) (F : Addr → Bool) (S : Sto) (H : Hp) : Prop where
  at_ : ∀ a o, S a = some o → F a = false ∧ SOk K (fz F S H) (H a) o
  hid : ∀ a, F a = true → ∃ o, H a = some o
/-- from one state to a later one -/
structure GoB (K : PySem.W.Frag) (F : Addr → Bool) (S : Sto) (H : Hp) (S' : Sto) (H' : Hp) : Prop where
  same : Same (fz F S H) (fz F S' H')
  hid : ∀ a, F a = true → H' a = H a
  sim : SimB K F S' H'
section
variable {K : PySem.W.Frag} {F : Addr → Bool} {S S1 S2 : Sto} {H H1 H2 : Hp} {p a : Addr} {o : HO} {u u' : SO}
theorem GoB.refl (s : SimB K F S H) : GoB K F S H S H := ⟨Same.refl _, fun _ _ => rfl, s⟩
theorem GoB.trans (g : GoB K F S H S1 H1) (g' : GoB K F S1 H1 S2 H2) : GoB K F S H S2 H2 := ⟨g.same.trans g'.same, fun a h => (g'.hid a h).trans (g.hid a h), g'.sim⟩
theorem SimB.none (s : SimB K F S H) (h : H p = none) : F p = false ∧ S p = Option.none := by
  constructor
  · cases e : F p with
    | false => rfl
    | true =>
      obtain ⟨x, q⟩ := s.hid p e
      rw [h] at q; cases q
  · cases e : S p with
    | none => rfl
    | some u =>
      obtain ⟨x, q⟩ := (s.at_ p u e).2.some
      rw [h] at q; cases q
theorem same_new (h : H p = none) : Same (fz F S H) (fz F S (upd H p o)) := fun b x e => by
  obtain ⟨h0, h1, h2⟩ := fz_of e
  rw [fz_none h0 h1, upd_ne (ne_of_none h2 h)]
  exact h2
/-- a new object that never changes -/
theorem SimB.new (s : SimB K F S H) (h : H p = Option.none) : GoB K F S H S (upd H p o) := by
  refine ⟨same_new h, fun a f => ?_, fun a u e => ?_, fun a f => ?_⟩
  · rw [upd_ne (fun z => by subst z; rw [(s.none h).1] at f; cases f)]
  · have np : a ≠ p := fun z => by subst z; rw [(s.none h).2] at e; cases e
    rw [upd_ne np]
    exact ⟨(s.at_ a u e).1, (s.at_ a u e).2.mono (same_new h)⟩
  · obtain ⟨x, q⟩ := s.hid a f
    exact ⟨x, by rw [upd_ne (ne_of_none q h)]; exact q⟩
theorem fz_newB (s : SimB K F S H) (h : H p = Option.none) : fz F S (upd H p o) p = some o := by
  rw [fz_none (s.none h).1 (s.none h).2, upd_same]
theorem same_newM (h : H p = Option.none) : Same (fz F S H) (fz F (sup S p u) (upd H p o)) := fun b x e => by
  obtain ⟨h0, h1, h2⟩ := fz_of e
  have np := ne_of_none h2 h
  rw [fz_none h0 (by rw [sup_ne np]; exact h1), upd_ne np]
  exact h2
/-- a new object that may change -/
theorem SimB.newM (s : SimB K F S H) (h : H p = Option.none) (k : SOk K (fz F S H) (some o) u) : GoB K F S H (sup S p u) (upd H p o) := by
  refine ⟨same_newM h, fun a f => ?_, fun a x e => ?_, fun a f => ?_⟩
  · rw [upd_ne (fun z => by subst z; rw [(s.none h).1] at f; cases f)]
  · by_cases np : a = p
    · subst np
      rw [sup_same] at e; cases e
      rw [upd_same]
      exact ⟨(s.none h).1, k.mono (same_newM h)⟩
    · rw [sup_ne np] at e
      rw [upd_ne np]
      exact ⟨(s.at_ a x e).1, (s.at_ a x e).2.mono (same_newM h)⟩
  · obtain ⟨x, q⟩ := s.hid a f
    exact ⟨x, by rw [upd_ne (ne_of_none q h)]; exact q⟩
theorem fz_put (h : S a = some u) : fz F (sup S a u') (upd H a o) = fz F S H := by
  funext b
  by_cases e : b = a
  · subst e
    rw [fz_some h, fz_some sup_same]
  · unfold fz
    rw [sup_ne e, upd_ne e]
/-- a mutable object changes -/
theorem SimB.put (s : SimB K F S H) (h : S a = some u) (k : SOk K (fz F S H) (some o) u') : GoB K F S H (sup S a u') (upd H a o) := by
  refine ⟨by rw [fz_put h]; exact Same.refl _, fun b f => ?_, fun b x e => ?_, fun b f => ?_⟩
  · rw [upd_ne (fun z => by subst z; rw [(s.at_ _ _ h).1] at f; cases f)]
  · rw [fz_put h]
    by_cases np : b = a
    · subst np
      rw [sup_same] at e; cases e
      rw [upd_same]
      exact ⟨(s.at_ _ _ h).1, k⟩
    · rw [sup_ne np] at e
      rw [upd_ne np]
      exact s.at_ b x e
  · obtain ⟨x, q⟩ := s.hid b f
    exact ⟨x, by rw [upd_ne (fun z => by subst z; rw [(s.at_ _ _ h).1] at f; cases f)]; exact q⟩
/-- a part of the store is let go -/
theorem GoB.drop (g : GoB K F S H S1 H1) (h : ∀ a o, S2 a = some o → S1 a = some o) : GoB K F S H S2 H1 := by
  have e : Same (fz F S1 H1) (fz F S2 H1) := fun b x e => by
    obtain ⟨h0, h1, h2⟩ := fz_of e
    rw [fz_none h0 ?_]
    · exact h2
    · cases q : S2 b with
      | none => rfl
      | some u => rw [h b u q] at h1; cases h1
  exact ⟨g.same.trans e, g.hid, fun a o q => ⟨(g.sim.at_ a o (h a o q)).1, (g.sim.at_ a o (h a o q)).2.mono e⟩, g.sim.hid⟩
end

/-- hidden besides -/
def hide (F : Addr → Bool) (a : Addr) : Addr → Bool := fun b => if b = a then true else F b
section
variable {K : PySem.W.Frag} {F : Addr → Bool} {S S' : Sto} {H H' : Hp} {p : Addr} {o o' : HO}
theorem fz_hide_same : Same (fz (hide F p) S H) (fz F S H) := fun b x e => by
  obtain ⟨h0, h1, h2⟩ := fz_of e
  have np : b ≠ p := fun z => by subst z; simp [hide] at h0
  rw [fz_none (by simpa [hide, np] using h0) h1]
  exact h2
theorem fz_hide_new (h : H p = none) : Same (fz F S H) (fz (hide F p) S (upd H p o)) := fun b x e => by
  obtain ⟨h0, h1, h2⟩ := fz_of e
  have np := ne_of_none h2 h
  rw [fz_none (by simp [hide, np, h0]) h1, upd_ne np]
  exact h2
theorem fz_hide_upd : fz (hide F p) S (upd H p o) = fz (hide F p) S H := by
  funext b
  by_cases e : b = p
  · subst e
    rw [fz_hid (by simp [hide]), fz_hid (by simp [hide])]
  · unfold fz
    rw [upd_ne e]
theorem SimB.hideNew (s : SimB K F S H) (h : H p = Option.none) : SimB K (hide F p) S (upd H p o) where
  at_ := fun a u e => by
    have np : a ≠ p := fun z => by subst z; rw [(s.none h).2] at e; cases e
    rw [upd_ne np]
    exact ⟨by simp [hide, np, (s.at_ a u e).1], (s.at_ a u e).2.mono (fz_hide_new h)⟩
  hid := fun a f => by
    by_cases np : a = p
    · subst np
      exact ⟨_, upd_same⟩
    · obtain ⟨x, q⟩ := s.hid a (by simpa [hide, np] using f)
      exact ⟨x, by rw [upd_ne np]; exact q⟩
/-- the hidden object is written -/
theorem SimB.hidePut (s : SimB K (hide F p) S H) : SimB K (hide F p) S (upd H p o) where
  at_ := fun a u e => by
    have q := s.at_ a u e
    have np : a ≠ p := fun z => by subst z; simp [hide] at q
    rw [upd_ne np, fz_hide_upd]
    exact q
  hid := fun a f => by
    by_cases np : a = p
    · subst np
      exact ⟨_, upd_same⟩
    · obtain ⟨x, q⟩ := s.hid a f
      exact ⟨x, by rw [upd_ne np]; exact q⟩
/-- it is shown again -/
theorem SimB.show_ (s : SimB K (hide F p) S H) (f : F p = false) : SimB K F S H where
  at_ := fun a u e => by
    have q := s.at_ a u e
    have np : a ≠ p := fun z => by subst z; simp [hide] at q
    exact ⟨by simpa [hide, np] using q.1, q.2.mono fz_hide_same⟩
  hid := fun a g => s.hid a (by by_cases np : a = p <;> simp [hide, np, g])
end
/-- what is known all along a def: kept by every step -/
structure KG (K : PySem.W.Frag) where
  ok : (Addr → Bool) → Sto → Hp → Prop
  step : ∀ {F S H S' H'}, SimB K F S H → ok F S H → GoB K F S H S' H' → ok F S' H'
  new : ∀ {F S H p o}, SimB K F S H → ok F S H → H p = none → ok (hide F p) S (upd H p o)
  put : ∀ {F S H p o S1 H1}, ok F S1 H1 → F p = false → SimB K (hide F p) S H → ok (hide F p) S H → ok (hide F p) S (upd H p o)
structure Sim {K : PySem.W.Frag} (Γ : KG K) (F : Addr → Bool) (S : Sto) (H : Hp) : Prop extends SimB K F S H where
  knows : Γ.ok F S H
structure Go {K : PySem.W.Frag} (Γ : KG K) (F : Addr → Bool) (S : Sto) (H : Hp) (S' : Sto) (H' : Hp) : Prop where
  same : Same (fz F S H) (fz F S' H')
  hid : ∀ a, F a = true → H' a = H a
  sim : Sim Γ F S' H'
section
variable {K : PySem.W.Frag} {Γ : KG K} {F : Addr → Bool} {S S1 S2 : Sto} {H H1 H2 : Hp} {p a : Addr} {o : HO} {u u' : SO}
theorem Go.b (g : Go Γ F S H S1 H1) : GoB K F S H S1 H1 := ⟨g.same, g.hid, g.sim.toSimB⟩
theorem Go.of (s : Sim Γ F S H) (g : GoB K F S H S1 H1) : Go Γ F S H S1 H1 := ⟨g.same, g.hid, ⟨g.sim, Γ.step s.toSimB s.knows g⟩⟩
theorem Go.refl (s : Sim Γ F S H) : Go Γ F S H S H := ⟨Same.refl _, fun _ _ => rfl, s⟩
theorem Go.trans (g : Go Γ F S H S1 H1) (g' : Go Γ F S1 H1 S2 H2) : Go Γ F S H S2 H2 := ⟨g.same.trans g'.same, fun a h => (g'.hid a h).trans (g.hid a h), g'.sim⟩
theorem Sim.none (s : Sim Γ F S H) (h : H p = none) : F p = false ∧ S p = Option.none := s.toSimB.none h
theorem Sim.new (s : Sim Γ F S H) (h : H p = Option.none) : Go Γ F S H S (upd H p o) := .of s (s.toSimB.new h)
theorem fz_new (s : Sim Γ F S H) (h : H p = Option.none) : fz F S (upd H p o) p = some o := fz_newB s.toSimB h
theorem Sim.newM (s : Sim Γ F S H) (h : H p = Option.none) (k : SOk K (fz F S H) (some o) u) : Go Γ F S H (sup S p u) (upd H p o) := .of s (s.toSimB.newM h k)
theorem Sim.put (s : Sim Γ F S H) (h : S a = some u) (k : SOk K (fz F S H) (some o) u') : Go Γ F S H (sup S a u') (upd H a o) := .of s (s.toSimB.put h k)
theorem Go.drop (s : Sim Γ F S H) (g : Go Γ F S H S1 H1) (h : ∀ a o, S2 a = some o → S1 a = some o) : Go Γ F S H S2 H1 := .of s (g.b.drop h)
theorem Sim.hideNew (s : Sim Γ F S H) (h : H p = Option.none) : Sim Γ (hide F p) S (upd H p o) := ⟨s.toSimB.hideNew h, Γ.new s.toSimB s.knows h⟩
theorem Sim.hidePut (s1 : Sim Γ F S1 H1) (f : F p = false) (s : Sim Γ (hide F p) S H) : Sim Γ (hide F p) S (upd H p o) := ⟨s.toSimB.hidePut, Γ.put s1.knows f s.toSimB s.knows⟩
end
abbrev DSt := List (Option D)
/-- slots -/
inductive RelS (K : PySem.W.Frag) (G : Hp) : St → DSt → Prop
  | nil : RelS K G [] []
  | cons {v : V} {σ : St} {d : D} {δ : DSt} : Rel K G v d → RelS K G σ δ → RelS K G (some v :: σ) (some d :: δ)
  | skip {v : Option V} {σ : St} {δ : DSt} : RelS K G σ δ → RelS K G (v :: σ) (none :: δ)
section
variable {K : PySem.W.Frag} {G G' : Hp}
theorem RelS.mono (e : Same G G') : ∀ {σ : St} {δ : DSt}, RelS K G σ δ → RelS K G' σ δ
  | _, _, .nil => .nil
  | _, _, .cons h r => .cons (h.mono e) (RelS.mono e r)
  | _, _, .skip r => .skip (RelS.mono e r)
theorem RelS.get : ∀ {σ : St} {δ : DSt} {i : Nat} {d : D}, RelS K G σ δ → δ[i]? = some (some d) → ∃ v, σ[i]? = some (some v) ∧ Rel K G v d
  | _, _, _, _, .nil, e => by simp at e
  | _, _, 0, _, .cons r _, e => by simp at e; subst e; exact ⟨_, rfl, r⟩
  | _, _, 0, _, .skip _, e => by simp at e
  | _, _, i + 1, _, .cons _ t, e => by
    obtain ⟨v, h1, h2⟩ := RelS.get (i := i) t (by simpa using e)
    exact ⟨v, by simpa using h1, h2⟩
  | _, _, i + 1, _, .skip t, e => by
    obtain ⟨v, h1, h2⟩ := RelS.get (i := i) t (by simpa using e)
    exact ⟨v, by simpa using h1, h2⟩
theorem RelS.set {v : V} {d : D} (h : Rel K G v d) : ∀ {σ : St} {δ : DSt} (i : Nat), RelS K G σ δ → RelS K G (σ.set i (some v)) (δ.set i (some d))
  | _, _, _, .nil => .nil
  | _, _, 0, .cons _ t => .cons h t
  | _, _, 0, .skip t => .cons h t
  | _, _, i + 1, .cons q t => .cons q (RelS.set h i t)
  | _, _, i + 1, .skip t => .skip (RelS.set h i t)
theorem RelS.unset : ∀ {σ : St} {δ : DSt} {v : Option V} (i : Nat), RelS K G σ δ → RelS K G (σ.set i v) (δ.set i none)
  | _, _, _, _, .nil => .nil
  | _, _, _, 0, .cons _ t => .skip t
  | _, _, _, 0, .skip t => .skip t
  | _, _, _, i + 1, .cons q t => .cons q (RelS.unset i t)
  | _, _, _, i + 1, .skip t => .skip (RelS.unset i t)
theorem RelS.length : ∀ {σ : St} {δ : DSt}, RelS K G σ δ → σ.length = δ.length
  | _, _, .nil => rfl
  | _, _, .cons _ r => by simp [RelS.length r]
  | _, _, .skip r => by simp [RelS.length r]
theorem RelS.repl : ∀ (n : Nat), RelS K G (List.replicate n none) (List.replicate n none)
  | 0 => .nil
  | n + 1 => .skip (RelS.repl n)
theorem RelS.ofL : ∀ {vs : List V} {ds : List D} {σ : St} {δ : DSt}, RelL K G vs ds → RelS K G σ δ → RelS K G (vs.map some ++ σ) (ds.map some ++ δ)
  | _, _, _, _, .nil, s => s
  | _, _, _, _, .cons r t, s => .cons r (RelS.ofL t s)
end

abbrev DK := D → Sto → Prop
abbrev DTE := DSt → Sto → DK → Prop
abbrev DTT := DSt → Sto → (Bool → Sto → Prop) → Prop
abbrev DTA := DSt → Sto → (List D → Sto → Prop) → Prop
structure DEnds where
  nx : DSt → Sto → Prop
  rt : DK
  bk : DSt → Sto → Prop := fun _ _ => False
  ct : DSt → Sto → Prop := fun _ _ => False
abbrev DTS := DEnds → DSt → Sto → Prop

/-- what follows, by data -/
def Ct {K : PySem.W.Frag} (Γ : KG K) (F : Addr → Bool) (S : Sto) (H : Hp) (P : DK) (Q : VK) : Prop := ∀ d S', P d S' → ∀ v H', Go Γ F S H S' H' → Rel K (fz F S' H') v d → Q v H'
def CtT {K : PySem.W.Frag} (Γ : KG K) (F : Addr → Bool) (S : Sto) (H : Hp) (P : Bool → Sto → Prop) (Q : Bool → Hp → Prop) : Prop := ∀ b S', P b S' → ∀ H', Go Γ F S H S' H' → Q b H'
def CtA {K : PySem.W.Frag} (Γ : KG K) (F : Addr → Bool) (S : Sto) (H : Hp) (P : List D → Sto → Prop) (Q : List V → Hp → Prop) : Prop := ∀ ds S', P ds S' → ∀ vs H', Go Γ F S H S' H' → RelL K (fz F S' H') vs ds → Q vs H'
def CtN {K : PySem.W.Frag} (Γ : KG K) (F : Addr → Bool) (S : Sto) (H : Hp) (P : DSt → Sto → Prop) (Q : St → Hp → Prop) : Prop := ∀ δ' S', P δ' S' → ∀ σ' H', Go Γ F S H S' H' → RelS K (fz F S' H') σ' δ' → Q σ' H'
structure CtE {K : PySem.W.Frag} (Γ : KG K) (F : Addr → Bool) (S : Sto) (H : Hp) (P : DEnds) (Q : Ends) : Prop where
  nx : CtN Γ F S H P.nx Q.nx
  rt : Ct Γ F S H P.rt Q.rt
  bk : CtN Γ F S H P.bk Q.bk
  ct : CtN Γ F S H P.ct Q.ct
section
variable {K : PySem.W.Frag} {Γ : KG K} {F : Addr → Bool} {S S1 : Sto} {H H1 : Hp}
theorem Ct.mono {P : DK} {Q : VK} (c : Ct Γ F S H P Q) (e : Go Γ F S H S1 H1) : Ct Γ F S1 H1 P Q := fun d S' h v H' e' => c d S' h v H' (e.trans e')
theorem CtT.mono {P : Bool → Sto → Prop} {Q : Bool → Hp → Prop} (c : CtT Γ F S H P Q) (e : Go Γ F S H S1 H1) : CtT Γ F S1 H1 P Q := fun d S' h H' e' => c d S' h H' (e.trans e')
theorem CtA.mono {P : List D → Sto → Prop} {Q : List V → Hp → Prop} (c : CtA Γ F S H P Q) (e : Go Γ F S H S1 H1) : CtA Γ F S1 H1 P Q := fun d S' h v H' e' => c d S' h v H' (e.trans e')
theorem CtN.mono {P : DSt → Sto → Prop} {Q : St → Hp → Prop} (c : CtN Γ F S H P Q) (e : Go Γ F S H S1 H1) : CtN Γ F S1 H1 P Q := fun d S' h v H' e' => c d S' h v H' (e.trans e')
theorem CtE.mono {P : DEnds} {Q : Ends} (c : CtE Γ F S H P Q) (e : Go Γ F S H S1 H1) : CtE Γ F S1 H1 P Q := ⟨c.nx.mono e, c.rt.mono e, c.bk.mono e, c.ct.mono e⟩
theorem Ct.use {P : DK} {Q : VK} (c : Ct Γ F S H P Q) (s : Sim Γ F S H) {v : V} {d : D} (r : Rel K (fz F S H) v d) (h : P d S) : Q v H := c d S h v H (Go.refl s) r
theorem Ct.new {P : DK} {Q : VK} (c : Ct Γ F S H P Q) (s : Sim Γ F S H) {p : Addr} {o : HO} (hp : H p = none) {v : V} {d : D} (r : Rel K (fz F S (upd H p o)) v d) (h : P d S) : Q v (upd H p o) := c d S h v _ (s.new hp) r
theorem Ct.newM {P : DK} {Q : VK} (c : Ct Γ F S H P Q) (s : Sim Γ F S H) {p : Addr} {o : HO} {u : SO} (hp : H p = none) (k : SOk K (fz F S H) (some o) u) {v : V} {d : D} (r : Rel K (fz F (sup S p u) (upd H p o)) v d) (h : P d (sup S p u)) : Q v (upd H p o) :=
  c d _ h v _ (s.newM hp k) r
theorem Ct.put {P : DK} {Q : VK} (c : Ct Γ F S H P Q) (s : Sim Γ F S H) {a : Addr} {o : HO} {u u' : SO} (ha : S a = some u) (k : SOk K (fz F S H) (some o) u') {v : V} {d : D} (r : Rel K (fz F S H) v d) (h : P d (sup S a u')) : Q v (upd H a o) :=
  c d _ h v _ (s.put ha k) (by rw [fz_put ha]; exact r)
end

/-- a reading by data as a reading -/
def lf {K : PySem.W.Frag} (Γ : KG K) (t : DTE) : TE := fun σ H Q => ∃ F δ S P, Sim Γ F S H ∧ RelS K (fz F S H) σ δ ∧ t δ S P ∧ Ct Γ F S H P Q
def lfT {K : PySem.W.Frag} (Γ : KG K) (t : DTT) : TT := fun σ H Q => ∃ F δ S P, Sim Γ F S H ∧ RelS K (fz F S H) σ δ ∧ t δ S P ∧ CtT Γ F S H P Q
def lfA {K : PySem.W.Frag} (Γ : KG K) (t : DTA) : TA := fun σ H Q => ∃ F δ S P, Sim Γ F S H ∧ RelS K (fz F S H) σ δ ∧ t δ S P ∧ CtA Γ F S H P Q
def lfS {K : PySem.W.Frag} (Γ : KG K) (t : DTS) : TS := fun D σ H => ∃ F δ S P, Sim Γ F S H ∧ RelS K (fz F S H) σ δ ∧ t P δ S ∧ CtE Γ F S H P D
def DPE (X : Cx) (Γ : KG X.K) (e : Expr) (t : DTE) : Prop := PE X e (lf Γ t)
def DPT (X : Cx) (Γ : KG X.K) (e : Expr) (t : DTT) : Prop := PT X e (lfT Γ t)
def DPW (X : Cx) (Γ : KG X.K) (e : Expr) (t : DTT) : Prop := PW X e (lfT Γ t)
def DPA (X : Cx) (Γ : KG X.K) (es : List Expr) (t : DTA) : Prop := PA X es (lfA Γ t)
def DPS (X : Cx) (Γ : KG X.K) (st : Stmt) (t : DTS) : Prop := PS X st (lfS Γ t)
def DPSs (X : Cx) (Γ : KG X.K) (st : List Stmt) (t : DTS) : Prop := PSs X st (lfS Γ t)
section
variable {X : Cx}
theorem PEw {e : Expr} {t u : TE} (h : PE X e t) (w : ∀ σ H Q, u σ H Q → t σ H Q) : PE X e u := ⟨fun pins s σ H Q I q => h.run pins s σ H Q I (w _ _ _ q)⟩
theorem PTw {e : Expr} {t u : TT} (h : PT X e t) (w : ∀ σ H Q, u σ H Q → t σ H Q) : PT X e u := ⟨fun pins s σ H Q I q => h.run pins s σ H Q I (w _ _ _ q)⟩
theorem PWw {e : Expr} {t u : TT} (h : PW X e t) (w : ∀ σ H Q, u σ H Q → t σ H Q) : PW X e u := ⟨fun wh pins s σ H Q I q => h.run wh pins s σ H Q I (w _ _ _ q)⟩
theorem PAw {e : List Expr} {t u : TA} (h : PA X e t) (w : ∀ σ H Q, u σ H Q → t σ H Q) : PA X e u := ⟨fun pos pins s σ H Q I q => h.run pos pins s σ H Q I (w _ _ _ q)⟩
theorem PSw {e : Stmt} {t u : TS} (h : PS X e t) (w : ∀ D σ H, u D σ H → t D σ H) : PS X e u := ⟨fun pins s σ H Q I q => h.run pins s σ H Q I (w _ _ _ q)⟩
theorem PSsw {e : List Stmt} {t u : TS} (h : PSs X e t) (w : ∀ D σ H, u D σ H → t D σ H) : PSs X e u := ⟨fun pins s σ H Q I q => h.run pins s σ H Q I (w _ _ _ q)⟩
end
end L3

set_option Elab.async false
set_option maxRecDepth 100000
set_option linter.all false
namespace L3
open PySem L2
/-! ### rules: names, constants, operators -/
abbrev slot : DSt → Nat → Option D
  | [], _ => none
  | x :: _, 0 => x
  | _ :: r, i + 1 => slot r i
abbrev dset : DSt → Nat → Option D → DSt
  | [], _, _ => []
  | _ :: r, 0, d => d :: r
  | x :: r, i + 1, d => x :: dset r i d
theorem dset_eq : ∀ (δ : DSt) (i : Nat) (d : Option D), dset δ i d = δ.set i d
  | [], _, _ => rfl
  | _ :: _, 0, _ => rfl
  | x :: r, i + 1, d => by simp only [dset, List.set_cons_succ, dset_eq r i d]
theorem RelS.dset {K : PySem.W.Frag} {G : Hp} {v : V} {d : D} {σ : St} {δ : DSt} (h : Rel K G v d) (i : Nat) (r : RelS K G σ δ) : RelS K G (σ.set i (some v)) (L3.dset δ i (some d)) := by
  rw [dset_eq]; exact r.set h i
theorem slot_get : ∀ {δ : DSt} {i : Nat} {d : D}, slot δ i = some d → δ[i]? = some (some d)
  | [], _, _, h => by cases h
  | x :: r, 0, d, h => by simp only [slot] at h; subst h; rfl
  | x :: r, i + 1, d, h => by simpa using slot_get (δ := r) (i := i) h
abbrev dVar (i : Nat) : DTE := fun δ S Q => match slot δ i with | some d => Q d S | none => False
abbrev dC (d : D) : DTE := fun _ S Q => Q d S
abbrev dOp (r : D → D → Sto → DK → Prop) (ta tb : DTE) : DTE := fun δ S Q => ta δ S fun x S1 => tb δ S1 fun y S2 => r x y S2 Q
abbrev dUn (r : D → Sto → DK → Prop) (ta : DTE) : DTE := fun δ S Q => ta δ S fun x S1 => r x S1 Q
abbrev dNil : DTA := fun _ S Q => Q [] S
abbrev dCons (ta : DTE) (tr : DTA) : DTA := fun δ S Q => ta δ S fun x S1 => tr δ S1 fun xs S2 => Q (x :: xs) S2
abbrev dTup (t : DTA) : DTE := fun δ S Q => t δ S fun ds S1 => ds.length ≤ 1000 ∧ Q (.tup ds) S1
abbrev dLst (t : DTA) : DTE := fun δ S Q => t δ S fun ds S1 => ds.length ≤ 1000 ∧ Q (.lst ds) S1
abbrev dLstM (t : DTA) : DTE := fun δ S Q => t δ S fun ds S1 => ds.length ≤ 1000 ∧ ∀ p, S1 p = none → Q (.ref p) (sup S1 p (.lst ds))
abbrev dTest (t : DTE) : DTT := fun δ S Q => t δ S fun x S1 => match x with | .bl b => Q b S1 | _ => False
abbrev dChain (r r' : D → D → Sto → DK → Prop) (ta tb tc : DTE) : DTE := fun δ S Q => ta δ S fun x S1 => tb δ S1 fun y S2 => r x y S2 fun z S3 => match z with
  | .bl k => if k = true then tc δ S3 fun w S4 => r' y w S4 Q else Q (.bl false) S3
  | _ => False
abbrev dAnd (t u : DTT) : DTT := fun δ S Q => t δ S fun c S1 => if c = true then u δ S1 Q else Q false S1
abbrev dOr (t u : DTT) : DTT := fun δ S Q => t δ S fun c S1 => if c = true then Q true S1 else u δ S1 Q
abbrev dNot (t : DTT) : DTT := fun δ S Q => t δ S fun c S1 => Q (!c) S1
abbrev dAndV (ta tb : DTE) : DTE := fun δ S Q => ta δ S fun x S1 => match x with | .bl c => if c = true then tb δ S1 Q else Q (.bl false) S1 | _ => False
abbrev dOrV (ta tb : DTE) : DTE := fun δ S Q => ta δ S fun x S1 => match x with | .bl c => if c = true then Q (.bl true) S1 else tb δ S1 Q | _ => False
abbrev dNotV (ta : DTE) : DTE := fun δ S Q => ta δ S fun x S1 => match x with | .bl c => Q (.bl (!c)) S1 | _ => False
abbrev dIfE (t : DTT) (ta tb : DTE) : DTE := fun δ S Q => t δ S fun c S1 => if c = true then ta δ S1 Q else tb δ S1 Q

/-- a value's operation, lifted -/
def LR2 (K : PySem.W.Frag) (r : R2) (r' : D → D → Sto → DK → Prop) : Prop := ∀ {Γ : KG K} x y dx dy F S H P Q, Sim Γ F S H → Rel K (fz F S H) x dx → Rel K (fz F S H) y dy → r' dx dy S P → Ct Γ F S H P Q → r x y H Q
def LR1 (K : PySem.W.Frag) (r : V → Hp → VK → Prop) (r' : D → Sto → DK → Prop) : Prop := ∀ {Γ : KG K} x dx F S H P Q, Sim Γ F S H → Rel K (fz F S H) x dx → r' dx S P → Ct Γ F S H P Q → r x H Q
def LRL (K : PySem.W.Frag) (r : List V → Hp → VK → Prop) (r' : List D → Sto → DK → Prop) : Prop := ∀ {Γ : KG K} xs ds F S H P Q, Sim Γ F S H → RelL K (fz F S H) xs ds → r' ds S P → Ct Γ F S H P Q → r xs H Q
def LRM (K : PySem.W.Frag) (r : V → List V → Hp → VK → Prop) (r' : D → List D → Sto → DK → Prop) : Prop := ∀ {Γ : KG K} x xs dx ds F S H P Q, Sim Γ F S H → Rel K (fz F S H) x dx → RelL K (fz F S H) xs ds → r' dx ds S P → Ct Γ F S H P Q → r x xs H Q
theorem LR2.or {K : PySem.W.Frag} {r s : R2} {r' s' : D → D → Sto → DK → Prop} (h : LR2 K r r') (g : LR2 K s s') : LR2 K (fun x y H Q => r x y H Q ∨ s x y H Q) (fun x y S Q => r' x y S Q ∨ s' x y S Q) :=
  fun x y dx dy F S H P Q sm rx ry q c => q.elim (fun q => .inl (h x y dx dy F S H P Q sm rx ry q c)) fun q => .inr (g x y dx dy F S H P Q sm rx ry q c)
/-- an operation with its reading by data -/
structure DOp (X : Cx) (f : Value → Value → Sem Value) (r' : D → D → Sto → DK → Prop) : Prop where
  ex : ∃ r, OpR X f r ∧ LR2 X.K r r'
structure DIx (X : Cx) (r' : D → D → Sto → DK → Prop) : Prop where
  ex : ∃ r, IxR X r ∧ LR2 X.K r r'
structure DUn (X : Cx) (f : Value → Sem Value) (r' : D → Sto → DK → Prop) : Prop where
  ex : ∃ r, UnR X f r ∧ LR1 X.K r r'
structure DCall (X : Cx) (f : Value) (r' : List D → Sto → DK → Prop) : Prop where
  ex : ∃ r, CallR X f r ∧ LRL X.K r r'
theorem DOp.or {X : Cx} {f : Value → Value → Sem Value} {r s : D → D → Sto → DK → Prop} (h : DOp X f r) (g : DOp X f s) : DOp X f (fun x y S Q => r x y S Q ∨ s x y S Q) := by
  obtain ⟨a, h1, h2⟩ := h.ex
  obtain ⟨b, g1, g2⟩ := g.ex
  exact ⟨_, h1.or g1, h2.or g2⟩
theorem DOp.imp {X : Cx} {f : Value → Value → Sem Value} {r s : D → D → Sto → DK → Prop} (h : DOp X f r) (w : ∀ x y S Q, s x y S Q → r x y S Q) : DOp X f s := by
  obtain ⟨a, h1, h2⟩ := h.ex
  exact ⟨_, h1, fun x y dx dy F S H P Q sm rx ry q c => h2 x y dx dy F S H P Q sm rx ry (w _ _ _ _ q) c⟩
theorem DIx.or {X : Cx} {r s : D → D → Sto → DK → Prop} (h : DIx X r) (g : DIx X s) : DIx X (fun x y S Q => r x y S Q ∨ s x y S Q) := by
  obtain ⟨a, h1, h2⟩ := h.ex
  obtain ⟨b, g1, g2⟩ := g.ex
  exact ⟨_, h1.or g1, h2.or g2⟩
theorem DIx.imp {X : Cx} {r s : D → D → Sto → DK → Prop} (h : DIx X r) (w : ∀ x y S Q, s x y S Q → r x y S Q) : DIx X s := by
  obtain ⟨a, h1, h2⟩ := h.ex
  exact ⟨_, h1, fun x y dx dy F S H P Q sm rx ry q c => h2 x y dx dy F S H P Q sm rx ry (w _ _ _ _ q) c⟩
theorem DCall.or {X : Cx} {f : Value} {r s : List D → Sto → DK → Prop} (h : DCall X f r) (g : DCall X f s) : DCall X f (fun x S Q => r x S Q ∨ s x S Q) := by
  obtain ⟨a, h1, h2⟩ := h.ex
  obtain ⟨b, g1, g2⟩ := g.ex
  exact ⟨_, h1.or g1, fun xs ds F S H P Q sm rx q c => q.elim (fun q => .inl (h2 xs ds F S H P Q sm rx q c)) fun q => .inr (g2 xs ds F S H P Q sm rx q c)⟩
theorem DCall.imp {X : Cx} {f : Value} {r s : List D → Sto → DK → Prop} (h : DCall X f r) (w : ∀ x S Q, s x S Q → r x S Q) : DCall X f s := by
  obtain ⟨a, h1, h2⟩ := h.ex
  exact ⟨_, h1, fun xs ds F S H P Q sm rx q c => h2 xs ds F S H P Q sm rx (w _ _ _ q) c⟩

section
variable {X : Cx} {Γ : KG X.K} {a b c : Expr} {ta tb tc : DTE} {tA tB' : DTT} {t : DTA} {pos : Pos} {es rest : List Expr} {r r' : D → D → Sto → DK → Prop}
theorem dpe_var (i : Nat) {x : Str} (hN : X.N[i]? = some x := by rfl) (hv : Vis X.env.scope x := by first | exact Or.inl rfl | exact Or.inr (Or.inl rfl) | exact Or.inr (Or.inr rfl)) (hd : (x == ("__debug__" : Str)) = false := by decide)
    (hcd : (x == ("__classdict__" : Str)) = false := by decide) : DPE X Γ (.Name x pos) (dVar i) := PEw (pe_var hN hv hd hcd) fun σ H Q ⟨F, δ, S, P, sm, rs, h, c⟩ => by
  simp only [dVar] at h
  cases e : slot δ i with
  | none => rw [e] at h; exact h.elim
  | some d =>
    rw [e] at h
    obtain ⟨v, h1, h2⟩ := rs.get (slot_get e)
    exact ⟨v, h1, c.use sm h2 h⟩
theorem lf_C {K : PySem.W.Frag} {Γ : KG K} {v : V} {d : D} (hr : ∀ G, Rel K G v d) (σ : St) (H : Hp) (Q : VK) (h : lf Γ (dC d) σ H Q) : tC v σ H Q := by
  obtain ⟨F, δ, S, P, sm, rs, h, c⟩ := h
  exact c.use sm (hr _) h
theorem dpe_int {i : Int} {j} : DPE X Γ (.Constant (.int i) j pos) (dC (.int i)) := PEw pe_int (lf_C fun _ => .int i)
theorem dpe_bl {i : Bool} {j} : DPE X Γ (.Constant (.bool i) j pos) (dC (.bl i)) := PEw pe_bl (lf_C fun _ => .bl i)
theorem dpe_non {j} : DPE X Γ (.Constant .none j pos) (dC .non) := PEw pe_non (lf_C fun _ => .non)
theorem dpe_str {i : Str} {j} : DPE X Γ (.Constant (.str i) j pos) (dC (.str i)) := PEw pe_str (lf_C fun _ => .str i)
/-- a module's constant -/
theorem dpe_glob {x : Str} {v : V} {d : D} {u : Value} (hg : Gl X x) (hm : X.mg x = some u) (q : RelV v u) (hr : ∀ G, Rel X.K G v d) (hd : (x == ("__debug__" : Str)) = false := by decide) : DPE X Γ (.Name x pos) (dC d) :=
  PEw (pe_glob hg hm q hd) (lf_C hr)
theorem dpe_ty {x : Str} {n : String} (hg : Gl X x) (hm : X.mg x = none) (hv : bootBuiltins x = some (.type n)) (hn : x ≠ "__name__" := by decide) (hd : (x == ("__debug__" : Str)) = false := by decide) : DPE X Γ (.Name x pos) (dC (.ty n)) :=
  PEw (pe_bltn (v := .ty n) hg hm hv rfl hn hd) (lf_C fun _ => .ty n)
theorem lf_op {K : PySem.W.Frag} {Γ : KG K} {q : R2} (hl : LR2 K q r) (σ : St) (H : Hp) (Q : VK) (h : lf Γ (dOp r ta tb) σ H Q) : tOp q (lf Γ ta) (lf Γ tb) σ H Q := by
  obtain ⟨F, δ, S, P, sm, rs, h, c⟩ := h
  refine ⟨F, δ, S, _, sm, rs, h, fun dx S1 h1 x H1 g1 rx => ?_⟩
  refine ⟨F, δ, S1, _, g1.sim, rs.mono g1.same, h1, fun dy S2 h2 y H2 g2 ry => ?_⟩
  exact hl x y dx dy F S2 H2 P Q g2.sim (rx.mono g2.same) ry h2 (c.mono (g1.trans g2))
theorem dpe_op {op : Operator} (ho : DOp X (binaryOp op) r) (ha : DPE X Γ a ta) (hb : DPE X Γ b tb) : DPE X Γ (.BinOp a op b pos) (dOp r ta tb) := by
  obtain ⟨q, h1, h2⟩ := ho.ex
  exact PEw (pe_op h1 ha hb) (lf_op h2)
theorem dpe_un {op : UnaryOp} {r : D → Sto → DK → Prop} (ho : DUn X (unaryOp op) r) (ha : DPE X Γ a ta) : DPE X Γ (.UnaryOp op a pos) (dUn r ta) := by
  obtain ⟨q, h1, h2⟩ := ho.ex
  refine PEw (pe_un h1 ha) fun σ H Q ⟨F, δ, S, P, sm, rs, h, c⟩ => ?_
  exact ⟨F, δ, S, _, sm, rs, h, fun dx S1 h1 x H1 g1 rx => h2 x dx F S1 H1 P Q g1.sim rx h1 (c.mono g1)⟩
theorem dpe_cmp {op : CmpOp} (ho : DOp X (compareOp op) r) (ha : DPE X Γ a ta) (hb : DPE X Γ b tb) (hm : behindInMarks op b = false := by first | exact nomark _ | rfl | with_unfolding_all rfl) : DPE X Γ (.Compare a [op] [b] pos) (dOp r ta tb) := by
  obtain ⟨q, h1, h2⟩ := ho.ex
  exact PEw (pe_cmpR h1 ha hb hm) (lf_op h2)
theorem lf_test {K : PySem.W.Frag} {Γ : KG K} {te : DTE} (σ : St) (H : Hp) (Q : Bool → Hp → Prop) (h : lfT Γ (dTest te) σ H Q) : lf Γ te σ H (fun x H' => ∃ k, x = .bl k ∧ Q k H') := by
  obtain ⟨F, δ, S, P, sm, rs, h, c⟩ := h
  refine ⟨F, δ, S, _, sm, rs, h, fun d S1 h1 v H1 g1 r1 => ?_⟩
  cases r1 <;> first | exact h1.elim | skip
  exact ⟨_, rfl, c _ _ h1 _ g1⟩
theorem dpt_cmp {op : CmpOp} (ho : DOp X (compareOp op) r) (ha : DPE X Γ a ta) (hb : DPE X Γ b tb) (hm : behindInMarks op b = false := by first | exact nomark _ | rfl | with_unfolding_all rfl) : DPT X Γ (.Compare a [op] [b] pos) (dTest (dOp r ta tb)) := by
  obtain ⟨q, h1, h2⟩ := ho.ex
  refine PTw (pt_cmpR h1 ha hb hm) fun σ H Q h => ?_
  exact lf_op h2 σ H _ (lf_test σ H Q h)
theorem lf_chain {K : PySem.W.Frag} {Γ : KG K} {q q' : R2} (hl : LR2 K q r) (hl' : LR2 K q' r') (σ : St) (H : Hp) (Q : VK) (h : lf Γ (dChain r r' ta tb tc) σ H Q) : tChain q q' (lf Γ ta) (lf Γ tb) (lf Γ tc) σ H Q := by
  obtain ⟨F, δ, S, P, sm, rs, h, c⟩ := h
  refine ⟨F, δ, S, _, sm, rs, h, fun dx S1 h1 x H1 g1 rx => ?_⟩
  refine ⟨F, δ, S1, _, g1.sim, rs.mono g1.same, h1, fun dy S2 h2 y H2 g2 ry => ?_⟩
  refine hl x y dx dy F S2 H2 _ _ g2.sim (rx.mono g2.same) ry h2 fun dz S3 h3 z H3 g3 rz => ?_
  cases rz <;> first | exact h3.elim | skip
  rename_i k
  refine ⟨k, rfl, ?_⟩
  have h3 : if k = true then tc δ S3 fun w S4 => r' dy w S4 P else P (.bl false) S3 := h3
  cases k with
  | false => exact (c.mono ((g1.trans g2).trans g3)).use g3.sim (.bl false) h3
  | true =>
    refine ⟨F, δ, S3, _, g3.sim, rs.mono ((g1.same.trans g2.same).trans g3.same), h3, fun dw S4 h4 w H4 g4 rw' => ?_⟩
    exact hl' y w dy dw F S4 H4 P Q g4.sim (ry.mono (g3.same.trans g4.same)) rw' h4 (c.mono (((g1.trans g2).trans g3).trans g4))
theorem dpe_chain {op op' : CmpOp} (ho : DOp X (compareOp op) r) (ho' : DOp X (compareOp op') r') (ha : DPE X Γ a ta) (hb : DPE X Γ b tb) (hc : DPE X Γ c tc)
    (hm : lastMarks [op, op'] [b, c] = false := by with_unfolding_all rfl) : DPE X Γ (.Compare a [op, op'] [b, c] pos) (dChain r r' ta tb tc) := by
  obtain ⟨q, h1, h2⟩ := ho.ex
  obtain ⟨q', h1', h2'⟩ := ho'.ex
  exact PEw (pe_chain h1 h1' ha hb hc hm) (lf_chain h2 h2')
theorem dpt_chain {op op' : CmpOp} (ho : DOp X (compareOp op) r) (ho' : DOp X (compareOp op') r') (ha : DPE X Γ a ta) (hb : DPE X Γ b tb) (hc : DPE X Γ c tc)
    (hm : lastMarks [op, op'] [b, c] = false := by with_unfolding_all rfl) : DPT X Γ (.Compare a [op, op'] [b, c] pos) (dTest (dChain r r' ta tb tc)) := by
  obtain ⟨q, h1, h2⟩ := ho.ex
  obtain ⟨q', h1', h2'⟩ := ho'.ex
  refine PTw (pt_chain h1 h1' ha hb hc hm) fun σ H Q h => ?_
  exact lf_chain h2 h2' σ H _ (lf_test σ H Q h)
theorem dpt_val (h : DPE X Γ a ta) (he : ∀ whole, isTrue a X.env whole = (do let v ← whole; standAt a.pos; holding [v] (truthy v)) := by intro _; rfl) : DPT X Γ a (dTest ta) :=
  PTw (pt_val h he) fun σ H Q h => lf_test σ H Q h
theorem dpw_and1 (ha : DPT X Γ a tA) : DPW X Γ (.BoolOp .And [a] pos) tA := pw_and1 ha
theorem dpw_or1 (ha : DPT X Γ a tA) : DPW X Γ (.BoolOp .Or [a] pos) tA := pw_or1 ha
theorem DPW.pt {e : Expr} (h : DPW X Γ e tA) : DPT X Γ e tA := PW.pt h
theorem dpw_and (ha : DPT X Γ a tA) (hb : DPW X Γ (.BoolOp .And (b :: rest) pos) tB') : DPW X Γ (.BoolOp .And (a :: b :: rest) pos) (dAnd tA tB') :=
  PWw (pw_and ha hb) fun σ H Q ⟨F, δ, S, P, sm, rs, h, c⟩ => ⟨F, δ, S, _, sm, rs, h, fun k S1 h1 H1 g1 => by
    cases k with
    | false => exact c _ _ h1 _ g1
    | true => exact ⟨F, δ, S1, P, g1.sim, rs.mono g1.same, h1, c.mono g1⟩⟩
theorem dpw_or (ha : DPT X Γ a tA) (hb : DPW X Γ (.BoolOp .Or (b :: rest) pos) tB') : DPW X Γ (.BoolOp .Or (a :: b :: rest) pos) (dOr tA tB') :=
  PWw (pw_or ha hb) fun σ H Q ⟨F, δ, S, P, sm, rs, h, c⟩ => ⟨F, δ, S, _, sm, rs, h, fun k S1 h1 H1 g1 => by
    cases k with
    | true => exact c _ _ h1 _ g1
    | false => exact ⟨F, δ, S1, P, g1.sim, rs.mono g1.same, h1, c.mono g1⟩⟩
theorem dpt_not (ha : DPT X Γ a tA) : DPT X Γ (.UnaryOp .Not a pos) (dNot tA) :=
  PTw (pt_not ha) fun σ H Q ⟨F, δ, S, P, sm, rs, h, c⟩ => ⟨F, δ, S, _, sm, rs, h, fun k S1 h1 H1 g1 => c _ _ h1 _ g1⟩
theorem dpe_one {op} (h : DPE X Γ a ta) : DPE X Γ (.BoolOp op [a] pos) ta := pe_one h
theorem dpe_and (ha : DPE X Γ a ta) (hb : DPE X Γ (.BoolOp .And (b :: rest) pos) tb) : DPE X Γ (.BoolOp .And (a :: b :: rest) pos) (dAndV ta tb) :=
  PEw (pe_and ha hb) fun σ H Q ⟨F, δ, S, P, sm, rs, h, c⟩ => ⟨F, δ, S, _, sm, rs, h, fun d S1 h1 x H1 g1 rx => by
    cases rx <;> first | exact h1.elim | skip
    rename_i k
    refine ⟨k, rfl, ?_⟩
    cases k with
    | false => exact (c.mono g1).use g1.sim (.bl false) h1
    | true => exact ⟨F, δ, S1, P, g1.sim, rs.mono g1.same, h1, c.mono g1⟩⟩
theorem dpe_or (ha : DPE X Γ a ta) (hb : DPE X Γ (.BoolOp .Or (b :: rest) pos) tb) : DPE X Γ (.BoolOp .Or (a :: b :: rest) pos) (dOrV ta tb) :=
  PEw (pe_or ha hb) fun σ H Q ⟨F, δ, S, P, sm, rs, h, c⟩ => ⟨F, δ, S, _, sm, rs, h, fun d S1 h1 x H1 g1 rx => by
    cases rx <;> first | exact h1.elim | skip
    rename_i k
    refine ⟨k, rfl, ?_⟩
    cases k with
    | true => exact (c.mono g1).use g1.sim (.bl true) h1
    | false => exact ⟨F, δ, S1, P, g1.sim, rs.mono g1.same, h1, c.mono g1⟩⟩
theorem dpe_not (ha : DPE X Γ a ta) : DPE X Γ (.UnaryOp .Not a pos) (dNotV ta) :=
  PEw (pe_not ha) fun σ H Q ⟨F, δ, S, P, sm, rs, h, c⟩ => ⟨F, δ, S, _, sm, rs, h, fun d S1 h1 x H1 g1 rx => by
    cases rx <;> first | exact h1.elim | skip
    exact ⟨_, rfl, (c.mono g1).use g1.sim (.bl _) h1⟩⟩
theorem dpe_ifExp (hc : DPT X Γ c tA) (ha : DPE X Γ a ta) (hb : DPE X Γ b tb) : DPE X Γ (.IfExp c a b pos) (dIfE tA ta tb) :=
  PEw (pe_ifExp hc ha hb) fun σ H Q ⟨F, δ, S, P, sm, rs, h, c⟩ => ⟨F, δ, S, _, sm, rs, h, fun k S1 h1 H1 g1 => by
    cases k with
    | true => exact ⟨F, δ, S1, P, g1.sim, rs.mono g1.same, h1, c.mono g1⟩
    | false => exact ⟨F, δ, S1, P, g1.sim, rs.mono g1.same, h1, c.mono g1⟩⟩
theorem dpa_nil : DPA X Γ [] dNil := PAw pa_nil fun σ H Q ⟨F, δ, S, P, sm, rs, h, c⟩ => c _ _ h _ _ (Go.refl sm) .nil
theorem dpa_cons {e : Expr} {te : DTE} (ha : DPE X Γ e te) (hr : DPA X Γ es t) (hs : starEach (e :: es) X.env = (false, eval e X.env) :: starEach es X.env := by rfl) : DPA X Γ (e :: es) (dCons te t) :=
  PAw (pa_cons ha hr hs) fun σ H Q ⟨F, δ, S, P, sm, rs, h, c⟩ => ⟨F, δ, S, _, sm, rs, h, fun d S1 h1 x H1 g1 rx =>
    ⟨F, δ, S1, _, g1.sim, rs.mono g1.same, h1, fun ds S2 h2 xs H2 g2 rxs => c _ _ h2 _ _ (g1.trans g2) (.cons (rx.mono g2.same) rxs)⟩⟩
theorem fz_newT {K : PySem.W.Frag} {Γ : KG K} {F : Addr → Bool} {S : Sto} {H : Hp} {p : Addr} {xs : List V} {ds : List D} (sm : Sim Γ F S H) (hp : H p = none) (r : RelL K (fz F S H) xs ds) : Rel K (fz F S (upd H p (.tup xs))) (.ref p) (.tup ds) :=
  .tup (.of (fz_new sm hp)) (r.mono (same_new hp))
theorem fz_newL {K : PySem.W.Frag} {Γ : KG K} {F : Addr → Bool} {S : Sto} {H : Hp} {p : Addr} {xs : List V} {ds : List D} (sm : Sim Γ F S H) (hp : H p = none) (r : RelL K (fz F S H) xs ds) : Rel K (fz F S (upd H p (.lst xs))) (.ref p) (.lst ds) :=
  .lst (fz_new sm hp) (r.mono (same_new hp))
theorem dpe_tup {x1} (h : DPA X Γ es t) : DPE X Γ (.Tuple es x1 pos) (dTup t) :=
  PEw (pe_tup h) fun σ H Q ⟨F, δ, S, P, sm, rs, h, c⟩ => ⟨F, δ, S, _, sm, rs, h, fun ds S1 ⟨hn, h1⟩ xs H1 g1 rx => ⟨by rw [rx.length, sizeLine_eq]; omega, fun p hp =>
    (c.mono g1).new g1.sim hp (fz_newT g1.sim hp rx) h1⟩⟩
theorem dpe_lst (h : DPA X Γ es t) : DPE X Γ (.List es pos) (dLst t) :=
  PEw (pe_lst h) fun σ H Q ⟨F, δ, S, P, sm, rs, h, c⟩ => ⟨F, δ, S, _, sm, rs, h, fun ds S1 ⟨hn, h1⟩ xs H1 g1 rx => ⟨by rw [rx.length, sizeLine_eq]; omega, fun p hp =>
    (c.mono g1).new g1.sim hp (fz_newL g1.sim hp rx) h1⟩⟩
theorem dpe_lstM (h : DPA X Γ es t) : DPE X Γ (.List es pos) (dLstM t) :=
  PEw (pe_lst h) fun σ H Q ⟨F, δ, S, P, sm, rs, h, c⟩ => ⟨F, δ, S, _, sm, rs, h, fun ds S1 ⟨hn, h1⟩ xs H1 g1 rx => ⟨by rw [rx.length, sizeLine_eq]; omega, fun p hp =>
    (c.mono g1).newM (u := .lst ds) g1.sim hp ⟨xs, rfl, rx⟩ (.ref p) (h1 p (g1.sim.none hp).2)⟩⟩
theorem lf_call {K : PySem.W.Frag} {Γ : KG K} {q : List V → Hp → VK → Prop} {r : List D → Sto → DK → Prop} (hl : LRL K q r) (σ : St) (H : Hp) (Q : VK) (h : lf Γ (fun δ S Q => t δ S fun ds S1 => r ds S1 Q) σ H Q) : tCB q (lfA Γ t) σ H Q := by
  obtain ⟨F, δ, S, P, sm, rs, h, c⟩ := h
  exact ⟨F, δ, S, _, sm, rs, h, fun ds S1 h1 xs H1 g1 rx => hl xs ds F S1 H1 P Q g1.sim rx h1 (c.mono g1)⟩
end
abbrev dCB (r : List D → Sto → DK → Prop) (t : DTA) : DTE := fun δ S Q => t δ S fun ds S1 => r ds S1 Q
section
variable {X : Cx} {Γ : KG X.K} {a b c e : Expr} {ta tb tc te : DTE} {tA tB' : DTT} {t : DTA} {pos p : Pos} {es rest : List Expr} {r r' : D → D → Sto → DK → Prop} {x : Str} {id T : String}
/-- a built-in function by its name -/
theorem dpe_callB {r : List D → Sto → DK → Prop} (hc : DCall X (.builtin id) r) (hg : Gl X x) (hm : X.mg x = none) (hv : bootBuiltins x = some (.builtin id)) (ha : DPA X Γ (e :: es) t) (hn : x ≠ "__name__" := by decide) (hdb : (x == ("__debug__" : Str)) = false := by decide)
    (he : starEach (e :: es) X.env = (false, eval e X.env) :: starEach es X.env := by rfl) (hpl : (backTo pos (starEach es X.env)).any (·.1) = false := by rfl) : DPE X Γ (.Call (.Name x p) (e :: es) [] pos) (dCB r t) := by
  obtain ⟨q, h1, h2⟩ := hc.ex
  exact PEw (pe_callB h1 hg hm hv ha hn hdb he hpl) (lf_call h2)
theorem dpe_callTy {r : List D → Sto → DK → Prop} (hc : DCall X (.type T) r) (hg : Gl X x) (hm : X.mg x = none) (hv : bootBuiltins x = some (.type T)) (ha : DPA X Γ (e :: es) t) (hn : x ≠ "__name__" := by decide) (hdb : (x == ("__debug__" : Str)) = false := by decide)
    (he : starEach (e :: es) X.env = (false, eval e X.env) :: starEach es X.env := by rfl) (hpl : (backTo pos (starEach es X.env)).any (·.1) = false := by rfl) : DPE X Γ (.Call (.Name x p) (e :: es) [] pos) (dCB r t) := by
  obtain ⟨q, h1, h2⟩ := hc.ex
  exact PEw (pe_callTy h1 hg hm hv ha hn hdb he hpl) (lf_call h2)
/-- a subscript -/
theorem dpe_ix (ho : DIx X r) (ha : DPE X Γ a ta) (hb : DPE X Γ b tb) (hs : PlainIx b := by exact fun _ _ => rfl) : DPE X Γ (.Subscript a b pos) (dOp r ta tb) := by
  obtain ⟨q, h1, h2⟩ := ho.ex
  exact PEw (pe_ix h1 ha hb hs) (lf_op h2)
end
/-! ### slices -/
abbrev DTO := DSt → Sto → (Option Int → Sto → Prop) → Prop
def CtO {K : PySem.W.Frag} (Γ : KG K) (F : Addr → Bool) (S : Sto) (H : Hp) (P : Option Int → Sto → Prop) (Q : Option Int → Hp → Prop) : Prop := ∀ b S', P b S' → ∀ H', Go Γ F S H S' H' → Q b H'
def lfO {K : PySem.W.Frag} (Γ : KG K) (t : DTO) : TO := fun σ H Q => ∃ F δ S P, Sim Γ F S H ∧ RelS K (fz F S H) σ δ ∧ t δ S P ∧ CtO Γ F S H P Q
def DPO (X : Cx) (Γ : KG X.K) (e : Option Expr) (t : DTO) : Prop := PO X e (lfO Γ t)
abbrev dNoPart : DTO := fun _ S Q => Q none S
abbrev dPart (t : DTE) : DTO := fun δ S Q => t δ S fun x S1 => match x with | .int i => Q (some i) S1 | _ => False
abbrev dSl (r : D → Option Int → Option Int → Sto → DK → Prop) (te : DTE) (tl th : DTO) : DTE := fun δ S Q => te δ S fun x S1 => tl δ S1 fun l S2 => th δ S2 fun u S3 => r x l u S3 Q
structure DSlR (X : Cx) (r' : D → Option Int → Option Int → Sto → DK → Prop) : Prop where
  ex : ∃ r, SlR X r ∧ ∀ {Γ : KG X.K} x dx lo hi F S H P Q, Sim Γ F S H → Rel X.K (fz F S H) x dx → r' dx lo hi S P → Ct Γ F S H P Q → r x lo hi H Q
theorem DSlR.or {X : Cx} {r s : D → Option Int → Option Int → Sto → DK → Prop} (h : DSlR X r) (g : DSlR X s) : DSlR X (fun x l u S Q => r x l u S Q ∨ s x l u S Q) := by
  obtain ⟨a, h1, h2⟩ := h.ex
  obtain ⟨b, g1, g2⟩ := g.ex
  exact ⟨_, h1.or g1, fun x dx lo hi F S H P Q sm rx q c => q.elim (fun q => .inl (h2 x dx lo hi F S H P Q sm rx q c)) fun q => .inr (g2 x dx lo hi F S H P Q sm rx q c)⟩
theorem DSlR.imp {X : Cx} {r s : D → Option Int → Option Int → Sto → DK → Prop} (h : DSlR X r) (w : ∀ x l u S Q, s x l u S Q → r x l u S Q) : DSlR X s := by
  obtain ⟨a, h1, h2⟩ := h.ex
  exact ⟨_, h1, fun x dx lo hi F S H P Q sm rx q c => h2 x dx lo hi F S H P Q sm rx (w _ _ _ _ _ q) c⟩
section
variable {X : Cx} {Γ : KG X.K} {a b c e : Expr} {ta tb tc te : DTE} {tl th : DTO} {pos p2 : Pos} {lo hi : Option Expr}
theorem dpo_none : DPO X Γ none dNoPart := ⟨fun pins s σ H Q I ⟨F, δ, S, P, sm, rs, h, c⟩ => po_none.run pins s σ H Q I (c _ _ h _ (Go.refl sm))⟩
theorem dpo_some (h : DPE X Γ e te) : DPO X Γ (some e) (dPart te) := ⟨fun pins s σ H Q I ⟨F, δ, S, P, sm, rs, hh, c⟩ => (po_some h).run pins s σ H Q I (by
  refine ⟨F, δ, S, _, sm, rs, hh, fun d S1 h1 x H1 g1 rx => ?_⟩
  cases rx <;> first | exact h1.elim | skip
  exact ⟨_, rfl, c _ _ h1 _ g1⟩)⟩
theorem dpe_slice {r : D → Option Int → Option Int → Sto → DK → Prop} (hr : DSlR X r) (he : DPE X Γ e te) (hl : DPO X Γ lo tl) (hu : DPO X Γ hi th) : DPE X Γ (.Subscript e (.Slice lo hi none p2) pos) (dSl r te tl th) := by
  obtain ⟨q, h1, h2⟩ := hr.ex
  refine PEw (pe_slice h1 he hl hu) fun σ H Q ⟨F, δ, S, P, sm, rs, h, c⟩ => ?_
  refine ⟨F, δ, S, _, sm, rs, h, fun dx S1 k1 x H1 g1 rx => ?_⟩
  refine ⟨F, δ, S1, _, g1.sim, rs.mono g1.same, k1, fun l S2 k2 H2 g2 => ?_⟩
  refine ⟨F, δ, S2, _, g2.sim, rs.mono (g1.same.trans g2.same), k2, fun u S3 k3 H3 g3 => ?_⟩
  exact h2 x dx l u F S3 H3 P Q g3.sim (rx.mono (g2.same.trans g3.same)) k3 (c.mono ((g1.trans g2).trans g3))
end
end L3

set_option Elab.async false
set_option maxRecDepth 100000
set_option linter.all false
set_option maxHeartbeats 2000000
namespace L3
open PySem L2
/-! ### operations on data -/
mutual
def toP : D → PyData
  | .non => .none
  | .bl b => .bool b
  | .int i => .int i
  | .str x => .str x
  | .tup ds => .tuple (toPs ds)
  | .lst ds => .list (toPs ds)
  | .ro ds => .list (toPs ds)
  | .ref _ => .none
  | .ty _ => .none
def toPs : List D → List PyData
  | [] => []
  | d :: ds => toP d :: toPs ds
end
mutual
/-- data that == may be asked of -/
def okE : D → Bool
  | .non => true
  | .bl _ => true
  | .int _ => true
  | .str x => PyData.canLay0 (.str x)
  | .tup ds => okEs ds
  | .lst ds => okEs ds
  | .ro ds => okEs ds
  | .ref _ => false
  | .ty _ => false
def okEs : List D → Bool
  | [] => true
  | d :: ds => okE d && okEs ds
end
mutual
def dep : D → Nat
  | .tup ds => deps ds + 1
  | .lst ds => deps ds + 1
  | .ro ds => deps ds + 1
  | _ => 0
def deps : List D → Nat
  | [] => 0
  | d :: ds => max (dep d) (deps ds)
end
def eqv (x y : D) : Bool := PyData.eqv (toP x) (toP y)
mutual
theorem okE_lay : ∀ d : D, okE d = true → (toP d).canLay0 = true
  | .non, _ => by simp only [toP, PyData.canLay0]
  | .bl _, _ => by simp only [toP, PyData.canLay0]
  | .int _, _ => by simp only [toP, PyData.canLay0]
  | .str x, h => by simpa only [okE, toP] using h
  | .tup ds, h => by simp only [okE] at h; simp only [toP, PyData.canLay0]; exact okEs_lay ds h
  | .lst ds, h => by simp only [okE] at h; simp only [toP, PyData.canLay0]; exact okEs_lay ds h
  | .ro ds, h => by simp only [okE] at h; simp only [toP, PyData.canLay0]; exact okEs_lay ds h
  | .ref _, h => by simp [okE] at h
  | .ty _, h => by simp [okE] at h
theorem okEs_lay : ∀ ds : List D, okEs ds = true → PyData.canLayAll0 (toPs ds) = true
  | [], _ => by simp only [toPs, PyData.canLayAll0]
  | d :: ds, h => by
    simp only [okEs, Bool.and_eq_true] at h
    simp only [toPs, PyData.canLayAll0, okE_lay d h.1, okEs_lay ds h.2, Bool.and_self]
end
mutual
theorem dep_toP : ∀ d : D, (toP d).depth = dep d
  | .non => by simp only [toP, PyData.depth, dep]
  | .bl _ => by simp only [toP, PyData.depth, dep]
  | .int _ => by simp only [toP, PyData.depth, dep]
  | .str x => by simp only [toP, PyData.depth, dep]
  | .tup ds => by simp only [toP, PyData.depth, dep, dep_toPs ds]
  | .lst ds => by simp only [toP, PyData.depth, dep, dep_toPs ds]
  | .ro ds => by simp only [toP, PyData.depth, dep, dep_toPs ds]
  | .ref _ => by simp only [toP, PyData.depth, dep]
  | .ty _ => by simp only [toP, PyData.depth, dep]
theorem dep_toPs : ∀ ds : List D, PyData.depthAll (toPs ds) = deps ds
  | [] => by simp only [toPs, PyData.depthAll, deps]
  | d :: ds => by simp only [toPs, PyData.depthAll, deps, dep_toP d, dep_toPs ds]
end
theorem shaped_of {d : D} (h : okE d = true) (z : dep d ≤ 64) : SeqAt.shaped (toP d) = true := by
  unfold SeqAt.shaped
  rw [okE_lay d h, dep_toP]
  simpa using z
section
variable {K : PySem.W.Frag} {Γ : KG K} {G : Hp}
mutual
theorem Rel.dp : ∀ {v : V} {d : D}, Rel K G v d → okE d = true → Dp K G v (toP d)
  | _, _, .non, _ => by simp only [toP]; exact .non
  | _, _, .bl b, _ => by simp only [toP]; exact .bl b
  | _, _, .int i, _ => by simp only [toP]; exact .int i
  | _, _, .str x, _ => by simp only [toP]; exact .str x
  | _, _, .ref _, h => by simp [okE] at h
  | _, _, .ty _, h => by simp [okE] at h
  | _, _, .tup h r, k => by simp only [toP]; exact .tup h (RelL.dp r (by simpa only [okE] using k))
  | _, _, .lst h r, k => by simp only [toP]; exact .lst (.of h) (RelL.dp r (by simpa only [okE] using k))
  | _, _, .ro h r, k => by simp only [toP]; exact .lst h (RelL.dp r (by simpa only [okE] using k))
theorem RelL.dp : ∀ {vs : List V} {ds : List D}, RelL K G vs ds → okEs ds = true → DpAll K G vs (toPs ds)
  | _, _, .nil, _ => by simp only [toPs]; exact .nil
  | _, _, .cons r t, k => by
    simp only [okEs, Bool.and_eq_true] at k
    simp only [toPs]
    exact .cons (Rel.dp r k.1) (RelL.dp t k.2)
end
end
/-- == by data -/
def vEq : D → D → Sto → DK → Prop
  | .int i, .int j, S, Q => Q (.bl (decide (i = j))) S
  | .str i, .str j, S, Q => Q (.bl (decide (i = j))) S
  | .bl i, .bl j, S, Q => Q (.bl (decide (i = j))) S
  | x, y, S, Q => okE x = true ∧ okE y = true ∧ dep x ≤ 64 ∧ dep y ≤ 64 ∧ Q (.bl (eqv x y)) S
def vNe : D → D → Sto → DK → Prop
  | .int i, .int j, S, Q => Q (.bl (!decide (i = j))) S
  | .str i, .str j, S, Q => Q (.bl (!decide (i = j))) S
  | .bl i, .bl j, S, Q => Q (.bl (!decide (i = j))) S
  | x, y, S, Q => okE x = true ∧ okE y = true ∧ dep x ≤ 64 ∧ dep y ≤ 64 ∧ Q (.bl (!eqv x y)) S
def rEqA (K : PySem.W.Frag) : R2 := fun x y H Q => rEq x y H Q ∨ rEqD K x y H Q
def rNeA (K : PySem.W.Frag) : R2 := fun x y H Q => rNe x y H Q ∨ rNeD K x y H Q
section
variable {X : Cx} {Γ : KG X.K}
theorem dop_eq (hu : X.A.units + 64 < cLine) : DOp X (compareOp .Eq) vEq := by
  refine ⟨_, op_eq.or (op_eqD hu), fun x y dx dy F S H P Q sm rx ry h c => ?_⟩
  have fin : okE dx = true ∧ okE dy = true ∧ dep dx ≤ 64 ∧ dep dy ≤ 64 ∧ P (.bl (eqv dx dy)) S → rEq x y H Q ∨ rEqD X.K x y H Q := fun ⟨h1, h2, h3, h4, h5⟩ =>
    .inr ⟨_, _, (rx.mono (fz_same F S H)).dp h1, (ry.mono (fz_same F S H)).dp h2, shaped_of h1 h3, shaped_of h2 h4, c.use sm (.bl _) h5⟩
  cases dx <;> cases dy <;> first
    | exact fin h
    | (cases rx; cases ry
       refine .inl ⟨rfl, ?_⟩
       refine c.use sm ?_ h
       simp only [reduceCtorEq, V.int.injEq, V.str.injEq, V.bl.injEq]
       exact .bl _)
theorem dop_ne (hu : X.A.units + 64 < cLine) : DOp X (compareOp .NotEq) vNe := by
  refine ⟨_, op_ne.or (op_neD hu), fun x y dx dy F S H P Q sm rx ry h c => ?_⟩
  have fin : okE dx = true ∧ okE dy = true ∧ dep dx ≤ 64 ∧ dep dy ≤ 64 ∧ P (.bl (!eqv dx dy)) S → rNe x y H Q ∨ rNeD X.K x y H Q := fun ⟨h1, h2, h3, h4, h5⟩ =>
    .inr ⟨_, _, (rx.mono (fz_same F S H)).dp h1, (ry.mono (fz_same F S H)).dp h2, shaped_of h1 h3, shaped_of h2 h4, c.use sm (.bl _) h5⟩
  cases dx <;> cases dy <;> first
    | exact fin h
    | (cases rx; cases ry
       refine .inl ⟨rfl, ?_⟩
       refine c.use sm ?_ h
       simp only [reduceCtorEq, V.int.injEq, V.str.injEq, V.bl.injEq]
       exact .bl _)
end
/-! ints -/
abbrev vII (C : Int → Int → Prop) (g : Int → Int → D) : D → D → Sto → DK → Prop
  | .int i, .int j, S, Q => C i j ∧ Q (g i j) S
  | _, _, _, _ => False
abbrev vII0 (g : Int → Int → D) : D → D → Sto → DK → Prop
  | .int i, .int j, S, Q => Q (g i j) S
  | _, _, _, _ => False
section
variable {X : Cx} {Γ : KG X.K} {f : Value → Value → Sem Value}
theorem dop_II {C : Int → Int → Prop} {g : Int → Int → V} {g' : Int → Int → D} (h : OpR X f (rI C g)) (hr : ∀ G i j, Rel X.K G (g i j) (g' i j)) : DOp X f (vII C g') :=
  ⟨_, h, fun x y dx dy F S H P Q sm rx ry q c => by
    cases dx <;> first | exact q.elim | skip
    cases dy <;> first | exact q.elim | skip
    cases rx; cases ry
    exact ⟨_, _, rfl, rfl, q.1, c.use sm (hr _ _ _) q.2⟩⟩
theorem dop_II0 {g : Int → Int → V} {g' : Int → Int → D} (h : OpR X f (rI0 g)) (hr : ∀ G i j, Rel X.K G (g i j) (g' i j)) : DOp X f (vII0 g') :=
  ⟨_, h, fun x y dx dy F S H P Q sm rx ry q c => by
    cases dx <;> first | exact q.elim | skip
    cases dy <;> first | exact q.elim | skip
    cases rx; cases ry
    exact ⟨_, _, rfl, rfl, c.use sm (hr _ _ _) q⟩⟩
end
def vLt : D → D → Sto → DK → Prop := vII0 fun i j => .bl (decide (i < j))
def vLe : D → D → Sto → DK → Prop := vII0 fun i j => .bl (decide (i ≤ j))
def vGt : D → D → Sto → DK → Prop := vII0 fun i j => .bl (decide (j < i))
def vGe : D → D → Sto → DK → Prop := vII0 fun i j => .bl (decide (j ≤ i))
def vSub : D → D → Sto → DK → Prop := vII0 fun i j => .int (i - j)
def vMod : D → D → Sto → DK → Prop := vII (fun _ j => 0 < j) fun i j => .int (i % j)
def vDiv : D → D → Sto → DK → Prop := vII CDiv fun i j => .int (i / j)
def vPow : D → D → Sto → DK → Prop := vII CPow fun i j => .int (i ^ j.toNat)
def vShl : D → D → Sto → DK → Prop := vII CPow fun i j => .int (i * 2 ^ j.toNat)
section
variable {X : Cx} {Γ : KG X.K}
theorem dop_lt : DOp X (compareOp .Lt) vLt := dop_II0 op_lt fun _ _ _ => .bl _
theorem dop_le : DOp X (compareOp .LtE) vLe := dop_II0 op_le fun _ _ _ => .bl _
theorem dop_gt : DOp X (compareOp .Gt) vGt := dop_II0 op_gt fun _ _ _ => .bl _
theorem dop_ge : DOp X (compareOp .GtE) vGe := dop_II0 op_ge fun _ _ _ => .bl _
theorem dop_sub : DOp X (binaryOp .Sub) vSub := dop_II0 op_sub fun _ _ _ => .int _
theorem dop_mod : DOp X (binaryOp .Mod) vMod := dop_II op_mod fun _ _ _ => .int _
theorem dop_div : DOp X (binaryOp .FloorDiv) vDiv := dop_II op_fdiv fun _ _ _ => .int _
theorem dop_pow : DOp X (binaryOp .Pow) vPow := dop_II op_pow fun _ _ _ => .int _
theorem dop_shl : DOp X (binaryOp .LShift) vShl := dop_II op_shl fun _ _ _ => .int _
end
/-- a product: of ints (one small, or together below a million bits), of a tuple and a number -/
def vMul : D → D → Sto → DK → Prop
  | .int i, .int j, S, Q => (CMul i j ∨ CMulW i j) ∧ Q (.int (i * j)) S
  | .tup ds, .int k, S, Q => ds ≠ [] ∧ 2 ≤ k ∧ k ≤ 1000 ∧ ds.length ≤ 1000 ∧ Q (.tup (List.replicate k.toNat ds).flatten) S
  | .lst ds, .int k, S, Q => -(2 ^ 63) ≤ k ∧ k < 2 ^ 63 ∧ ds.length * k.toNat ≤ sizeLine ∧ Q (.lst (List.replicate k.toNat ds).flatten) S
  | _, _, _, _ => False
theorem RelL.rep {K : PySem.W.Frag} {G : Hp} {xs : List V} {ds : List D} (r : RelL K G xs ds) : ∀ n : Nat, RelL K G (List.replicate n xs).flatten (List.replicate n ds).flatten
  | 0 => .nil
  | n + 1 => by
    rw [List.replicate_succ, List.replicate_succ, List.flatten_cons, List.flatten_cons]
    exact r.append (RelL.rep r n)
section
variable {X : Cx} {Γ : KG X.K}
theorem dop_mul : DOp X (binaryOp .Mult) vMul := by
  refine ⟨_, (op_mul.or op_mulW).or (op_repT.or op_rep), fun x y dx dy F S H P Q sm rx ry q c => ?_⟩
  cases dx <;> first | exact (q : False).elim | skip
  all_goals cases dy <;> first | exact (q : False).elim | skip
  · cases rx; cases ry
    obtain ⟨h1, h2⟩ := q
    rcases h1 with h1 | h1
    · exact .inl (.inl ⟨_, _, rfl, rfl, h1, c.use sm (.int _) h2⟩)
    · exact .inl (.inr ⟨_, _, rfl, rfl, h1, c.use sm (.int _) h2⟩)
  · cases ry
    cases rx with
    | tup hs rl =>
    obtain ⟨h1, h2, h3, h4, h5⟩ := q
    refine .inr (.inl ⟨_, _, _, rfl, rfl, sqT_mono (fz_same F S H) hs, fun z => h1 ?_, h2, h3, by rw [rl.length]; exact h4, fun p hp => c.new sm hp (fz_newT sm hp (rl.rep _)) h5⟩)
    subst z
    cases rl
    rfl
  · cases ry
    cases rx with
    | lst hs rl =>
    obtain ⟨h2, h3, h4, h5⟩ := q
    exact .inr (.inr ⟨_, _, _, rfl, rfl, fz_same F S H _ _ hs, h2, h3, by rw [rl.length]; exact h4, fun p hp => c.new sm hp (fz_newL sm hp (rl.rep _)) h5⟩)
end
/-- a sum -/
def vAdd : D → D → Sto → DK → Prop
  | .int i, .int j, S, Q => Q (.int (i + j)) S
  | .str a, .str b, S, Q => a.length + b.length ≤ sizeLine ∧ Q (.str (a ++ b)) S
  | .tup a, .tup b, S, Q => a.length + b.length ≤ sizeLine ∧ Q (.tup (a ++ b)) S
  | .lst a, .lst b, S, Q => a.length + b.length ≤ sizeLine ∧ Q (.lst (a ++ b)) S
  | .ref a, .lst b, S, Q => match S a with
    | some (.lst ds) => ds.length + b.length ≤ sizeLine ∧ Q (.lst (ds ++ b)) S
    | _ => False
  | _, _, _, _ => False
theorem Sim.lst {K : PySem.W.Frag} {Γ : KG K} {F : Addr → Bool} {S : Sto} {H : Hp} {a : Addr} {ds : List D} (sm : Sim Γ F S H) (h : S a = some (.lst ds)) : ∃ vs, H a = some (.lst vs) ∧ RelL K (fz F S H) vs ds := (sm.at_ a _ h).2
section
variable {X : Cx} {Γ : KG X.K}
theorem dop_add : DOp X (binaryOp .Add) vAdd := by
  refine ⟨_, (op_add.or op_add_str).or (op_catA.or op_cat), fun x y dx dy F S H P Q sm rx ry q c => ?_⟩
  cases dx <;> first | exact (q : False).elim | skip
  all_goals cases dy <;> first | exact (q : False).elim | skip
  · cases rx; cases ry
    exact .inl (.inl ⟨_, _, rfl, rfl, c.use sm (.int _) q⟩)
  · cases rx; cases ry
    exact .inl (.inr ⟨_, _, rfl, rfl, q.1, c.use sm (.str _) q.2⟩)
  · cases rx with
    | tup hs rl =>
    cases ry with
    | tup hs2 rl2 =>
    obtain ⟨h1, h2⟩ := q
    refine .inr (.inl ⟨_, _, _, _, rfl, rfl, sqT_mono (fz_same F S H) hs, sqT_mono (fz_same F S H) hs2, by rw [rl.length, rl2.length]; exact h1, fun z => ?_, fun _ z => ?_, fun _ _ p hp => ?_⟩)
    · subst z
      cases rl
      exact c.use sm (.tup hs2 rl2) h2
    · subst z
      cases rl2
      exact c.use sm (.tup hs (by rw [List.append_nil]; exact rl)) h2
    · exact c.new sm hp (fz_newT sm hp (rl.append rl2)) h2
  · cases rx with
    | lst hs rl =>
    cases ry with
    | lst hs2 rl2 =>
    obtain ⟨h1, h2⟩ := q
    exact .inr (.inr ⟨_, _, _, _, rfl, rfl, fz_same F S H _ _ hs, fz_same F S H _ _ hs2, by rw [rl.length, rl2.length]; exact h1, fun p hp => c.new sm hp (fz_newL sm hp (rl.append rl2)) h2⟩)
  · cases rx
    cases ry with
    | lst hs2 rl2 =>
    rename_i a ds _ _
    simp only [vAdd] at q
    split at q
    · rename_i ds' e
      obtain ⟨vs, e1, r1⟩ := sm.lst e
      obtain ⟨h1, h2⟩ := q
      exact .inr (.inr ⟨_, _, _, _, rfl, rfl, e1, fz_same F S H _ _ hs2, by rw [r1.length, rl2.length]; exact h1, fun p hp => c.new sm hp (fz_newL sm hp (r1.append rl2)) h2⟩)
    · exact q.elim
end
/-! is None -/
def isN : D → Bool
  | .non => true
  | _ => false
theorem Rel.isN {K : PySem.W.Frag} {G : Hp} {v : V} {d : D} (r : Rel K G v d) : decide (v = .non) = isN d := by
  cases r <;> simp [L3.isN]
def vIs : D → D → Sto → DK → Prop
  | x, .non, S, Q => Q (.bl (isN x)) S
  | _, _, _, _ => False
def vIsNot : D → D → Sto → DK → Prop
  | x, .non, S, Q => Q (.bl (!isN x)) S
  | _, _, _, _ => False
section
variable {X : Cx} {Γ : KG X.K}
theorem dop_is : DOp X (compareOp .Is) vIs := by
  refine ⟨_, op_isN, fun x y dx dy F S H P Q sm rx ry q c => ?_⟩
  cases ry <;> first | exact (q : False).elim | skip
  exact ⟨rfl, c.use sm (d := .bl (isN dx)) (by rw [rx.isN]; exact .bl _) q⟩
theorem dop_isnot : DOp X (compareOp .IsNot) vIsNot := by
  refine ⟨_, op_notN, fun x y dx dy F S H P Q sm rx ry q c => ?_⟩
  cases ry <;> first | exact (q : False).elim | skip
  exact ⟨rfl, c.use sm (d := .bl (!isN dx)) (by rw [rx.isN]; exact .bl _) q⟩
def vNeg : D → Sto → DK → Prop
  | .int i, S, Q => Q (.int (-i)) S
  | _, _, _ => False
theorem dun_neg : DUn X (unaryOp .USub) vNeg := by
  refine ⟨_, un_neg, fun x dx F S H P Q sm rx q c => ?_⟩
  cases rx <;> first | exact (q : False).elim | skip
  exact ⟨_, rfl, c.use sm (.int _) q⟩
end
/-! subscripts -/
def vIx : D → D → Sto → DK → Prop
  | .tup ds, .int i, S, Q => match atI ds i with | some d => Q d S | none => False
  | .lst ds, .int i, S, Q => match atI ds i with | some d => Q d S | none => False
  | .ro ds, .int i, S, Q => match atI ds i with | some d => Q d S | none => False
  | .str z, .int i, S, Q => z.length ≤ sizeLine ∧ match atI z.cps.toList i with | some c => Q (.str ⟨#[c]⟩) S | none => False
  | .ref a, .int i, S, Q => match S a with
    | some (.lst ds) => match atI ds i with | some d => Q d S | none => False
    | _ => False
  | _, _, _, _ => False
theorem RelL.atI {K : PySem.W.Frag} {G : Hp} {xs : List V} {ds : List D} {i : Int} {d : D} (r : RelL K G xs ds) (h : L2.atI ds i = some d) : ∃ v, L2.atI xs i = some v ∧ Rel K G v d := by
  unfold L2.atI at h ⊢
  rw [r.length]
  cases e : ixN ds.length i with
  | none => rw [e] at h; cases h
  | some j =>
    rw [e] at h
    exact r.get h
section
variable {X : Cx} {Γ : KG X.K}
theorem dix : DIx X vIx := by
  refine ⟨_, ix_seq, fun x y dx dy F S H P Q sm rx ry q c => ?_⟩
  cases dx <;> first | exact (q : False).elim | skip
  all_goals cases dy <;> first | exact (q : False).elim | skip
  all_goals cases ry
  · cases rx
    obtain ⟨h1, h2⟩ := q
    split at h2
    · rename_i e
      exact .inr (.inr ⟨_, _, _, rfl, rfl, h1, e, c.use sm (.str _) h2⟩)
    · exact h2.elim
  · cases rx with
    | tup hs rl =>
    simp only [vIx] at q
    split at q
    · rename_i e
      obtain ⟨v, e1, r1⟩ := rl.atI e
      exact .inr (.inl ⟨_, _, _, _, rfl, rfl, sqT_mono (fz_same F S H) hs, e1, c.use sm r1 q⟩)
    · exact q.elim
  · cases rx with
    | lst hs rl =>
    simp only [vIx] at q
    split at q
    · rename_i e
      obtain ⟨v, e1, r1⟩ := rl.atI e
      exact .inl ⟨_, _, _, _, rfl, rfl, .of (fz_same F S H _ _ hs), e1, c.use sm r1 q⟩
    · exact q.elim
  · cases rx with
    | ro hs rl =>
    simp only [vIx] at q
    split at q
    · rename_i e
      obtain ⟨v, e1, r1⟩ := rl.atI e
      exact .inl ⟨_, _, _, _, rfl, rfl, (fz_same F S H).seq hs, e1, c.use sm r1 q⟩
    · exact q.elim
  · cases rx
    simp only [vIx] at q
    split at q
    · rename_i e
      obtain ⟨vs, e1, r1⟩ := sm.lst e
      split at q
      · rename_i e2
        obtain ⟨v, e3, r3⟩ := r1.atI e2
        exact .inl ⟨_, _, _, _, rfl, rfl, .of e1, e3, c.use sm r3 q⟩
      · exact q.elim
    · exact q.elim
end
/-! slices -/
def cut {α : Type} (xs : List α) (lo hi : Option Int) : List α := (xs.drop (HT.sIx xs.length 0 lo)).take (HT.sIx xs.length xs.length hi - HT.sIx xs.length 0 lo)
theorem RelL.cut {K : PySem.W.Frag} {G : Hp} {xs : List V} {ds : List D} (r : RelL K G xs ds) (lo hi : Option Int) : RelL K G (cutV xs lo hi) (L3.cut ds lo hi) := by
  unfold cutV L3.cut
  rw [r.length]
  exact (r.drop _).take _
theorem cut_whole {α : Type} {xs : List α} {lo hi : Option Int} (h : HT.sIx xs.length 0 lo = 0 ∧ HT.sIx xs.length xs.length hi = xs.length) : cut xs lo hi = xs := by
  unfold cut
  rw [h.1, h.2]
  simp
def vSl : D → Option Int → Option Int → Sto → DK → Prop
  | .tup ds, lo, hi, S, Q => Q (.tup (cut ds lo hi)) S
  | .lst ds, lo, hi, S, Q => Q (.lst (cut ds lo hi)) S
  | .ro ds, lo, hi, S, Q => Q (.lst (cut ds lo hi)) S
  | .str z, lo, hi, S, Q => z.length ≤ sizeLine ∧ Q (.str (cutS z lo hi)) S
  | .ref a, lo, hi, S, Q => match S a with
    | some (.lst ds) => Q (.lst (cut ds lo hi)) S
    | _ => False
  | _, _, _, _, _ => False
section
variable {X : Cx} {Γ : KG X.K}
theorem dsl : DSlR X vSl := by
  refine ⟨_, (sl_tupA.or sl_list).or sl_str, fun x dx lo hi F S H P Q sm rx q c => ?_⟩
  cases rx <;> first | exact (q : False).elim | skip
  · exact .inr ⟨_, rfl, q.1, c.use sm (.str _) q.2⟩
  · simp only [vSl] at q
    split at q
    · rename_i e
      obtain ⟨vs, e1, r1⟩ := sm.lst e
      exact .inl (.inr ⟨_, _, rfl, .of e1, fun p hp => c.new sm hp (fz_newL sm hp (r1.cut lo hi)) q⟩)
    · exact q.elim
  · rename_i hs rl
    refine .inl (.inl ⟨_, _, rfl, sqT_mono (fz_same F S H) hs, fun z => ?_, fun _ p hp => c.new sm hp (fz_newT sm hp (rl.cut lo hi)) q⟩)
    have e := cut_whole z
    have z' := z
    rw [rl.length] at z'
    have q : P (.tup (cut _ lo hi)) S := q
    rw [cut_whole z'] at q
    exact c.use sm (.tup hs rl) q
  · rename_i hs rl
    exact .inl (.inr ⟨_, _, rfl, .of (fz_same F S H _ _ hs), fun p hp => c.new sm hp (fz_newL sm hp (rl.cut lo hi)) q⟩)
  · rename_i hs rl
    exact .inl (.inr ⟨_, _, rfl, (fz_same F S H).seq hs, fun p hp => c.new sm hp (fz_newL sm hp (rl.cut lo hi)) q⟩)
end
/-! built-in functions -/
def vLen : List D → Sto → DK → Prop
  | [.str z], S, Q => z.length ≤ sizeLine ∧ Q (.int z.length) S
  | [.tup ds], S, Q => Q (.int ds.length) S
  | [.lst ds], S, Q => Q (.int ds.length) S
  | [.ro ds], S, Q => Q (.int ds.length) S
  | [.ref a], S, Q => match S a with
    | some (.lst ds) => Q (.int ds.length) S
    | some (.dK kvs) => Q (.int kvs.length) S
    | _ => False
  | _, _, _ => False
theorem RelF.length {K : PySem.W.Frag} {G : Hp} {κ : Type} : ∀ {vs : List (κ × V)} {ds : List (κ × D)}, RelF K G vs ds → vs.length = ds.length
  | _, _, .nil => rfl
  | _, _, .cons _ r => by simp [RelF.length r]
section
variable {X : Cx} {Γ : KG X.K}
theorem dcall_len : DCall X (.builtin "len") vLen := by
  refine ⟨_, call_len.or call_lenD, fun xs ds F S H P Q sm rx q c => ?_⟩
  cases rx with
  | nil => exact (q : False).elim
  | cons r1 r2 =>
  cases r2 with
  | cons _ _ => cases r1 <;> exact (q : False).elim
  | nil =>
  cases r1 <;> first | exact (q : False).elim | skip
  · exact .inl ⟨_, _, rfl, ⟨q.1, rfl⟩, c.use sm (.int _) q.2⟩
  · simp only [vLen] at q
    split at q
    · rename_i e
      obtain ⟨vs, e1, r1⟩ := sm.lst e
      exact .inl ⟨_, _, rfl, .inl ⟨_, .of e1, rfl⟩, c.use sm (by rw [r1.length]; exact .int _) q⟩
    · rename_i e
      obtain ⟨vs, e1, r1⟩ := (sm.at_ _ _ e).2
      exact .inr ⟨_, _, rfl, e1, c.use sm (by rw [r1.length]; exact .int _) q⟩
    · exact q.elim
  · rename_i hs rl
    exact .inl ⟨_, _, rfl, .inr ⟨_, sqT_mono (fz_same F S H) hs, rfl⟩, c.use sm (by rw [rl.length]; exact .int _) q⟩
  · rename_i hs rl
    exact .inl ⟨_, _, rfl, .inl ⟨_, .of (fz_same F S H _ _ hs), rfl⟩, c.use sm (by rw [rl.length]; exact .int _) q⟩
  · rename_i hs rl
    exact .inl ⟨_, _, rfl, .inl ⟨_, (fz_same F S H).seq hs, rfl⟩, c.use sm (by rw [rl.length]; exact .int _) q⟩
def vAbs : List D → Sto → DK → Prop
  | [.int i], S, Q => Q (.int (if i < 0 then -i else i)) S
  | _, _, _ => False
def vMin2 : List D → Sto → DK → Prop
  | [.int i, .int j], S, Q => Q (.int (if j < i then j else i)) S
  | _, _, _ => False
def vMax2 : List D → Sto → DK → Prop
  | [.int i, .int j], S, Q => Q (.int (if j > i then j else i)) S
  | _, _, _ => False
def vInt : List D → Sto → DK → Prop
  | [.int i], S, Q => Q (.int i) S
  | [.bl k], S, Q => Q (.int (if k then 1 else 0)) S
  | _, _, _ => False
def vBool : List D → Sto → DK → Prop
  | [.int i], S, Q => Q (.bl (i != 0)) S
  | [.bl k], S, Q => Q (.bl k) S
  | _, _, _ => False
theorem dcall_abs : DCall X (.builtin "abs") vAbs := by
  refine ⟨_, call_abs, fun xs ds F S H P Q sm rx q c => ?_⟩
  cases rx with
  | nil => exact (q : False).elim
  | cons r1 r2 =>
  cases r2 with
  | cons _ _ => cases r1 <;> exact (q : False).elim
  | nil =>
  cases r1 <;> first | exact (q : False).elim | skip
  exact ⟨_, rfl, c.use sm (.int _) q⟩
theorem dcall_int : DCall X (.type "int") vInt := by
  refine ⟨_, call_int1, fun xs ds F S H P Q sm rx q c => ?_⟩
  cases rx with
  | nil => exact (q : False).elim
  | cons r1 r2 =>
  cases r2 with
  | cons _ _ => cases r1 <;> exact (q : False).elim
  | nil =>
  cases r1 <;> first | exact (q : False).elim | skip
  · exact .inr ⟨_, rfl, c.use sm (.int _) q⟩
  · exact .inl ⟨_, rfl, c.use sm (.int _) q⟩
theorem dcall_bool : DCall X (.type "bool") vBool := by
  refine ⟨_, call_bool1, fun xs ds F S H P Q sm rx q c => ?_⟩
  cases rx with
  | nil => exact (q : False).elim
  | cons r1 r2 =>
  cases r2 with
  | cons _ _ => cases r1 <;> exact (q : False).elim
  | nil =>
  cases r1 <;> first | exact (q : False).elim | skip
  · exact .inr ⟨_, rfl, c.use sm (.bl _) q⟩
  · exact .inl ⟨_, rfl, c.use sm (.bl _) q⟩
theorem dcall_min2 (hc : X.calm = true) : DCall X (.builtin "min") vMin2 := by
  refine ⟨_, call_min2 hc, fun xs ds F S H P Q sm rx q c => ?_⟩
  rcases ds with _ | ⟨d1, _ | ⟨d2, _ | ⟨d3, ds⟩⟩⟩ <;> first | exact (q : False).elim | (cases d1 <;> exact (q : False).elim) | skip
  · cases d1 <;> first | exact (q : False).elim | skip
    cases d2 <;> first | exact (q : False).elim | skip
    cases rx with
    | cons r1 r2 =>
    cases r2 with
    | cons r2 r3 =>
    cases r1; cases r2; cases r3
    exact ⟨_, _, rfl, c.use sm (.int _) q⟩
  · cases d1 <;> first | exact (q : False).elim | skip
    cases d2 <;> exact (q : False).elim
theorem dcall_max2 (hc : X.calm = true) : DCall X (.builtin "max") vMax2 := by
  refine ⟨_, call_max2 hc, fun xs ds F S H P Q sm rx q c => ?_⟩
  rcases ds with _ | ⟨d1, _ | ⟨d2, _ | ⟨d3, ds⟩⟩⟩ <;> first | exact (q : False).elim | (cases d1 <;> exact (q : False).elim) | skip
  · cases d1 <;> first | exact (q : False).elim | skip
    cases d2 <;> first | exact (q : False).elim | skip
    cases rx with
    | cons r1 r2 =>
    cases r2 with
    | cons r2 r3 =>
    cases r1; cases r2; cases r3
    exact ⟨_, _, rfl, c.use sm (.int _) q⟩
  · cases d1 <;> first | exact (q : False).elim | skip
    cases d2 <;> exact (q : False).elim
/-- tuple(x) -/
def vTuple : List D → Sto → DK → Prop
  | [.tup ds], S, Q => Q (.tup ds) S
  | [.lst ds], S, Q => Q (.tup ds) S
  | [.ro ds], S, Q => Q (.tup ds) S
  | [.ref a], S, Q => match S a with
    | some (.lst ds) => Q (.tup ds) S
    | _ => False
  | _, _, _ => False
theorem dcall_tuple : DCall X (.type "tuple") vTuple := by
  refine ⟨_, call_tuple_of, fun xs ds F S H P Q sm rx q c => ?_⟩
  cases rx with
  | nil => exact (q : False).elim
  | cons r1 r2 =>
  cases r2 with
  | cons _ _ => cases r1 <;> exact (q : False).elim
  | nil =>
  cases r1 <;> first | exact (q : False).elim | skip
  · simp only [vTuple] at q
    split at q
    · rename_i e
      obtain ⟨vs, e1, r1⟩ := sm.lst e
      exact ⟨_, _, rfl, .inl ⟨.of e1, fun p hp => c.new sm hp (fz_newT sm hp r1) q⟩⟩
    · exact q.elim
  · rename_i hs rl
    exact ⟨_, _, rfl, .inr ⟨sqT_mono (fz_same F S H) hs, c.use sm (.tup hs rl) q⟩⟩
  · rename_i hs rl
    exact ⟨_, _, rfl, .inl ⟨.of (fz_same F S H _ _ hs), fun p hp => c.new sm hp (fz_newT sm hp rl) q⟩⟩
  · rename_i hs rl
    exact ⟨_, _, rfl, .inl ⟨(fz_same F S H).seq hs, fun p hp => c.new sm hp (fz_newT sm hp rl) q⟩⟩
/-- list(x), a list that nobody changes -/
def vList : List D → Sto → DK → Prop
  | [.tup ds], S, Q => Q (.lst ds) S
  | [.lst ds], S, Q => Q (.lst ds) S
  | [.ro ds], S, Q => Q (.lst ds) S
  | [.ref a], S, Q => match S a with
    | some (.lst ds) => Q (.lst ds) S
    | _ => False
  | _, _, _ => False
theorem dcall_list : DCall X (.type "list") vList := by
  refine ⟨_, call_list_of, fun xs ds F S H P Q sm rx q c => ?_⟩
  cases rx with
  | nil => exact (q : False).elim
  | cons r1 r2 =>
  cases r2 with
  | cons _ _ => cases r1 <;> exact (q : False).elim
  | nil =>
  cases r1 <;> first | exact (q : False).elim | skip
  · simp only [vList] at q
    split at q
    · rename_i e
      obtain ⟨vs, e1, r1⟩ := sm.lst e
      exact ⟨_, _, rfl, .inl (.of e1), fun p hp => c.new sm hp (fz_newL sm hp r1) q⟩
    · exact q.elim
  · rename_i hs rl
    exact ⟨_, _, rfl, .inr (sqT_mono (fz_same F S H) hs), fun p hp => c.new sm hp (fz_newL sm hp rl) q⟩
  · rename_i hs rl
    exact ⟨_, _, rfl, .inl (.of (fz_same F S H _ _ hs)), fun p hp => c.new sm hp (fz_newL sm hp rl) q⟩
  · rename_i hs rl
    exact ⟨_, _, rfl, .inl ((fz_same F S H).seq hs), fun p hp => c.new sm hp (fz_newL sm hp rl) q⟩
def asBls : List D → Option (List Bool)
  | [] => some []
  | .bl b :: r => (asBls r).map (b :: ·)
  | _ :: _ => none
def asInts : List D → Option (List Int)
  | [] => some []
  | .int b :: r => (asInts r).map (b :: ·)
  | _ :: _ => none
theorem asBls_map (bs : List Bool) : asBls (bs.map D.bl) = some bs := by
  induction bs with
  | nil => rfl
  | cons b bs ih => simp [asBls, ih]
theorem asInts_map (bs : List Int) : asInts (bs.map D.int) = some bs := by
  induction bs with
  | nil => rfl
  | cons b bs ih => simp [asInts, ih]
theorem asBls_eq : ∀ {ds : List D} {bs : List Bool}, asBls ds = some bs → ds = bs.map D.bl
  | [], bs, h => by cases h; rfl
  | .bl b :: r, bs, h => by
    simp only [asBls, Option.map_eq_some_iff] at h
    obtain ⟨t, h1, rfl⟩ := h
    rw [asBls_eq h1]; rfl
  | .non :: _, _, h | .int _ :: _, _, h | .str _ :: _, _, h | .tup _ :: _, _, h | .lst _ :: _, _, h | .ro _ :: _, _, h | .ref _ :: _, _, h | .ty _ :: _, _, h => by cases h
theorem asInts_eq : ∀ {ds : List D} {bs : List Int}, asInts ds = some bs → ds = bs.map D.int
  | [], bs, h => by cases h; rfl
  | .int b :: r, bs, h => by
    simp only [asInts, Option.map_eq_some_iff] at h
    obtain ⟨t, h1, rfl⟩ := h
    rw [asInts_eq h1]; rfl
  | .non :: _, _, h | .bl _ :: _, _, h | .str _ :: _, _, h | .tup _ :: _, _, h | .lst _ :: _, _, h | .ro _ :: _, _, h | .ref _ :: _, _, h | .ty _ :: _, _, h => by cases h
/-- the items of a list (or, where t is true, of a tuple) -/
def seqOf (S : Sto) : D → Option (List D)
  | .lst ds => some ds
  | .ro ds => some ds
  | .ref a => match S a with | some (.lst ds) => some ds | _ => none
  | _ => none
theorem seqOf_rel {K : PySem.W.Frag} {Γ : KG K} {F : Addr → Bool} {S : Sto} {H : Hp} {v : V} {d : D} {ds : List D} (sm : Sim Γ F S H) (r : Rel K (fz F S H) v d) (h : seqOf S d = some ds) : ∃ a vs, v = .ref a ∧ SqL K H a vs ∧ RelL K (fz F S H) vs ds := by
  cases r <;> first | (cases h; done) | skip
  · rename_i a
    simp only [seqOf] at h
    split at h
    · rename_i e
      cases h
      obtain ⟨vs, e1, r1⟩ := sm.lst e
      exact ⟨_, _, rfl, .of e1, r1⟩
    · cases h
  · rename_i hs rl
    cases h
    exact ⟨_, _, rfl, .of (fz_same F S H _ _ hs), rl⟩
  · rename_i hs rl
    cases h
    exact ⟨_, _, rfl, (fz_same F S H).seq hs, rl⟩
def vAll : List D → Sto → DK → Prop
  | [x], S, Q => match (seqOf S x).bind asBls with | some bs => Q (.bl (bs.all id)) S | none => False
  | _, _, _ => False
def vAny : List D → Sto → DK → Prop
  | [x], S, Q => match (seqOf S x).bind asBls with | some bs => Q (.bl (bs.any id)) S | none => False
  | _, _, _ => False
def vSum : List D → Sto → DK → Prop
  | [x], S, Q => match (seqOf S x).bind asInts with | some bs => Q (.int bs.sum) S | none => False
  | _, _, _ => False
theorem dcall_all (hc : X.calm = true) : DCall X (.builtin "all") vAll := by
  refine ⟨_, cr_all hc, fun xs ds F S H P Q sm rx q c => ?_⟩
  rcases ds with _ | ⟨d1, _ | ⟨d2, ds⟩⟩ <;> first | exact (q : False).elim | skip
  cases rx with
  | cons r1 r2 =>
  cases r2
  have q : match (seqOf S d1).bind asBls with | some bs => P (.bl (bs.all id)) S | none => False := q
  split at q
  · rename_i bs e
    obtain ⟨ds, e1, e2⟩ := Option.bind_eq_some_iff.mp e
    obtain ⟨a, vs, rfl, hs, rl⟩ := seqOf_rel sm r1 e1
    rw [asBls_eq e2] at rl
    exact ⟨a, bs, rfl, by rw [← rl.bls]; exact hs, c.use sm (.bl _) q⟩
  · exact q.elim
theorem dcall_any (hc : X.calm = true) : DCall X (.builtin "any") vAny := by
  refine ⟨_, cr_any hc, fun xs ds F S H P Q sm rx q c => ?_⟩
  rcases ds with _ | ⟨d1, _ | ⟨d2, ds⟩⟩ <;> first | exact (q : False).elim | skip
  cases rx with
  | cons r1 r2 =>
  cases r2
  have q : match (seqOf S d1).bind asBls with | some bs => P (.bl (bs.any id)) S | none => False := q
  split at q
  · rename_i bs e
    obtain ⟨ds, e1, e2⟩ := Option.bind_eq_some_iff.mp e
    obtain ⟨a, vs, rfl, hs, rl⟩ := seqOf_rel sm r1 e1
    rw [asBls_eq e2] at rl
    exact ⟨a, bs, rfl, by rw [← rl.bls]; exact hs, c.use sm (.bl _) q⟩
  · exact q.elim
theorem dcall_sum (hc : X.calm = true) : DCall X (.builtin "sum") vSum := by
  refine ⟨_, cr_sum hc, fun xs ds F S H P Q sm rx q c => ?_⟩
  rcases ds with _ | ⟨d1, _ | ⟨d2, ds⟩⟩ <;> first | exact (q : False).elim | skip
  cases rx with
  | cons r1 r2 =>
  cases r2
  have q : match (seqOf S d1).bind asInts with | some bs => P (.int bs.sum) S | none => False := q
  split at q
  · rename_i bs e
    obtain ⟨ds, e1, e2⟩ := Option.bind_eq_some_iff.mp e
    obtain ⟨a, vs, rfl, hs, rl⟩ := seqOf_rel sm r1 e1
    rw [asInts_eq e2] at rl
    exact ⟨a, bs, rfl, by rw [← rl.ints]; exact hs, c.use sm (.int _) q⟩
  · exact q.elim
/-- isinstance of plain data and a built-in class -/
def tyOf : D → Option String
  | .non => some "NoneType"
  | .bl _ => some "bool"
  | .int _ => some "int"
  | .str _ => some "str"
  | .tup _ => some "tuple"
  | .lst _ => some "list"
  | .ro _ => some "list"
  | .ref _ => none
  | .ty _ => none
def isiT : D → String → Option Bool
  | .non, n => if n = "int" ∨ n = "bool" ∨ n = "str" ∨ n = "tuple" ∨ n = "list" ∨ n = "dict" then some false else none
  | .bl _, n => if n = "int" ∨ n = "bool" then some true else if n = "str" ∨ n = "tuple" ∨ n = "list" ∨ n = "dict" then some false else none
  | .int _, n => if n = "int" then some true else if n = "bool" ∨ n = "str" ∨ n = "tuple" ∨ n = "list" ∨ n = "dict" then some false else none
  | .str _, n => if n = "str" then some true else if n = "bool" ∨ n = "int" ∨ n = "tuple" ∨ n = "list" ∨ n = "dict" then some false else none
  | .tup _, n => if n = "tuple" then some true else if n = "bool" ∨ n = "int" ∨ n = "str" ∨ n = "list" ∨ n = "dict" then some false else none
  | .lst _, n => if n = "list" then some true else if n = "bool" ∨ n = "int" ∨ n = "str" ∨ n = "tuple" ∨ n = "dict" then some false else none
  | _, _ => none
def vIsi : List D → Sto → DK → Prop
  | [x, .ty n], S, Q => match isiT x n with | some b => Q (.bl b) S | none => False
  | _, _, _ => False
theorem isiT_kit {d : D} {n : String} {b : Bool} (h : isiT d n = some b) : ∃ t, tyOf d = some t ∧ kitB t n = some b := by
  cases d <;> first | (cases h; done) | skip
  all_goals refine ⟨_, rfl, ?_⟩
  all_goals simp only [isiT] at h
  all_goals repeat' split at h
  all_goals first | (cases h; done) | skip
  all_goals cases h
  all_goals rename_i z
  all_goals first
    | (subst z; decide +kernel)
    | (rcases z with z | z | z | z | z | z <;> subst z <;> decide +kernel)
    | (rcases z with z | z | z | z | z <;> subst z <;> decide +kernel)
    | (rcases z with z | z | z | z <;> subst z <;> decide +kernel)
    | (rcases z with z | z <;> subst z <;> decide +kernel)
theorem Rel.tyx {K : PySem.W.Frag} {F : Addr → Bool} {S : Sto} {H : Hp} {v : V} {d : D} {n : String} (r : Rel K (fz F S H) v d) (hd : ∀ ds, d ≠ .ro ds) (h : tyOf d = some n) : TyX K H v (.type n) := by
  cases r <;> first | (cases h; done) | skip
  · cases h; exact .base .non
  · cases h; exact .base (.bl _)
  · cases h; exact .base (.int _)
  · cases h; exact .base (.str _)
  · cases h
    rename_i hs rl
    rcases hs with (hs | ⟨o, hs⟩) | ⟨o, its, m, h1, h2, _⟩
    · exact .base (.tup (fz_same F S H _ _ hs))
    · exact .fTuple (fz_same F S H _ _ hs)
    · exact .kTuple h1 h2
  · cases h
    rename_i hs rl
    exact .base (.lst (fz_same F S H _ _ hs))
  · exact absurd rfl (hd _)
theorem dcall_isi : DCall X (.builtin "isinstance") vIsi := by
  refine ⟨_, call_isi, fun xs ds F S H P Q sm rx q c => ?_⟩
  rcases ds with _ | ⟨d1, _ | ⟨d2, _ | ⟨d3, ds⟩⟩⟩ <;> first | exact (q : False).elim | skip
  · cases d2 <;> first | exact (q : False).elim | skip
    rename_i n
    cases rx with
    | cons r1 r2 =>
    cases r2 with
    | cons r2 r3 =>
    cases r2; cases r3
    have q : match isiT d1 n with | some b => P (.bl b) S | none => False := q
    split at q
    · rename_i b e
      obtain ⟨t, e1, e2⟩ := isiT_kit e
      exact ⟨_, _, _, _, b, rfl, .ty n, r1.tyx (fun ds z => by subst z; cases e) e1, kit_ty e2, c.use sm (.bl _) q⟩
    · exact q.elim
  · cases d2 <;> exact (q : False).elim
end
end L3

set_option Elab.async false
set_option maxRecDepth 100000
set_option linter.all false
set_option maxHeartbeats 2000000
namespace L3
open PySem L2
/-! ### statements -/
abbrev dNext : DTS := fun D δ S => D.nx δ S
abbrev dSeq (t u : DTS) : DTS := fun D δ S => t { D with nx := u D } δ S
abbrev dBreak : DTS := fun D δ S => D.bk δ S
abbrev dCont : DTS := fun D δ S => D.ct δ S
abbrev dDrop (te : DTE) : DTS := fun D δ S => te δ S fun _ S1 => D.nx δ S1
abbrev dRet (te : DTE) : DTS := fun D δ S => te δ S D.rt
abbrev dRetN : DTS := fun D _ S => D.rt .non S
abbrev dIf (c : DTT) (t u : DTS) : DTS := fun D δ S => c δ S fun b S1 => if b = true then t D δ S1 else u D δ S1
abbrev dNever : DTS := fun _ _ _ => False
abbrev DTG := D → DSt → Sto → (DSt → Sto → Prop) → Prop
def lfG {K : PySem.W.Frag} (Γ : KG K) (t : DTG) : TG := fun v σ H Q => ∃ F d δ S P, Sim Γ F S H ∧ Rel K (fz F S H) v d ∧ RelS K (fz F S H) σ δ ∧ t d δ S P ∧ CtN Γ F S H P Q
def DPG (X : Cx) (Γ : KG X.K) (e : Expr) (t : DTG) : Prop := PG X e (lfG Γ t)
theorem PGw {X : Cx} {e : Expr} {t u : TG} (h : PG X e t) (w : ∀ v σ H Q, u v σ H Q → t v σ H Q) : PG X e u := ⟨fun pins s σ H v u' Q I r q => h.run pins s σ H v u' Q I r (w _ _ _ _ q)⟩
/-- plain targets: a name, a tuple of names -/
inductive Tg where
  | nm (i : Nat)
  | tp (l : List Nat)
def gAll : List Nat → TGs
  | [] => gNil
  | i :: r => gCons (gName i) (gAll r)
def gTg (K : PySem.W.Frag) : Tg → TG
  | .nm i => gName i
  | .tp l => gTup K l.length (gAll l)
abbrev setAll : List Nat → List D → DSt → DSt
  | i :: r, d :: ds, δ => setAll r ds (dset δ i (some d))
  | _, _, δ => δ
abbrev dTg : Tg → DTG
  | .nm i => fun d δ S Q => Q (dset δ i (some d)) S
  | .tp l => fun d δ S Q => match d with | .tup ds => ds.length = l.length ∧ Q (setAll l ds δ) S | _ => False
def Tg.slots : Tg → List Nat
  | .nm i => [i]
  | .tp l => l
theorem gAll_ok {K : PySem.W.Frag} {G : Hp} {H : Hp} {Q : St → Hp → Prop} : ∀ (l : List Nat) {vs : List V} {ds : List D} {σ : St} {δ : DSt}, RelL K G vs ds → ds.length = l.length → RelS K G σ δ →
    (∀ σ', RelS K G σ' (setAll l ds δ) → (∀ is : List Nat, (∀ i ∈ l, i ∈ is) → wipe σ' is = wipe σ is) → Q σ' H) → gAll l vs σ H Q
  | [], _, _, σ, δ, .nil, _, rs, k => ⟨rfl, k σ rs fun _ _ => rfl⟩
  | [], _, _, _, _, .cons _ _, h, _, _ => by cases h
  | _ :: _, _, _, _, _, .nil, h, _, _ => by cases h
  | i :: l, _, _, σ, δ, .cons (v := v) (vs := vs) (d := d) (ds := ds) r t, h, rs, k => by
    refine ⟨_, _, rfl, ?_⟩
    show gAll l _ (σ.set i (some v)) H Q
    refine gAll_ok l t (by simpa using h) (rs.dset r i) fun σ' q w => k σ' q fun is hi => ?_
    rw [w is fun j hj => hi j (List.mem_cons_of_mem _ hj)]
    exact wipe_in _ _ (hi i List.mem_cons_self)
where
  wipe_in {σ : St} {i : Nat} (x : Option V) (is : List Nat) (hi : i ∈ is) : wipe (σ.set i x) is = wipe σ is := by
    induction is with
    | nil => cases hi
    | cons j is ih =>
      show (wipe (σ.set i x) is).set j none = (wipe σ is).set j none
      by_cases h : i ∈ is
      · rw [ih h]
      · have e : i = j := by
          rcases List.mem_cons.mp hi with e | e
          · exact e
          · exact absurd e h
        subst e
        have c : ∀ (js : List Nat), i ∉ js → wipe (σ.set i x) js = (wipe σ js).set i x := by
          intro js
          induction js with
          | nil => intro _; rfl
          | cons k js ih2 =>
            intro hk
            show (wipe (σ.set i x) js).set k none = ((wipe σ js).set k none).set i x
            rw [ih2 fun z => hk (List.mem_cons_of_mem _ z), List.set_comm]
            intro z
            subst z
            exact hk List.mem_cons_self
        rw [c is h, List.set_set]
theorem gTg_ok {K : PySem.W.Frag} {F : Addr → Bool} {S : Sto} {H : Hp} {v : V} {d : D} {σ : St} {δ : DSt} {P : DSt → Sto → Prop} {Q : St → Hp → Prop} (tg : Tg) (r : Rel K (fz F S H) v d) (rs : RelS K (fz F S H) σ δ) (h : dTg tg d δ S P)
    (k : ∀ σ' δ', RelS K (fz F S H) σ' δ' → P δ' S → (∀ is : List Nat, (∀ i ∈ tg.slots, i ∈ is) → wipe σ' is = wipe σ is) → Q σ' H) : gTg K tg v σ H Q := by
  cases tg with
  | nm i =>
    show Q (σ.set i (some v)) H
    exact k _ _ (rs.dset r i) h fun is hi => gAll_ok.wipe_in _ is (hi i List.mem_cons_self)
  | tp l =>
    cases r <;> first | exact (h : False).elim | skip
    rename_i hs rl
    obtain ⟨h1, h2⟩ := h
    refine ⟨_, _, rfl, sqT_mono (fz_same F S H) hs, by rw [rl.length]; exact h1, ?_⟩
    exact gAll_ok l rl h1 rs fun σ' q w => k σ' _ q h2 w
theorem dpg_tg {X : Cx} {Γ : KG X.K} {e : Expr} {tg : Tg} (h : PG X e (gTg X.K tg)) : DPG X Γ e (dTg tg) := PGw h fun v σ H Q ⟨F, d, δ, S, P, sm, r, rs, h, c⟩ =>
  gTg_ok tg r rs h fun σ' δ' rs' p _ => c _ _ p _ _ (Go.refl sm) rs'
/-- o[i] = v -/
def vSet : D → D → D → Sto → (Sto → Prop) → Prop
  | .ref a, .int k, v, S, Q => match S a with
    | some (.lst ds) => match ixN ds.length k with | some j => Q (sup S a (.lst (ds.set j v))) | none => False
    | _ => False
  | _, _, _, _, _ => False
abbrev dgSub (to ti : DTE) : DTG := fun d δ S Q => to δ S fun o S1 => ti δ S1 fun i S2 => vSet o i d S2 fun S3 => Q δ S3
section
variable {X : Cx} {Γ : KG X.K} {st : Stmt} {rest : List Stmt} {t u : DTS} {e a : Expr} {te ta to ti : DTE} {pos : Pos}
theorem dpss_nil : DPSs X Γ [] dNext := PSsw pss_nil fun D σ H ⟨F, δ, S, P, sm, rs, h, c⟩ => c.nx _ _ h _ _ (Go.refl sm) rs
theorem dpss_cons (h1 : DPS X Γ st t) (h2 : DPSs X Γ rest u) : DPSs X Γ (st :: rest) (dSeq t u) := PSsw (pss_cons h1 h2) fun D σ H ⟨F, δ, S, P, sm, rs, h, c⟩ =>
  ⟨F, δ, S, { P with nx := u P }, sm, rs, h, ⟨fun δ' S' h' σ' H' g rs' => ⟨F, δ', S', P, g.sim, rs', h', c.mono g⟩, c.rt, c.bk, c.ct⟩⟩
theorem dpss_one (h1 : DPS X Γ st t) : DPSs X Γ [st] t := pss_one h1
theorem dps_pass : DPS X Γ (.Pass pos) dNext := PSw ps_pass fun D σ H ⟨F, δ, S, P, sm, rs, h, c⟩ => c.nx _ _ h _ _ (Go.refl sm) rs
theorem dps_doc {x j pos'} : DPS X Γ (.Expr (.Constant (.str x) j pos) pos') dNext := PSw ps_doc fun D σ H ⟨F, δ, S, P, sm, rs, h, c⟩ => c.nx _ _ h _ _ (Go.refl sm) rs
theorem dps_break : DPS X Γ (.Break pos) dBreak := PSw ps_break fun D σ H ⟨F, δ, S, P, sm, rs, h, c⟩ => c.bk _ _ h _ _ (Go.refl sm) rs
theorem dps_continue : DPS X Γ (.Continue pos) dCont := PSw ps_continue fun D σ H ⟨F, δ, S, P, sm, rs, h, c⟩ => c.ct _ _ h _ _ (Go.refl sm) rs
theorem dps_expr (he : DPE X Γ e te) (hs : swapsWith e none pos.line X.env = pure false := by rfl) : DPS X Γ (.Expr e pos) (dDrop te) := PSw (ps_expr he hs) fun D σ H ⟨F, δ, S, P, sm, rs, h, c⟩ =>
  ⟨F, δ, S, _, sm, rs, h, fun d S1 h1 v H1 g1 r1 => c.nx _ _ h1 _ _ g1 (rs.mono g1.same)⟩
theorem dps_ret (he : DPE X Γ e te) : DPS X Γ (.Return (some e) pos) (dRet te) := PSw (ps_ret he) fun D σ H ⟨F, δ, S, P, sm, rs, h, c⟩ => ⟨F, δ, S, _, sm, rs, h, c.rt⟩
theorem dps_retN : DPS X Γ (.Return none pos) dRetN := PSw ps_retN fun D σ H ⟨F, δ, S, P, sm, rs, h, c⟩ => c.rt.use sm .non h
theorem dps_if {c : Expr} {p q : List Stmt} {tc : DTT} (hc : DPT X Γ c tc) (ha : DPSs X Γ p t) (hb : DPSs X Γ q u) : DPS X Γ (.If c p q pos) (dIf tc t u) := PSw (ps_if hc ha hb) fun D σ H ⟨F, δ, S, P, sm, rs, h, c⟩ =>
  ⟨F, δ, S, _, sm, rs, h, fun b S1 h1 H1 g1 => by
    cases b with
    | true => exact ⟨F, δ, S1, P, g1.sim, rs.mono g1.same, h1, c.mono g1⟩
    | false => exact ⟨F, δ, S1, P, g1.sim, rs.mono g1.same, h1, c.mono g1⟩⟩
theorem dps_never : DPS X Γ st dNever := PSw ps_never fun D σ H ⟨F, δ, S, P, sm, rs, h, c⟩ => (h : False).elim
theorem dpss_never {sts : List Stmt} : DPSs X Γ sts dNever := PSsw pss_never fun D σ H ⟨F, δ, S, P, sm, rs, h, c⟩ => (h : False).elim
/-- target = e -/
abbrev dAsg (te : DTE) (g : DTG) : DTS := fun D δ S => te δ S fun x S1 => g x δ S1 D.nx
theorem lf_asg {K : PySem.W.Frag} {Γ : KG K} {g : DTG} {D : Ends} {σ : St} {H : Hp} (h : lfS Γ (dAsg te g) D σ H) : tAsg (lf Γ te) (lfG Γ g) D σ H := by
  obtain ⟨F, δ, S, P, sm, rs, h, c⟩ := h
  exact ⟨F, δ, S, _, sm, rs, h, fun d S1 h1 v H1 g1 r1 => ⟨F, d, δ, S1, P.nx, g1.sim, r1, rs.mono g1.same, h1, (c.mono g1).nx⟩⟩
theorem dps_asg {tg : Expr} {g : DTG} (he : DPE X Γ e te) (hg : DPG X Γ tg g) (hs : swapsWithSole [tg] e pos.line X.env = pure false := by rfl) (hw : swappedStores [tg] e X.env = pure none := by rfl)
    (h1 : (assignEach [tg] X.env).map (·.2) = [assign tg X.env] := by rfl) : DPS X Γ (.Assign [tg] e pos) (dAsg te g) := PSw (ps_asg he hg hs hw h1) fun D σ H h => lf_asg h
/-- name = e -/
theorem dps_set (i : Nat) {x : Str} {pos' : Pos} (hN : X.N.Nodup) (he : DPE X Γ e te) (hi : X.N[i]? = some x := by rfl) (hx : Loc X.env.scope x := by first | exact Or.inl rfl | exact Or.inr rfl) (hs : swapsWith e (some (.Name x pos')) pos.line X.env = pure false := by rfl)
    (hf : X.fn x = true ∨ X.env.scope.names.lookup x = some .local := by first | exact .inl rfl | exact .inr rfl) : DPS X Γ (.Assign [.Name x pos'] e pos) (dAsg te (dTg (.nm i))) := PSw (ps_set hN hi hx he hs hf) fun D σ H ⟨F, δ, S, P, sm, rs, h, c⟩ =>
  ⟨F, δ, S, _, sm, rs, h, fun d S1 h1 v H1 g1 r1 => c.nx _ _ h1 _ _ g1 ((rs.mono g1.same).dset r1 i)⟩
theorem dpg_name (i : Nat) {x : Str} (hN : X.N.Nodup) (hi : X.N[i]? = some x := by rfl) (hx : Loc X.env.scope x := by first | exact Or.inl rfl | exact Or.inr rfl)
    (hf : X.fn x = true ∨ X.env.scope.names.lookup x = some .local := by first | exact .inl rfl | exact .inr rfl) : PG X (.Name x pos) (gTg X.K (.nm i)) := pg_name hN hi hx hf
theorem dpg_sub {o i : Expr} (ho : DPE X Γ o to) (hi : DPE X Γ i ti) (ha : ∀ v, assign (.Subscript o i pos) X.env v = (do
      let ov ← holding [v] (eval o X.env)
      let iv ← holding [v, ov] (eval i X.env)
      standAt pos
      holding [v, ov, iv] (setItem ov iv v)
      release [v, ov, iv] []) := by intro _; rfl) : DPG X Γ (.Subscript o i pos) (dgSub to ti) := PGw (pg_sub ho hi set_list ha) fun v σ H Q ⟨F, d, δ, S, P, sm, r, rs, h, c⟩ =>
  ⟨F, δ, S, _, sm, rs, h, fun do_ S1 h1 vo H1 g1 ro => ⟨F, δ, S1, _, g1.sim, rs.mono g1.same, h1, fun di S2 h2 vi H2 g2 ri => by
    cases do_ <;> first | exact (h2 : False).elim | skip
    cases di <;> first | exact (h2 : False).elim | skip
    cases ro; cases ri
    simp only [vSet] at h2
    split at h2
    · rename_i ds e
      obtain ⟨vs, e1, r1⟩ := g2.sim.lst e
      split at h2
      · rename_i j e2
        have r' := r.mono (g1.trans g2).same
        have g3 := g2.sim.put (o := .lst (vs.set j v)) (u' := .lst (ds.set j d)) e ⟨_, rfl, r1.set r' j⟩
        exact ⟨_, _, _, j, rfl, rfl, e1, by rw [r1.length]; exact e2, c _ _ h2 _ _ ((g1.trans g2).trans g3) (rs.mono ((g1.trans g2).trans g3).same)⟩
      · exact h2.elim
    · exact h2.elim⟩⟩
/-- x += e, at a name -/
abbrev dAug (i : Nat) (te : DTE) (r : D → D → Sto → DK → Prop) : DTS := fun D δ S => match slot δ i with
  | some x => te δ S fun y S1 => r x y S1 fun z S2 => D.nx (dset δ i (some z)) S2
  | none => False
theorem dps_aug (i : Nat) {x : Str} {op : Operator} {r : D → D → Sto → DK → Prop} {pos' : Pos} (ho : DOp X (inplaceOp op) r) (hN : X.N.Nodup) (he : DPE X Γ e te) (hi : X.N[i]? = some x := by rfl) (hx : Loc X.env.scope x := by first | exact Or.inl rfl | exact Or.inr rfl)
    (hf : X.fn x = true ∨ X.env.scope.names.lookup x = some .local := by first | exact .inl rfl | exact .inr rfl) : DPS X Γ (.AugAssign (.Name x pos') op e pos) (dAug i te r) := by
  obtain ⟨q, h1, h2⟩ := ho.ex
  refine PSw (ps_aug (ti := q) hN hi hx he h1 hf) fun D σ H ⟨F, δ, S, P, sm, rs, h, c⟩ => ?_
  simp only [dAug] at h
  split at h
  · rename_i d e
    obtain ⟨v, e1, r1⟩ := rs.get (slot_get e)
    refine ⟨v, e1, F, δ, S, _, sm, rs, h, fun dy S1 k1 y H1 g1 ry => ?_⟩
    refine h2 v y d dy F S1 H1 _ _ g1.sim (r1.mono g1.same) ry k1 fun dz S2 k2 z H2 g2 rz => ?_
    exact c.nx _ _ k2 _ _ (g1.trans g2) ((rs.mono (g1.trans g2).same).dset rz i)
  · exact h.elim
def vIadd : D → D → Sto → DK → Prop
  | .int i, .int j, S, Q => Q (.int (i + j)) S
  | .str a, .str b, S, Q => a.length + b.length ≤ sizeLine ∧ Q (.str (a ++ b)) S
  | _, _, _, _ => False
theorem dop_iadd : DOp X (inplaceOp .Add) vIadd := by
  refine ⟨_, iop_add.or iop_add_str, fun x y dx dy F S H P Q sm rx ry q c => ?_⟩
  cases dx <;> first | exact (q : False).elim | skip
  all_goals cases dy <;> first | exact (q : False).elim | skip
  all_goals (cases rx; cases ry)
  · exact .inl ⟨_, _, rfl, rfl, c.use sm (.int _) q⟩
  · exact .inr ⟨_, _, rfl, rfl, q.1, c.use sm (.str _) q.2⟩
theorem dop_isub : DOp X (inplaceOp .Sub) vSub := dop_II0 iop_sub fun _ _ _ => .int _
theorem dop_idiv : DOp X (inplaceOp .FloorDiv) vDiv := dop_II iop_fdiv fun _ _ _ => .int _
theorem dop_imul : DOp X (inplaceOp .Mult) (vII CMul fun i j => .int (i * j)) := dop_II iop_mul fun _ _ _ => .int _
end
/-! ### while -/
def whileN (c : DTT) (tb : DTS) : Nat → DTS
  | 0 => fun _ _ _ => False
  | n + 1 => fun D δ S => c δ S fun b S1 => if b = true then tb { D with nx := whileN c tb n D, ct := whileN c tb n D, bk := D.nx } δ S1 else D.nx δ S1
abbrev dWhile (c : DTT) (tb : DTS) : DTS := fun D δ S => ∃ n, whileN c tb n D δ S
section
variable {X : Cx} {Γ : KG X.K} {pos : Pos}
theorem dps_while {c : Expr} {body : List Stmt} {tc : DTT} {tb : DTS} (hc : DPT X Γ c tc) (hb : DPSs X Γ body tb) (hp : PassesOwn (model X.prog X.w) X.A X.env X.xe := by exact PassesOwn.never) : DPS X Γ (.While c body [] pos) (dWhile tc tb) := by
  refine PSw (ps_while hp hc hb) fun D σ H ⟨F, δ, S, P, sm, rs, ⟨n, h⟩, c⟩ => ?_
  refine ⟨fun m σ' H' => ∃ δ' S', Go Γ F S H S' H' ∧ RelS X.K (fz F S' H') σ' δ' ∧ whileN tc tb m P δ' S', ⟨n, δ, S, Go.refl sm, rs, h⟩, ?_⟩
  rintro m σ1 H1 ⟨δ1, S1, g1, rs1, h1⟩
  cases m with
  | zero => exact h1.elim
  | succ m =>
    refine ⟨F, δ1, S1, _, g1.sim, rs1, h1, fun b S2 h2 H2 g2 => ?_⟩
    have g12 := g1.trans g2
    cases b with
    | false => exact c.nx _ _ h2 _ _ g12 (rs1.mono g2.same)
    | true =>
      refine ⟨fun σ' H' => ∃ δ' S', Go Γ F S H S' H' ∧ RelS X.K (fz F S' H') σ' δ' ∧ whileN tc tb m P δ' S', fun σ' H' q => ⟨m, Nat.lt_succ_self m, q⟩, ?_⟩
      refine ⟨F, δ1, S2, _, g2.sim, rs1.mono g2.same, h2, ⟨fun δ' S' h' σ' H' g' rs' => ⟨δ', S', g12.trans g', rs', h'⟩, (c.mono g12).rt, (c.mono g12).nx, fun δ' S' h' σ' H' g' rs' => ⟨δ', S', g12.trans g', rs', h'⟩⟩⟩
end
/-! ### what a for walks -/
/-- the items, and what must stay so of the store while they are walked -/
abbrev DTI := DSt → Sto → ((Sto → Prop) → List D → Sto → Prop) → Prop
/-- J walks the items as long as kp holds of the store (objects made since may be hidden) -/
def WalkD {K : PySem.W.Frag} (Γ : KG K) (F : Addr → Bool) (S : Sto) (H : Hp) (kp : Sto → Prop) (items : List D) (J : It) : Prop :=
  ∀ F' S' H', Same (fz F S H) (fz F' S' H') → Sim Γ F' S' H' → kp S' → (∀ i, i < items.length → J.go i H') ∧ J.stop items.length H' ∧
    ∀ i x H2, i < items.length → J.yld i H' x H2 → ∃ d, items[i]? = some d ∧ Go Γ F' S' H' S' H2 ∧ Rel K (fz F' S' H2) x d
def lfI {K : PySem.W.Frag} (Γ : KG K) (t : DTI) : TI := fun σ H R => ∃ F δ S P, Sim Γ F S H ∧ RelS K (fz F S H) σ δ ∧ t δ S P ∧ ∀ kp items S', P kp items S' → ∀ J H', Go Γ F S H S' H' → WalkD Γ F S' H' kp items J → R J H'
def DPI (X : Cx) (Γ : KG X.K) (tg iter : Expr) (t : DTI) : Prop := PI X tg iter (lfI Γ t)
theorem PIw {X : Cx} {tg e : Expr} {t u : TI} (h : PI X tg e t) (w : ∀ σ H R, u σ H R → t σ H R) : PI X tg e u := ⟨fun pins s σ H R I q => h.run pins s σ H R I (w _ _ _ q)⟩
def forL (kp : Sto → Prop) (g : DTG) (tb : DTS) : List D → DTS
  | [] => fun D δ S => kp S ∧ D.nx δ S
  | d :: r => fun D δ S => kp S ∧ g d δ S fun δ1 S1 => tb { D with nx := forL kp g tb r D, ct := forL kp g tb r D, bk := D.nx } δ1 S1
abbrev dFor (ti : DTI) (g : DTG) (tb : DTS) : DTS := fun D δ S => ti δ S fun kp items S1 => forL kp g tb items D δ S1
section
variable {X : Cx} {Γ : KG X.K} {pos : Pos}
theorem forL_kp {kp : Sto → Prop} {g : DTG} {tb : DTS} {items : List D} {D : DEnds} {δ : DSt} {S : Sto} (h : forL kp g tb items D δ S) : kp S := by
  cases items with
  | nil => exact h.1
  | cons d r => exact h.1
theorem dps_for {tg iter : Expr} {body : List Stmt} {ti : DTI} {g : DTG} {tb : DTS} (hi : DPI X Γ tg iter ti) (hg : DPG X Γ tg g) (hb : DPSs X Γ body tb) (hc : X.calm = true := by rfl) (hp : PassesOwn (model X.prog X.w) X.A X.env X.xe := by exact PassesOwn.never)
    (hs : ∀ x, foldedSetIterable iter X.env x = pure x := by intro _; rfl) : DPS X Γ (.For tg iter body [] pos) (dFor ti g tb) := by
  refine PSw (ps_for hp hc hi hg hb hs) fun D σ H ⟨F, δ, S, P, sm, rs, h, c⟩ => ?_
  refine ⟨F, δ, S, _, sm, rs, h, fun kp items S1 h1 J H1 g1 wk => ?_⟩
  have c1 := c.mono g1
  refine ⟨fun i m σ' H' => m = items.length - i ∧ i ≤ items.length ∧ ∃ δ' S', Go Γ F S1 H1 S' H' ∧ RelS X.K (fz F S' H') σ' δ' ∧ forL kp g tb (items.drop i) P δ' S', ⟨items.length, by simp, Nat.zero_le _, δ, S1, Go.refl g1.sim, rs.mono g1.same, h1⟩, ?_⟩
  rintro i m σ2 H2 ⟨rfl, hi, δ2, S2, g2, rs2, h2⟩
  obtain ⟨w1, w2, w3⟩ := wk F S2 H2 g2.same g2.sim (forL_kp h2)
  by_cases hlt : i < items.length
  · refine .inr ⟨w1 i hlt, fun σ' H' => ∃ δ' S', Go Γ F S1 H1 S' H' ∧ RelS X.K (fz F S' H') σ' δ' ∧ forL kp g tb (items.drop (i + 1)) P δ' S', fun σ' H' q => ⟨items.length - (i + 1), by omega, rfl, hlt, q⟩, fun x H3 y => ?_⟩
    obtain ⟨d, e, g3, rx⟩ := w3 i x H3 hlt y
    have ed : items.drop i = d :: items.drop (i + 1) := by
      rw [List.drop_eq_getElem_cons hlt]
      rw [List.getElem?_eq_getElem hlt] at e
      cases e
      rfl
    rw [ed] at h2
    refine ⟨F, d, δ2, S2, _, g3.sim, rx, rs2.mono g3.same, h2.2, fun δ4 S4 h4 σ4 H4 g4 rs4 => ?_⟩
    have g24 := (g2.trans g3).trans g4
    exact ⟨F, δ4, S4, _, g4.sim, rs4, h4, ⟨fun δ' S' h' σ' H' g' rs' => ⟨δ', S', g24.trans g', rs', h'⟩, (c1.mono g24).rt, (c1.mono g24).nx, fun δ' S' h' σ' H' g' rs' => ⟨δ', S', g24.trans g', rs', h'⟩⟩⟩
  · have e : i = items.length := by omega
    subst e
    rw [List.drop_length] at h2
    exact .inl ⟨w2, c1.nx _ _ h2.2 _ _ g2 rs2⟩
end
/-- a list (known, or mutable and left as it is): what must stay so, its items -/
def itOf (S : Sto) : D → Option ((Sto → Prop) × List D)
  | .lst ds => some (fun _ => True, ds)
  | .ro ds => some (fun _ => True, ds)
  | .ref a => match S a with | some (.lst ds) => some (fun S' => S' a = some (.lst ds), ds) | _ => none
  | _ => none
abbrev iSeq (te : DTE) : DTI := fun δ S Q => te δ S fun x S1 => match itOf S1 x with
  | some p => Q p.1 p.2 S1
  | none => False
abbrev iTupD (te : DTE) : DTI := fun δ S Q => te δ S fun x S1 => match x with
  | .tup ds => Q (fun _ => True) ds S1
  | _ => False
abbrev iStrD (te : DTE) : DTI := fun δ S Q => te δ S fun x S1 => match x with
  | .str z => Q (fun _ => True) (z.cps.toList.map fun c => .str ⟨#[c]⟩) S1
  | _ => False
def rngD (lo : Int) (n : Nat) : List D := (List.range n).map fun i => .int (lo + (i : Nat))
abbrev iRange1 (te : DTE) : DTI := fun δ S Q => te δ S fun x S1 => match x with
  | .int j => -(2 ^ 62) ≤ j ∧ j < 2 ^ 62 ∧ Q (fun _ => True) (rngD 0 j.toNat) S1
  | _ => False
abbrev iRange2 (ta tb : DTE) : DTI := fun δ S Q => ta δ S fun x S1 => tb δ S1 fun y S2 => match x, y with
  | .int i, .int j => (-(2 ^ 62) ≤ i ∧ i < 2 ^ 62 ∧ -(2 ^ 62) ≤ j ∧ j < 2 ^ 62) ∧ Q (fun _ => True) (rngD i (j - i).toNat) S2
  | _, _ => False
def enumD : Nat → List D → List D
  | _, [] => []
  | i, d :: r => .tup [.int (i : Nat), d] :: enumD (i + 1) r
abbrev iEnumD (te : DTE) : DTI := fun δ S Q => te δ S fun x S1 => match itOf S1 x with
  | some p => Q p.1 (enumD 0 p.2) S1
  | none => False
def zipD : List D → List D → List D
  | x :: xs, y :: ys => .tup [x, y] :: zipD xs ys
  | _, _ => []
abbrev iZipD (ta tb : DTE) : DTI := fun δ S Q => ta δ S fun x S1 => tb δ S1 fun y S2 => match itOf S2 x, itOf S2 y with
  | some p, some q => Q (fun S' => p.1 S' ∧ q.1 S') (zipD p.2 q.2) S2
  | _, _ => False
abbrev iRevD (te : DTE) : DTI := fun δ S Q => te δ S fun x S1 => match itOf S1 x with
  | some p => Q p.1 p.2.reverse S1
  | none => False
/-- a list that stands at a as long as kp holds -/
def Held {K : PySem.W.Frag} (Γ : KG K) (F : Addr → Bool) (S : Sto) (H : Hp) (kp : Sto → Prop) (a : Addr) (ds : List D) : Prop :=
  ∀ F' S' H', Same (fz F S H) (fz F' S' H') → Sim Γ F' S' H' → kp S' → ∃ xs, SqL K H' a xs ∧ RelL K (fz F' S' H') xs ds
theorem walk_seq {K : PySem.W.Frag} {Γ : KG K} {F : Addr → Bool} {S : Sto} {H : Hp} {a : Addr} {ds : List D} {kp : Sto → Prop} (hs : Held Γ F S H kp a ds) : WalkD Γ F S H kp ds (Itl K a) := fun F' S' H' g s k => by
  obtain ⟨xs, h1, h2⟩ := hs F' S' H' g s k
  have w := walk_list (K := K) (a := a) (xs := xs)
  rw [h2.length] at w
  refine ⟨fun i hi => w.goes i H' hi h1, w.stops H' h1, fun i x H2 hi y => ?_⟩
  obtain ⟨rfl, e⟩ := w.yields i H' x H2 hi h1 y
  obtain ⟨d, e1, r⟩ := h2.get' e
  exact ⟨d, e1, Go.refl s, r⟩
theorem enumD_get : ∀ {ds : List D} {i k : Nat} {d : D}, ds[i]? = some d → (enumD k ds)[i]? = some (.tup [.int ((k + i : Nat) : Int), d])
  | [], i, _, _, h => by simp at h
  | x :: r, 0, k, d, h => by simp at h; subst h; rfl
  | x :: r, i + 1, k, d, h => by
    have := enumD_get (ds := r) (i := i) (k := k + 1) (d := d) (by simpa using h)
    simp only [enumD, List.getElem?_cons_succ]
    rw [this]
    rw [show k + 1 + i = k + (i + 1) by omega]
theorem enumD_length : ∀ {ds : List D} {k : Nat}, (enumD k ds).length = ds.length
  | [], _ => rfl
  | x :: r, k => by simp [enumD, enumD_length (ds := r)]
theorem walk_enumD {K : PySem.W.Frag} {Γ : KG K} {F : Addr → Bool} {S : Sto} {H : Hp} {a : Addr} {ds : List D} {kp : Sto → Prop} (hs : Held Γ F S H kp a ds) : WalkD Γ F S H kp (enumD 0 ds) (Ite K a) := fun F' S' H' g s k => by
  obtain ⟨xs, h1, h2⟩ := hs F' S' H' g s k
  have w := walk_enum (K := K) (a := a) (xs := xs)
  rw [h2.length] at w
  rw [enumD_length]
  refine ⟨fun i hi => w.goes i H' hi h1, w.stops H' h1, fun i x H2 hi y => ?_⟩
  obtain ⟨T, x1, y1, rfl, hT, rfl, e1, e2⟩ := w.yields i H' x H2 hi h1 y
  cases e1
  obtain ⟨d, e3, r⟩ := h2.get' e2
  refine ⟨_, enumD_get e3, s.new hT, ?_⟩
  rw [Nat.zero_add]
  exact fz_newT s hT (.cons (.int _) (.cons r .nil))
theorem itOf_rel {K : PySem.W.Frag} {Γ : KG K} {F : Addr → Bool} {S : Sto} {H : Hp} {v : V} {d : D} {p : (Sto → Prop) × List D} (sm : Sim Γ F S H) (r : Rel K (fz F S H) v d) (h : itOf S d = some p) :
    ∃ a vs, v = .ref a ∧ SqL K H a vs ∧ RelL K (fz F S H) vs p.2 ∧ Held Γ F S H p.1 a p.2 := by
  cases r <;> first | (cases h; done) | skip
  · rename_i a
    simp only [itOf] at h
    split at h
    · rename_i ds e
      cases h
      obtain ⟨vs, e1, r1⟩ := sm.lst e
      refine ⟨a, vs, rfl, .of e1, r1, fun F' S' H' g' s' k => ?_⟩
      obtain ⟨vs', e2, r2⟩ := s'.lst k
      exact ⟨vs', .of e2, r2⟩
    · cases h
  · rename_i hs rl
    cases h
    exact ⟨_, _, rfl, .of (fz_same F S H _ _ hs), rl, fun F' S' H' g' _ _ => ⟨_, .of (fz_same F' S' H' _ _ (g' _ _ hs)), rl.mono g'⟩⟩
  · rename_i hs rl
    cases h
    exact ⟨_, _, rfl, (fz_same F S H).seq hs, rl, fun F' S' H' g' _ _ => ⟨_, ((fz_same F' S' H').seq (g'.seq hs)), rl.mono g'⟩⟩
theorem zipD_length : ∀ {xs ys : List D}, (zipD xs ys).length = min xs.length ys.length
  | [], _ => by simp [zipD]
  | _ :: _, [] => by simp [zipD]
  | x :: xs, y :: ys => by simp [zipD, zipD_length (xs := xs) (ys := ys)]
theorem zipD_get : ∀ {xs ys : List D} {i : Nat} {x y : D}, xs[i]? = some x → ys[i]? = some y → (zipD xs ys)[i]? = some (.tup [x, y])
  | [], _, _, _, _, h, _ => by simp at h
  | _ :: _, [], _, _, _, _, h => by simp at h
  | a :: xs, b :: ys, 0, x, y, h, h' => by simp at h h'; subst h; subst h'; rfl
  | a :: xs, b :: ys, i + 1, x, y, h, h' => by simpa [zipD] using zipD_get (xs := xs) (ys := ys) (i := i) (by simpa using h) (by simpa using h')
section
variable {X : Cx} {Γ : KG X.K} {tg e a b : Expr} {te ta tb : DTE} {p pos tpos : Pos} {elts : List Expr} {kk : Nat}
theorem dpi_seq (h : DPE X Γ e te) : DPI X Γ tg e (iSeq te) := PIw (pi_list h) fun σ H R ⟨F, δ, S, P, sm, rs, h, c⟩ => ⟨F, δ, S, _, sm, rs, h, fun d S1 h1 v H1 g1 r1 => by
  split at h1
  · rename_i q e
    obtain ⟨a, vs, rfl, hs, _, w⟩ := itOf_rel g1.sim r1 e
    exact ⟨a, rfl, ⟨vs, hs⟩, c _ _ _ h1 _ _ g1 (walk_seq w)⟩
  · exact h1.elim⟩
theorem dpi_tup (h : DPE X Γ e te) : DPI X Γ tg e (iTupD te) := PIw (pi_tup h) fun σ H R ⟨F, δ, S, P, sm, rs, h, c⟩ => ⟨F, δ, S, _, sm, rs, h, fun d S1 h1 v H1 g1 r1 => by
  cases r1 <;> first | exact (h1 : False).elim | skip
  rename_i a vs ds hs rl
  refine ⟨_, rfl, ⟨_, sqT_mono (fz_same F S1 H1) hs⟩, c _ _ _ h1 _ _ g1 fun F' S' H' g' s' _ => ?_⟩
  have h2 := rl.mono g'
  have h3 := sqT_mono (fz_same F' S' H') (sqT_mono g' hs)
  have w := walk_tup (K := X.K) (a := a) (xs := vs)
  rw [h2.length] at w
  refine ⟨fun i hi => w.goes i H' hi h3, w.stops H' h3, fun i x H2 hi y => ?_⟩
  obtain ⟨rfl, e⟩ := w.yields i H' x H2 hi h3 y
  obtain ⟨d, e1, r⟩ := h2.get' e
  exact ⟨d, e1, Go.refl s', r⟩⟩
theorem dpi_str (h : DPE X Γ e te) : DPI X Γ tg e (iStrD te) := PIw (pi_str h) fun σ H R ⟨F, δ, S, P, sm, rs, h, c⟩ => ⟨F, δ, S, _, sm, rs, h, fun d S1 h1 v H1 g1 r1 => by
  cases r1 <;> first | exact (h1 : False).elim | skip
  rename_i z
  refine ⟨_, rfl, c _ _ _ h1 _ _ g1 fun F' S' H' g' s' _ => ?_⟩
  have w := walk_str (z := z)
  have hl : (z.cps.toList.map fun c => D.str ⟨#[c]⟩).length = z.cps.size := by simp
  rw [hl]
  refine ⟨fun i hi => w.goes i H' hi True.intro, w.stops H' True.intro, fun i x H2 hi y => ?_⟩
  obtain ⟨rfl, c0, e0, rfl⟩ := w.yields i H' x H2 hi True.intro y
  refine ⟨.str ⟨#[c0]⟩, ?_, Go.refl s', .str _⟩
  rw [List.getElem?_map, Array.getElem?_toList, e0]
  rfl⟩
theorem walk_rng {K : PySem.W.Frag} {Γ : KG K} {F : Addr → Bool} {S : Sto} {H : Hp} {lo : Int} {n : Nat} : WalkD Γ F S H (fun _ => True) (rngD lo n) (Itr lo n) := fun F' S' H' g s _ => by
  have w := walk_range (lo := lo) (n := n)
  have hl : (rngD lo n).length = n := by simp [rngD]
  rw [hl]
  refine ⟨fun i hi => w.goes i H' hi True.intro, w.stops H' True.intro, fun i x H2 hi y => ?_⟩
  obtain ⟨rfl, rfl⟩ := w.yields i H' x H2 hi True.intro y
  refine ⟨.int (lo + i), ?_, Go.refl s, .int _⟩
  unfold rngD
  rw [List.getElem?_map, List.getElem?_range hi]
  rfl
theorem dpi_range1 (hg : Gl X "range") (hm : X.mg "range" = none) (h : DPE X Γ a ta) (hs : starEach [a] X.env = [(false, eval a X.env)] := by rfl) (hs' : starEach [a] X.env = (false, eval a X.env) :: starEach [] X.env := by rfl) : DPI X Γ tg (.Call (.Name "range" p) [a] [] pos) (iRange1 ta) :=
  PIw (pi_range1 hg hm (dpa_cons h dpa_nil hs') hs) fun σ H R ⟨F, δ, S, P, sm, rs, h, c⟩ => ⟨F, δ, S, fun ds S1 => match ds with
  | [x] => (match x with
    | .int j => -(2 ^ 62) ≤ j ∧ j < 2 ^ 62 ∧ P (fun _ => True) (rngD 0 j.toNat) S1
    | _ => False)
  | _ => False, sm, rs, h, fun ds S1 h1 vs H1 g1 r1 => by
    rcases ds with _ | ⟨x, _ | ⟨_, _⟩⟩ <;> first | exact (h1 : False).elim | skip
    cases r1 with
    | cons r1 r2 =>
    cases r2
    cases r1 <;> first | exact (h1 : False).elim | skip
    obtain ⟨h1, h2, h3⟩ := h1
    exact ⟨_, rfl, h1, h2, c _ _ _ h3 _ _ g1 walk_rng⟩⟩
theorem dpi_range2 (hg : Gl X "range") (hm : X.mg "range" = none) (h : DPE X Γ a ta) (h' : DPE X Γ b tb) (hs : starEach [a, b] X.env = (false, eval a X.env) :: starEach [b] X.env := by rfl) (hs1 : starEach [b] X.env = (false, eval b X.env) :: starEach [] X.env := by rfl)
    (hs2 : starEach [a, b] X.env = [(false, eval a X.env), (false, eval b X.env)] := by rfl) (hs3 : starEach [b] X.env = [(false, eval b X.env)] := by rfl) : DPI X Γ tg (.Call (.Name "range" p) [a, b] [] pos) (iRange2 ta tb) :=
  PIw (pi_range2 hg hm (dpa_cons h (dpa_cons h' dpa_nil hs1) hs) hs2 hs3) fun σ H R ⟨F, δ, S, P, sm, rs, h, c⟩ => ⟨F, δ, S, fun ds S1 => match ds with
  | [x, y] => (match x, y with
    | .int i, .int j => (-(2 ^ 62) ≤ i ∧ i < 2 ^ 62 ∧ -(2 ^ 62) ≤ j ∧ j < 2 ^ 62) ∧ P (fun _ => True) (rngD i (j - i).toNat) S1
    | _, _ => False)
  | _ => False, sm, rs, h, fun ds S1 h1 vs H1 g1 r1 => by
    rcases ds with _ | ⟨x, _ | ⟨y, _ | ⟨_, _⟩⟩⟩ <;> first | exact (h1 : False).elim | skip
    cases x <;> first | exact (h1 : False).elim | skip
    cases y <;> first | exact (h1 : False).elim | skip
    cases r1 with
    | cons r1 r2 =>
    cases r2 with
    | cons r2 r3 =>
    cases r3
    cases r1; cases r2
    obtain ⟨h1, h3⟩ := h1
    exact ⟨_, _, rfl, h1, c _ _ _ h3 _ _ g1 walk_rng⟩⟩
theorem dpi_enum (hg : Gl X "enumerate") (hm : X.mg "enumerate" = none) (h : DPE X Γ a ta) (hs : starEach [a] X.env = [(false, eval a X.env)] := by rfl) (hs' : starEach [a] X.env = (false, eval a X.env) :: starEach [] X.env := by rfl) : DPI X Γ (.Tuple elts kk tpos) (.Call (.Name "enumerate" p) [a] [] pos) (iEnumD ta) :=
  PIw (pi_enum hg hm (dpa_cons h dpa_nil hs') hs) fun σ H R ⟨F, δ, S, P, sm, rs, h, c⟩ => ⟨F, δ, S, fun ds S1 => match ds with
  | [x] => (match itOf S1 x with
    | some p => P p.1 (enumD 0 p.2) S1
    | none => False)
  | _ => False, sm, rs, h, fun ds S1 h1 vs H1 g1 r1 => by
    rcases ds with _ | ⟨x, _ | ⟨_, _⟩⟩ <;> first | exact (h1 : False).elim | skip
    cases r1 with
    | cons r1 r2 =>
    cases r2
    have h1 : match itOf S1 x with
      | some p => P p.1 (enumD 0 p.2) S1
      | none => False := h1
    split at h1
    · rename_i q e
      obtain ⟨a, vs, rfl, hs, _, w⟩ := itOf_rel g1.sim r1 e
      exact ⟨a, vs, rfl, hs, c _ _ _ h1 _ _ g1 (walk_enumD w)⟩
    · exact h1.elim⟩
end
/-! ### list comprehensions -/
abbrev dwipe (δ : DSt) : List Nat → DSt
  | [] => δ
  | v :: vs => dset (dwipe δ vs) v none
theorem RelS.wipe {K : PySem.W.Frag} {G : Hp} {σ : St} {δ : DSt} (r : RelS K G σ δ) : ∀ vs : List Nat, RelS K G (L2.wipe σ vs) (dwipe δ vs)
  | [] => r
  | v :: vs => by
    show RelS K G _ (L3.dset (dwipe δ vs) v none)
    rw [dset_eq]
    exact (RelS.wipe r vs).unset v
def lcL (kp : Sto → Prop) (g : DTG) (tt : DTT) (te : DTE) (vs : List Nat) (δ : DSt) : List D → List D → Sto → DK → Prop
  | [], acc, S, Q => kp S ∧ Q (.lst acc) S
  | d :: r, acc, S, Q => kp S ∧ acc.length < sizeLine ∧ g d (dwipe δ vs) S fun δ2 S2 => tt δ2 S2 fun b S3 =>
    if b = true then te δ2 S3 fun y S4 => lcL kp g tt te vs δ r (acc ++ [y]) S4 Q else lcL kp g tt te vs δ r acc S3 Q
abbrev dLc (ti : DTI) (g : DTG) (tt : DTT) (te : DTE) (vs : List Nat) : DTE := fun δ S Q => ti δ S fun kp items S1 => lcL kp g tt te vs δ items [] S1 Q
abbrev dYes : DTT := fun _ S Q => Q true S
theorem lcL_kp {kp : Sto → Prop} {g : DTG} {tt : DTT} {te : DTE} {vs : List Nat} {δ : DSt} {items acc : List D} {S : Sto} {Q : DK} (h : lcL kp g tt te vs δ items acc S Q) : kp S := by
  cases items with
  | nil => exact h.1
  | cons d r => exact h.1
section
variable {X : Cx} {Γ : KG X.K}
theorem lf_lc {K : PySem.W.Frag} {Γ : KG K} {wi : DTI} {tg : Tg} {tt : DTT} {te : DTE} {vs : List Nat} (hv : ∀ i ∈ tg.slots, i ∈ vs) (σ : St) (H : Hp) (Q : VK) (h : lf Γ (dLc wi (dTg tg) tt te vs) σ H Q) : tLc (lfI Γ wi) (gTg K tg) (lfT Γ tt) (lf Γ te) vs σ H Q := by
  obtain ⟨F, δ, S, P, sm, rs, h, c⟩ := h
  refine ⟨F, δ, S, _, sm, rs, h, fun kp items S1 h1 J H1 g1 wk => ?_⟩
  intro Dp hD
  have c1 := c.mono g1
  have s1 := g1.sim.hideNew (o := .lst []) hD
  have fD := (g1.sim.none hD).1
  -- the states of the loop
  refine ⟨fun i m H' => m = items.length - i ∧ i ≤ items.length ∧ ∃ S' vs' acc, Go Γ (hide F Dp) S1 (upd H1 Dp (.lst [])) S' (upd H' Dp (.lst [])) ∧ H' Dp = some (.lst vs') ∧ RelL K (fz (hide F Dp) S' H') vs' acc ∧ lcL kp (dTg tg) tt te vs δ (items.drop i) acc S' P,
    ⟨items.length, by simp, Nat.zero_le _, S1, [], [], by rw [upd_upd]; exact Go.refl s1, upd_same, .nil, h1⟩, ?_⟩
  rintro i m H2 ⟨rfl, hi, S2, vs2, acc, g2, e2, r2, h2⟩
  have s2 : Sim Γ (hide F Dp) S2 H2 := by
    have q := Sim.hidePut g1.sim fD g2.sim (o := .lst vs2)
    rw [upd_upd] at q
    have e : upd H2 Dp (.lst vs2) = H2 := by
      funext b
      by_cases z : b = Dp
      · subst z; rw [upd_same, e2]
      · rw [upd_ne z]
    rw [e] at q
    exact q
  -- from the loop's entry to here, all shown
  have go2 : Go Γ F S1 H1 S2 H2 := by
    refine .of g1.sim ⟨fun b x e => ?_, fun a f => ?_, s2.toSimB.show_ fD⟩
    · have q := g2.same b x (fz_hide_new hD b x e)
      rw [fz_hide_upd] at q
      exact fz_hide_same b x q
    · have np : a ≠ Dp := fun z => by subst z; rw [fD] at f; cases f
      have q := g2.hid a (by simp [hide, np, f])
      rw [upd_ne np, upd_ne np] at q
      exact q
  have rs2 : RelS K (fz (hide F Dp) S2 H2) σ δ := by
    have q : RelS K (fz (hide F Dp) S2 (upd H2 Dp (.lst []))) σ δ := ((rs.mono g1.same).mono (fz_hide_new hD)).mono g2.same
    rw [fz_hide_upd] at q
    exact q
  have sm2 : Same (fz F S1 H1) (fz (hide F Dp) S2 H2) := fun b x e => by
    have q := g2.same b x (fz_hide_new hD b x e)
    rw [fz_hide_upd] at q
    exact q
  obtain ⟨w1, w2, w3⟩ := wk (hide F Dp) S2 H2 sm2 s2 (lcL_kp h2)
  by_cases hlt : i < items.length
  · refine .inr ⟨w1 i hlt, fun H' => ∃ S' vs' acc, Go Γ (hide F Dp) S1 (upd H1 Dp (.lst [])) S' (upd H' Dp (.lst [])) ∧ H' Dp = some (.lst vs') ∧ RelL K (fz (hide F Dp) S' H') vs' acc ∧ lcL kp (dTg tg) tt te vs δ (items.drop (i + 1)) acc S' P,
      fun H' q => ⟨items.length - (i + 1), by omega, rfl, hlt, q⟩, fun x H3 y => ?_⟩
    obtain ⟨d, e, g3, rx⟩ := w3 i x H3 hlt y
    have ed : items.drop i = d :: items.drop (i + 1) := by
      rw [List.drop_eq_getElem_cons hlt]
      rw [List.getElem?_eq_getElem hlt] at e
      cases e
      rfl
    rw [ed] at h2
    obtain ⟨_, hacc, h2⟩ := h2
    -- later states, D behind them
    have later : ∀ {S4 : Sto} {H4 : Hp}, Go Γ (hide F Dp) S2 H2 S4 H4 → Go Γ (hide F Dp) S1 (upd H1 Dp (.lst [])) S4 (upd H4 Dp (.lst [])) := fun {S4 H4} g => by
      refine g2.trans ⟨?_, fun a f => ?_, Sim.hidePut g1.sim fD g.sim⟩
      · rw [fz_hide_upd, fz_hide_upd]
        exact g.same
      · by_cases z : a = Dp
        · subst z; rw [upd_same, upd_same]
        · rw [upd_ne z, upd_ne z]; exact g.hid a f
    refine gTg_ok tg rx ((rs2.wipe vs).mono g3.same) h2 fun σ4 δ4 rs4 h4 hw => ⟨?_, ?_⟩
    · rw [hw vs hv]
      exact wipe_wipe σ vs
    refine ⟨hide F Dp, δ4, S2, _, g3.sim, rs4, h4, fun b S5 h5 H5 g5 => ?_⟩
    have g25 := g3.trans g5
    cases b with
    | false => exact ⟨S5, vs2, acc, later g25, (g25.hid Dp (by simp [hide])).trans e2, r2.mono g25.same, h5⟩
    | true =>
      refine ⟨hide F Dp, δ4, S5, _, g5.sim, rs4.mono g5.same, h5, fun dy S6 h6 vy H6 g6 r6 => ?_⟩
      have g26 := g25.trans g6
      have e6 : H6 Dp = some (.lst vs2) := (g26.hid Dp (by simp [hide])).trans e2
      refine ⟨vs2, e6, by rw [r2.length]; exact hacc, S6, vs2 ++ [vy], acc ++ [dy], ?_, upd_same, ?_, h6⟩
      · rw [upd_upd]
        exact later g26
      · rw [fz_hide_upd]
        exact (r2.mono g26.same).append (.cons r6 .nil)
  · have e : i = items.length := by omega
    subst e
    rw [List.drop_length] at h2
    refine .inl ⟨w2, ?_⟩
    refine c1 _ _ h2.2 _ _ go2 (.lst ?_ (r2.mono fz_hide_same))
    cases z : S2 Dp with
    | none => rw [fz_none fD z]; exact e2
    | some u =>
      have := (s2.at_ Dp u z).1
      simp [hide] at this
where
  wipe_wipe (σ : St) (vs : List Nat) : L2.wipe (L2.wipe σ vs) vs = L2.wipe σ vs := by
    have c : ∀ (js : List Nat) (τ : St), (∀ j ∈ js, j < τ.length → τ[j]? = some none) → L2.wipe τ js = τ := by
      intro js
      induction js with
      | nil => intro τ _; rfl
      | cons j js ih =>
        intro τ h
        show (L2.wipe τ js).set j none = τ
        rw [ih τ fun k hk => h k (List.mem_cons_of_mem _ hk)]
        by_cases hj : j < τ.length
        · have q := h j List.mem_cons_self hj
          rw [List.getElem?_eq_getElem hj] at q
          have q' := Option.some.inj q
          rw [← q']
          exact List.set_getElem_self hj
        · exact List.set_eq_of_length_le (by omega)
    refine c vs _ fun j hj hl => ?_
    have d : ∀ (js : List Nat) (τ : St), j ∈ js → j < τ.length → (L2.wipe τ js)[j]? = some none := by
      intro js
      induction js with
      | nil => intro τ h; cases h
      | cons k js ih =>
        intro τ h hl
        show ((L2.wipe τ js).set k none)[j]? = some none
        rw [List.getElem?_set]
        by_cases z : k = j
        · rw [if_pos z, if_pos (by rw [wipe_length]; omega)]
        · rw [if_neg z]
          refine ih τ ?_ hl
          rcases List.mem_cons.mp h with e | e
          · exact absurd e.symm z
          · exact e
    exact d vs σ hj (by rw [wipe_length] at hl; exact hl)
theorem dpt_yes : ∀ {X : Cx} {Γ : KG X.K}, PTs X [] (lfT Γ dYes) := ⟨fun pins s σ H Q I ⟨F, δ, S, P, sm, rs, h, c⟩ => pts_nil.run pins s σ H Q I (c _ _ h _ (Go.refl sm))⟩
theorem dpts_one {c : Expr} {t : DTT} (h : DPT X Γ c t) : PTs X [c] (lfT Γ t) := pts_one h
theorem dpe_lc {elt tge iter : Expr} {ifs : List Expr} {scope : Scope} {own : List (Str × Nat)} {pos : Pos} {wi : DTI} {tg : Tg} {tt : DTT} {te : DTE} (hN : X.N.Nodup) (hi : DPI X Γ tge iter wi) (ok : BlkOk X.N X.env.scope scope own)
    (hg : ∀ (s : Shared) (H : Hp) (C : Addr) (cl : List (Str × Addr)) (fp : List Addr), PG (X.blk s H scope (compEnvC scope cl C X.env) fp) tge (gTg X.K tg)) (ht : ∀ (s : Shared) (H : Hp) (C : Addr) (cl : List (Str × Addr)) (fp : List Addr), PTs (X.blk s H scope (compEnvC scope cl C X.env) fp) ifs (lfT Γ tt))
    (he : ∀ (s : Shared) (H : Hp) (C : Addr) (cl : List (Str × Addr)) (fp : List Addr), DPE (X.blk s H scope (compEnvC scope cl C X.env) fp) Γ elt te) (hv : ∀ i ∈ tg.slots, i ∈ own.map (·.2) := by decide) (hc : X.calm = true := by rfl) (hs : ∀ x, foldedSetIterable iter X.env x = pure x := by intro _; rfl) :
    DPE X Γ (.ListComp elt [⟨tge, iter, ifs, 0⟩] scope pos) (dLc wi (dTg tg) tt te (own.map (·.2))) :=
  PEw (pe_lc (te := lf Γ te) hc hN hi ok hg ht (fun s H C cl fp => he s H C cl fp) hs) (lf_lc hv)
theorem dps_setLc {i : Nat} {y : Str} {py : Pos} {elt tge iter : Expr} {ifs : List Expr} {scope : Scope} {own : List (Str × Nat)} {pos spos : Pos} {wi : DTI} {tg : Tg} {tt : DTT} {te : DTE} (hN : X.N.Nodup) (hy : X.N[i]? = some y) (hyl : X.env.scope.names.lookup y = some .local)
    (hsw : swapsWith (.ListComp elt [⟨tge, iter, ifs, 0⟩] scope pos) (some (.Name y py)) spos.line X.env = pure true) (hi : DPI X Γ tge iter wi) (ok : BlkOk X.N X.env.scope scope own)
    (hg : ∀ (s : Shared) (H : Hp) (C : Addr) (cl : List (Str × Addr)) (fp : List Addr), PG (X.blk s H scope (compEnvC scope cl C X.env) fp) tge (gTg X.K tg)) (ht : ∀ (s : Shared) (H : Hp) (C : Addr) (cl : List (Str × Addr)) (fp : List Addr), PTs (X.blk s H scope (compEnvC scope cl C X.env) fp) ifs (lfT Γ tt))
    (he : ∀ (s : Shared) (H : Hp) (C : Addr) (cl : List (Str × Addr)) (fp : List Addr), DPE (X.blk s H scope (compEnvC scope cl C X.env) fp) Γ elt te) (hv : ∀ i ∈ tg.slots, i ∈ own.map (·.2) := by decide) (hc : X.calm = true := by rfl) (hs : ∀ x, foldedSetIterable iter X.env x = pure x := by intro _; rfl) :
    DPS X Γ (.Assign [.Name y py] (.ListComp elt [⟨tge, iter, ifs, 0⟩] scope pos) spos) (dAsg (dLc wi (dTg tg) tt te (own.map (·.2))) (dTg (.nm i))) := by
  refine PSw (ps_setLc (te := lf Γ te) hc hN hy hyl hsw hi ok hg ht (fun s H C cl fp => he s H C cl fp) hs) fun D σ H ⟨F, δ, S, P, sm, rs, h, c⟩ => ?_
  refine lf_lc hv σ H _ ⟨F, δ, S, _, sm, rs, h, fun d S1 h1 v H1 g1 r1 => ?_⟩
  exact c.nx _ _ h1 _ _ g1 ((rs.mono g1.same).dset r1 i)
end
/-! ### methods of lists -/
section
variable {X : Cx} {Γ : KG X.K} {o e a : Expr} {to te : DTE} {t : DTA} {es : List Expr} {apos cpos : Pos} {name : Str} {T id : String}
/-- a method of a built-in's object, by data: the receiver's type and the reading -/
structure DMt (X : Cx) (T id : String) (r' : D → List D → Sto → DK → Prop) : Prop where
  ex : ∃ r, MtR X id r ∧ LRM X.K r r' ∧ ∀ {Γ : KG X.K} x dx ds F S H P, Sim Γ F S H → Rel X.K (fz F S H) x dx → r' dx ds S P → tyV X.K T x H
abbrev dBM (r : D → List D → Sto → DK → Prop) (to : DTE) (t : DTA) : DTE := fun δ S Q => to δ S fun x S1 => t δ S1 fun xs S2 => r x xs S2 Q
/-- the receiver is looked at ahead of the arguments: what a list stays -/
def isSeq (S : Sto) : D → Prop
  | .ref a => ∃ ds, S a = some (.lst ds)
  | _ => False
abbrev dLM (r : D → List D → Sto → DK → Prop) (to : DTE) (t : DTA) : DTE := fun δ S Q => to δ S fun x S1 => isSeq S1 x ∧ t δ S1 fun xs S2 => r x xs S2 Q
theorem isSeq_ty {K : PySem.W.Frag} {Γ : KG K} {F : Addr → Bool} {S : Sto} {H : Hp} {v : V} {d : D} (sm : Sim Γ F S H) (r : Rel K (fz F S H) v d) (h : isSeq S d) : tyV K "list" v H := by
  cases r <;> first | exact (h : False).elim | skip
  obtain ⟨ds, e⟩ := h
  obtain ⟨vs, e1, r1⟩ := sm.lst e
  exact .inl ⟨rfl, vs, .of e1⟩
/-- a method of a mutable list -/
theorem dpe_lm {r : V → List V → Hp → VK → Prop} {r' : D → List D → Sto → DK → Prop} (slot : Slot "list" name id) (hty : typeOf (.builtin id) = pure (.type "method_descriptor")) (hm : MtM X id r) (hl : LRM X.K r r') (ho : DPE X Γ o to) (ha : DPA X Γ (e :: es) t)
    (hbase : attributeBase o name X.env (eval o X.env) = eval o X.env := by rfl)
    (hfew : ((backTo cpos (starEach (e :: es) X.env)).all (fun x => !x.1) && (backToKw cpos (keywordEach [] X.env)).all (fun x => x.1.isSome)
      && decide ((e :: es).length + ([] : List Keyword).length + (if ([] : List Keyword).isEmpty then 0 else 1) < 30)) = true := by rfl)
    (hline : (apos.endLine == cpos.line) = true := by rfl) (hs : starEach (e :: es) X.env = (false, eval e X.env) :: starEach es X.env := by rfl) (hplain : (backTo cpos (starEach es X.env)).any (·.1) = false := by rfl) :
    DPE X Γ (.Call (.Attribute o name apos) (e :: es) [] cpos) (dLM r' to t) :=
  PEw (pe_bm PySem.F.plainAttrs_list slot hty hm ho ha hbase hfew hline hs hplain) fun σ H Q ⟨F, δ, S, P, sm, rs, h, c⟩ =>
    ⟨F, δ, S, _, sm, rs, h, fun d S1 ⟨h0, h1⟩ v H1 g1 r1 => ⟨isSeq_ty g1.sim r1 h0, F, δ, S1, _, g1.sim, rs.mono g1.same, h1, fun ds S2 h2 vs H2 g2 r2 => hl v vs d ds F S2 H2 P Q g2.sim (r1.mono g2.same) r2 h2 (c.mono (g1.trans g2))⟩⟩
theorem dpe_lm0 {r : V → List V → Hp → VK → Prop} {r' : D → List D → Sto → DK → Prop} (slot : Slot "list" name id) (hty : typeOf (.builtin id) = pure (.type "method_descriptor")) (hm : MtM X id r) (hl : LRM X.K r r') (ho : DPE X Γ o to)
    (hbase : attributeBase o name X.env (eval o X.env) = eval o X.env := by rfl) (hline : (apos.endLine == cpos.line) = true := by rfl) :
    DPE X Γ (.Call (.Attribute o name apos) [] [] cpos) (dLM r' to dNil) :=
  PEw (pe_bm0 PySem.F.plainAttrs_list slot hty hm ho hbase hline) fun σ H Q ⟨F, δ, S, P, sm, rs, h, c⟩ =>
    ⟨F, δ, S, _, sm, rs, h, fun d S1 ⟨h0, h1⟩ v H1 g1 r1 => ⟨isSeq_ty g1.sim r1 h0, hl v [] d [] F S1 H1 P Q g1.sim r1 .nil h1 (c.mono g1)⟩⟩
/-- xs.append(y) -/
def vAppend : D → List D → Sto → DK → Prop
  | .ref a, [d], S, Q => match S a with
    | some (.lst ds) => ds.length < sizeLine ∧ Q .non (sup S a (.lst (ds ++ [d])))
    | _ => False
  | _, _, _, _ => False
theorem lr_append : LRM X.K rAppend vAppend := fun x xs dx ds F S H P Q sm rx rxs q c => by
  cases rx <;> first | exact (q : False).elim | skip
  rename_i a
  cases rxs with
  | nil => exact (q : False).elim
  | cons r1 r2 =>
  cases r2 with
  | cons _ _ => exact (q : False).elim
  | nil =>
  simp only [vAppend] at q
  split at q
  · rename_i ds e
    obtain ⟨vs, e1, rv⟩ := sm.lst e
    exact ⟨a, vs, _, rfl, rfl, e1, by rw [rv.length]; exact q.1, c.put (o := .lst (vs ++ [_])) (u' := .lst (ds ++ [_])) sm e ⟨_, rfl, rv.append (.cons r1 .nil)⟩ .non q.2⟩
  · exact q.elim
/-- xs.pop() -/
def vPop : D → List D → Sto → DK → Prop
  | .ref a, [], S, Q => match S a with
    | some (.lst ds) => match ds[ds.length - 1]? with | some d => Q d (sup S a (.lst ds.dropLast)) | none => False
    | _ => False
  | _, _, _, _ => False
theorem RelL.dropLast {K : PySem.W.Frag} {G : Hp} {xs : List V} {ds : List D} (r : RelL K G xs ds) : RelL K G xs.dropLast ds.dropLast := by
  rw [List.dropLast_eq_take, List.dropLast_eq_take, r.length]
  exact r.take _
theorem lr_pop : LRM X.K rPop vPop := fun x xs dx ds F S H P Q sm rx rxs q c => by
  cases rx <;> first | exact (q : False).elim | skip
  rename_i a
  cases rxs with
  | cons _ _ => exact (q : False).elim
  | nil =>
  simp only [vPop] at q
  split at q
  · rename_i ds e
    obtain ⟨vs, e1, rv⟩ := sm.lst e
    split at q
    · rename_i d e2
      obtain ⟨v, e3, r3⟩ := rv.get e2
      exact ⟨a, vs, v, rfl, rfl, e1, by rw [rv.length]; exact e3, c.put (o := .lst vs.dropLast) (u' := .lst ds.dropLast) sm e ⟨_, rfl, rv.dropLast⟩ r3 q⟩
    · exact q.elim
  · exact q.elim
end
end L3

set_option Elab.async false
set_option maxRecDepth 100000
set_option linter.all false
set_option maxHeartbeats 2000000
namespace L3
open PySem PySem.Spec PyProof.Rows L2
/-! ### defs and their promises -/
abbrev DSp := List D → Sto → DK → Prop
/-- nothing is known -/
def KG.top (K : PySem.W.Frag) : KG K := ⟨fun _ _ _ => True, fun _ _ _ => True.intro, fun _ _ _ => True.intro, fun _ _ _ _ => True.intro⟩
theorem Ct.top {K : PySem.W.Frag} {Γ : KG K} {F : Addr → Bool} {S : Sto} {H : Hp} {P : DK} {Q : VK} (sm : Sim Γ F S H) (c : Ct Γ F S H P Q) : Ct (KG.top K) F S H P Q := fun d S' h v H' g r => c d S' h v H' (.of sm g.b) r
theorem Sim.top {K : PySem.W.Frag} {Γ : KG K} {F : Addr → Bool} {S : Sto} {H : Hp} (sm : Sim Γ F S H) : Sim (KG.top K) F S H := ⟨sm.toSimB, True.intro⟩
def lfSp (K : PySem.W.Frag) (sp : DSp) : Sp := fun vs H Q _ => ∃ F ds S P, Sim (KG.top K) F S H ∧ RelL K (fz F S H) vs ds ∧ sp ds S P ∧ Ct (KG.top K) F S H P Q
abbrev FnD (P : Program) (w : World) (K : PySem.W.Frag) (mg : Str → Option Value) (base : Heap) (k : Nat) (f : Addr) (fd : FuncData) (ps : List Str) (sp : DSp) : Prop := FnOk P w K mg base CX0 k f fd ps (lfSp K sp)
abbrev dCall (sp : DSp) (t : DTA) : DTE := fun δ S Q => t δ S fun ds S1 => sp ds S1 Q
section
variable {X : Cx} {Γ : KG X.K} {k : Nat} {f : Addr} {fd : FuncData} {ps : List Str} {sp : DSp} {x : Str} {p pos : Pos} {e : Expr} {es : List Expr} {t : DTA}
theorem dpe_call (F : FnD X.prog X.w X.K X.mg X.base k f fd ps sp) (hr : Room k X.A) (hg : Gl X x) (hm : X.mg x = some (.ref f)) (hk : PySem.W.keepIn X.K (.ref f) = true) (hb : Binds X.K fd ps [])
    (ha : DPA X Γ (e :: es) t) (hdb : (x == ("__debug__" : Str)) = false := by decide) (he : starEach (e :: es) X.env = (false, eval e X.env) :: starEach es X.env := by rfl) (hpl : (backTo pos (starEach es X.env)).any (·.1) = false := by rfl) :
    DPE X Γ (.Call (.Name x p) (e :: es) [] pos) (dCall sp t) :=
  PEw (pe_call F hr hg hm hk hb .nil pass0 ha hdb he hpl) fun σ H Q ⟨F, δ, S, P, sm, rs, h, c⟩ => ⟨F, δ, S, _, sm, rs, h, fun ds S1 h1 vs H1 g1 r1 => by
    show lfSp X.K sp (vs ++ []) H1 Q E0
    rw [List.append_nil]
    exact ⟨F, ds, S1, P, g1.sim.top, r1, h1, (c.mono g1).top g1.sim⟩⟩
theorem dpe_call0 (F : FnD X.prog X.w X.K X.mg X.base k f fd ps sp) (hr : Room k X.A) (hg : Gl X x) (hm : X.mg x = some (.ref f)) (hk : PySem.W.keepIn X.K (.ref f) = true) (hb : Binds X.K fd ps [])
    (hdb : (x == ("__debug__" : Str)) = false := by decide) : DPE X Γ (.Call (.Name x p) [] [] pos) (dCall sp dNil) :=
  PEw (pe_call0 F hr hg hm hk hb .nil pass0 hdb) fun σ H Q ⟨F, δ, S, P, sm, rs, h, c⟩ => ⟨F, [], S, P, sm.top, .nil, h, c.top sm⟩
end
/-! what is handed back: parts of the store let go, lists that nobody changes any more -/
mutual
inductive Lw (S' S'' : Sto) : D → D → Prop
  | refl (d : D) : Lw S' S'' d d
  | frz {a : Addr} {ds es : List D} : S' a = some (.lst ds) → S'' a = none → LwL S' S'' ds es → Lw S' S'' (.ref a) (.lst es)
  | tup {ds es : List D} : LwL S' S'' ds es → Lw S' S'' (.tup ds) (.tup es)
inductive LwL (S' S'' : Sto) : List D → List D → Prop
  | nil : LwL S' S'' [] []
  | cons {d e : D} {ds es : List D} : Lw S' S'' d e → LwL S' S'' ds es → LwL S' S'' (d :: ds) (e :: es)
end
theorem LwL.refl {S' S'' : Sto} : ∀ ds : List D, LwL S' S'' ds ds
  | [] => .nil
  | d :: ds => .cons (.refl d) (LwL.refl ds)
section
variable {K : PySem.W.Frag} {Γ : KG K} {F : Addr → Bool} {S' S'' : Sto} {H : Hp}
theorem fz_less (h : ∀ a o, S'' a = some o → S' a = some o) : Same (fz F S' H) (fz F S'' H) := fun b x e => by
  obtain ⟨h0, h1, h2⟩ := fz_of e
  rw [fz_none h0 ?_]
  · exact h2
  · cases q : S'' b with
    | none => rfl
    | some u => rw [h b u q] at h1; cases h1
mutual
theorem Lw.rel (sm : Sim Γ F S' H) (h : ∀ a o, S'' a = some o → S' a = some o) : ∀ {d e : D} {v : V}, Lw S' S'' d e → Rel K (fz F S' H) v d → Rel K (fz F S'' H) v e
  | _, _, _, .refl d, r => r.mono (fz_less h)
  | _, _, _, .frz (a := a) h1 h2 l, r => by
    cases r
    obtain ⟨vs, e1, r1⟩ := sm.lst h1
    refine .lst ?_ (LwL.rel sm h l r1)
    rw [fz_none (sm.at_ _ _ h1).1 h2]
    exact e1
  | _, _, _, .tup l, r => by
    cases r with
    | tup hs rl => exact .tup (sqT_mono (fz_less h) hs) (LwL.rel sm h l rl)
theorem LwL.rel (sm : Sim Γ F S' H) (h : ∀ a o, S'' a = some o → S' a = some o) : ∀ {d e : List D} {v : List V}, LwL S' S'' d e → RelL K (fz F S' H) v d → RelL K (fz F S'' H) v e
  | _, _, _, .nil, .nil => .nil
  | _, _, _, .cons a b, .cons r t => .cons (Lw.rel sm h a r) (LwL.rel sm h b t)
end
end
/-- P holds of what is left -/
def Fin_ (P : DK) : DK := fun d S' => ∃ e S'', (∀ a o, S'' a = some o → S' a = some o) ∧ Lw S' S'' d e ∧ P e S''
theorem Fin_.of {P : DK} {d : D} {S : Sto} (h : P d S) : Fin_ P d S := ⟨d, S, fun _ _ q => q, .refl d, h⟩
theorem Ct.fin {K : PySem.W.Frag} {Γ : KG K} {F : Addr → Bool} {S : Sto} {H : Hp} {P : DK} {Q : VK} (sm : Sim Γ F S H) (c : Ct Γ F S H P Q) : Ct Γ F S H (Fin_ P) Q := fun d S' ⟨e, S'', h1, h2, h3⟩ v H' g r =>
  c e S'' h3 v H' (Go.drop sm g h1) (h2.rel g.sim h1 r)
abbrev dstart : List Str → List D → DSt
  | [], _ => []
  | _ :: N, [] => none :: dstart N []
  | _ :: N, d :: ds => some d :: dstart N ds
theorem rels_start {K : PySem.W.Frag} {G : Hp} : ∀ {N : List Str} {vs : List V} {ds : List D}, RelL K G vs ds → ds.length ≤ N.length → RelS K G (L2.start N vs) (dstart N ds)
  | [], _, _, .nil, _ => .nil
  | [], _, _, .cons _ _, h => by simp at h
  | x :: N, _, _, .nil, h => by
    have q := rels_start (N := N) (K := K) (G := G) .nil (Nat.zero_le _)
    exact .skip q
  | x :: N, _, _, .cons r t, h => by
    have q := rels_start (N := N) t (by simpa using h)
    have e : ∀ (v : V) (vs : List V), L2.start (x :: N) (v :: vs) = some v :: L2.start N vs := fun v vs => by
      unfold L2.start
      simp
    rw [e]
    exact .cons r q
/-! promises by their arguments -/
abbrev a0 (sp : Sto → DK → Prop) : DSp := fun ds S Q => match ds with | [] => sp S Q | _ => False
abbrev a1 (sp : D → Sto → DK → Prop) : DSp := fun ds S Q => match ds with | [a] => sp a S Q | _ => False
abbrev a2 (sp : D → D → Sto → DK → Prop) : DSp := fun ds S Q => match ds with | [a, b] => sp a b S Q | _ => False
abbrev a3 (sp : D → D → D → Sto → DK → Prop) : DSp := fun ds S Q => match ds with | [a, b, c] => sp a b c S Q | _ => False
abbrev a4 (sp : D → D → D → D → Sto → DK → Prop) : DSp := fun ds S Q => match ds with | [a, b, c, d] => sp a b c d S Q | _ => False
abbrev a5 (sp : D → D → D → D → D → Sto → DK → Prop) : DSp := fun ds S Q => match ds with | [a, b, c, d, e] => sp a b c d e S Q | _ => False
abbrev a6 (sp : D → D → D → D → D → D → Sto → DK → Prop) : DSp := fun ds S Q => match ds with | [a, b, c, d, e, f] => sp a b c d e f S Q | _ => False
theorem a0_len {sp} : ∀ ds S P, a0 sp ds S P → ds.length = 0
  | [], _, _, _ => rfl
  | _ :: _, _, _, h => (h : False).elim
theorem a1_len {sp} : ∀ ds S P, a1 sp ds S P → ds.length = 1
  | [_], _, _, _ => rfl
  | [], _, _, h | _ :: _ :: _, _, _, h => (h : False).elim
theorem a2_len {sp} : ∀ ds S P, a2 sp ds S P → ds.length = 2
  | [_, _], _, _, _ => rfl
  | [], _, _, h | [_], _, _, h | _ :: _ :: _ :: _, _, _, h => (h : False).elim
theorem a3_len {sp} : ∀ ds S P, a3 sp ds S P → ds.length = 3
  | [_, _, _], _, _, _ => rfl
  | [], _, _, h | [_], _, _, h | [_, _], _, _, h | _ :: _ :: _ :: _ :: _, _, _, h => (h : False).elim
theorem a4_len {sp} : ∀ ds S P, a4 sp ds S P → ds.length = 4
  | [_, _, _, _], _, _, _ => rfl
  | [], _, _, h | [_], _, _, h | [_, _], _, _, h | [_, _, _], _, _, h | _ :: _ :: _ :: _ :: _ :: _, _, _, h => (h : False).elim
theorem a5_len {sp} : ∀ ds S P, a5 sp ds S P → ds.length = 5
  | [_, _, _, _, _], _, _, _ => rfl
  | [], _, _, h | [_], _, _, h | [_, _], _, _, h | [_, _, _], _, _, h | [_, _, _, _], _, _, h | _ :: _ :: _ :: _ :: _ :: _ :: _, _, _, h => (h : False).elim
theorem a6_len {sp} : ∀ ds S P, a6 sp ds S P → ds.length = 6
  | [_, _, _, _, _, _], _, _, _ => rfl
  | [], _, _, h | [_], _, _, h | [_, _], _, _, h | [_, _, _], _, _, h | [_, _, _, _], _, _, h | [_, _, _, _, _], _, _, h | _ :: _ :: _ :: _ :: _ :: _ :: _ :: _, _, _, h => (h : False).elim
/-- what follows a def's body -/
abbrev DEnds.of (P : DK) : DEnds := { nx := fun _ S' => Fin_ P .non S', rt := Fin_ P }
section
variable {P : Program} {w : World} {K : PySem.W.Frag} {Γ : KG K} {mg : Str → Option Value} {base : Heap}
/-- a def: its derivation, its reading -/
theorem FnD.mk {x qual : Str} {st : Stmt} {f : Addr} {fd : FuncData} {N ps : List Str} {k : Nat} {sp : DSp} {t : DTS} (Fn : Fun K x qual st f fd) (Sc : FnScope N ps (defScope st)) (len : ∀ ds S P, sp ds S P → ds.length = ps.length)
    (hb : ∀ (cdv : Value) (A : Around) (outer : List Env) (s : Shared) (H : Hp) (E : XK), Room k (A.deeper (envOfC qual (defScope st) s.heap.objs.size f cdv)) → DPSs (cxOf CX0 P w K mg base N qual (defScope st) f cdv A outer s H E).nox (KG.top K) (defBody st) t)
    (hread : ∀ ds S P, sp ds S P → t (DEnds.of P) (dstart N ds) S) : FnD P w K mg base (k + 1) f fd ps sp := by
  refine Fn.ok Sc (fun vs H Q E ⟨F, ds, S, P, sm, rl, h, c⟩ => by rw [rl.length]; exact len _ _ _ h) fun cdv A outer s H vs Q E hr ⟨F, ds, S, P, sm, rl, h, c⟩ => ?_
  have hle : ps.length ≤ N.length := by
    have := congrArg List.length Sc.pre
    rw [List.length_take] at this
    omega
  refine ⟨_, hb cdv A outer s H E hr, F, dstart N ds, S, _, sm, rels_start rl (by rw [len _ _ _ h]; exact hle), hread ds S P h, ⟨fun δ' S' h' σ' H' g rs' => ?_, (c.fin sm), fun _ _ q => q.elim, fun _ _ q => q.elim⟩⟩
  exact (c.fin sm) _ _ h' _ _ g .non
/-- the law itself -/
def spTrue : DSp := fun ds S P => ∃ ns : List Int, ds = [.ro (ns.map .int)] ∧ ns.length ≤ 63 ∧ ∀ S', P (.bl true) S'
def spLaw (K : PySem.W.Frag) : Sp := fun vs H Q _ => ∃ (a : Addr) (ns : List Int), vs = [.ref a] ∧ SqL K H a (ns.map V.int) ∧ ns.length ≤ 63 ∧ ∀ H', Q (.bl true) H'
theorem FnD.law {k : Nat} {f : Addr} {fd : FuncData} (F : FnD P w K mg base k f fd ["script"] spTrue) : FnOk P w K mg base CX0 k f fd ["script"] (spLaw K) :=
  F.imp fun vs H Q E ⟨a, ns, e, hs, hl, q⟩ => by
    subst e
    have e0 : fz (fun _ => false) (fun _ => none) H = H := rfl
    refine ⟨fun _ => false, [.ro (ns.map .int)], fun _ => none, fun d _ => d = .bl true, ⟨⟨fun a o (z : none = some o) => (nomatch z), fun a (z : false = true) => (nomatch z)⟩, True.intro⟩, ?_, ⟨ns, rfl, hl, fun _ => rfl⟩, fun d S' e v H' g r => ?_⟩
    · rw [e0]
      exact .cons (.ro hs (.ofInts ns)) .nil
    · subst e
      cases r
      exact q H'
end
end L3

set_option Elab.async false
set_option maxRecDepth 100000
set_option linter.all false
set_option maxHeartbeats 2000000
namespace L3
open PySem L2
/-! ### lemmas for running readings -/
section
variable {α : Type} {a b c d e f g : α} {r : List α}
theorem atI_nat {xs : List α} {i : Nat} : atI xs (i : Int) = xs[i]? := by
  unfold atI ixN
  rw [if_pos (by omega)]
  by_cases h : i < xs.length
  · rw [if_pos (by omega)]
    simp
  · rw [if_neg (by omega)]
    simp at h
    simp [h]
theorem atI_int {xs : List α} {i : Int} (h0 : 0 ≤ i) : atI xs i = xs[i.toNat]? := by
  obtain ⟨n, rfl⟩ := Int.eq_ofNat_of_zero_le h0
  exact atI_nat
@[simp] theorem atI_0 : atI (a :: r) 0 = some a := atI_nat (i := 0)
@[simp] theorem atI_1 : atI (a :: b :: r) 1 = some b := atI_nat (i := 1)
@[simp] theorem atI_2 : atI (a :: b :: c :: r) 2 = some c := atI_nat (i := 2)
@[simp] theorem atI_3 : atI (a :: b :: c :: d :: r) 3 = some d := atI_nat (i := 3)
@[simp] theorem atI_4 : atI (a :: b :: c :: d :: e :: r) 4 = some e := atI_nat (i := 4)
@[simp] theorem atI_5 : atI (a :: b :: c :: d :: e :: f :: r) 5 = some f := atI_nat (i := 5)
end
@[simp] theorem toPs_map_int (p : List Int) : toPs (p.map .int) = p.map .int := by
  induction p with
  | nil => rfl
  | cons x p ih => simp only [List.map_cons, toPs, toP, ih]
@[simp] theorem okEs_map_int (p : List Int) : okEs (p.map .int) = true := by
  induction p with
  | nil => rfl
  | cons x p ih => simp only [List.map_cons, okEs, okE, ih, Bool.and_self]
@[simp] theorem deps_map_int (p : List Int) : deps (p.map .int) = 0 := by
  induction p with
  | nil => rfl
  | cons x p ih => simp only [List.map_cons, deps, dep, ih, Nat.max_self]
theorem eqvAll_ints : ∀ (p q : List Int), PyData.eqvAll (p.map .int) (q.map .int) = decide (p = q)
  | [], [] => by simp [PyData.eqvAll]
  | [], _ :: _ => by simp [PyData.eqvAll]
  | _ :: _, [] => by simp [PyData.eqvAll]
  | a :: p, b :: q => by simp only [List.map_cons, PyData.eqvAll, PyData.eqv, eqvAll_ints p q, List.cons.injEq, Bool.decide_and]; rfl
theorem cut_from {α : Type} (xs : List α) (n : Nat) : cut xs (some (n : Int)) none = xs.drop n := by
  unfold cut
  rw [HT.sIx_nat, HT.sIx_none]
  by_cases h : n ≤ xs.length
  · rw [Nat.min_eq_left h, List.take_of_length_le (by simp)]
  · rw [Nat.min_eq_right (by omega), List.drop_eq_nil_of_le (Nat.le_refl _), List.drop_eq_nil_of_le (by omega)]
    simp
theorem cut_to {α : Type} (xs : List α) (n : Nat) : cut xs none (some (n : Int)) = xs.take n := by
  unfold cut
  rw [HT.sIx_nat, HT.sIx_none]
  simp only [List.drop_zero, Nat.sub_zero]
  by_cases h : n ≤ xs.length
  · rw [Nat.min_eq_left h]
  · rw [Nat.min_eq_right (by omega), List.take_of_length_le (Nat.le_refl _), List.take_of_length_le (by omega)]
theorem cut_map {α β : Type} (f : α → β) (xs : List α) (lo hi : Option Int) : cut (xs.map f) lo hi = (cut xs lo hi).map f := by
  unfold cut
  rw [List.length_map, List.map_take, List.map_drop]
/-- a comprehension whose elements are told by a function, nothing changes -/
theorem lcL_pure {kp : Sto → Prop} {te : DTE} {vs : List Nat} {δ : DSt} {i : Nat} {S : Sto} {Q : DK} (f : D → D) (hk : kp S) : ∀ (ds acc : List D), acc.length + ds.length ≤ sizeLine →
    (∀ d ∈ ds, ∀ P : DK, P (f d) S → te (dset (dwipe δ vs) i (some d)) S P) → Q (.lst (acc ++ ds.map f)) S → lcL kp (dTg (.nm i)) dYes te vs δ ds acc S Q
  | [], acc, _, _, q => ⟨hk, by simpa using q⟩
  | d :: ds, acc, hz, he, q => by
    refine ⟨hk, by simp only [List.length_cons] at hz; omega, ?_⟩
    show (if true = true then te _ S _ else _)
    rw [if_pos rfl]
    refine he d List.mem_cons_self _ ?_
    refine lcL_pure f hk ds (acc ++ [f d]) (by simp only [List.length_append, List.length_cons, List.length_nil] at hz ⊢; omega) (fun e h => he e (List.mem_cons_of_mem _ h)) ?_
    simpa using q
/-- a for, by an invariant over the turn's number -/
theorem forL_inv {kp : Sto → Prop} {g : DTG} {tb : DTS} {D' : DEnds} (I : Nat → DSt → Sto → Prop) (hk : ∀ i δ S, I i δ S → kp S) : ∀ (ds : List D) (i : Nat) (δ : DSt) (S : Sto), I i δ S →
    (∀ (j : Nat) (d : D) δ S, ds[j]? = some d → I (i + j) δ S → ∀ D2 : DEnds, D2.rt = D'.rt → D2.bk = D'.nx → (∀ δ S, I (i + j + 1) δ S → D2.nx δ S) → (∀ δ S, I (i + j + 1) δ S → D2.ct δ S) → g d δ S fun δ1 S1 => tb D2 δ1 S1) →
    (∀ δ S, I (i + ds.length) δ S → D'.nx δ S) → forL kp g tb ds D' δ S
  | [], i, δ, S, h, _, he => ⟨hk _ _ _ h, he _ _ h⟩
  | d :: ds, i, δ, S, h, hs, he => by
    have rec_ : ∀ δ S, I (i + 1) δ S → forL kp g tb ds D' δ S := fun δ S h' => forL_inv I hk ds (i + 1) δ S h' (fun j e δ S h1 h2 D2 a b c c' => hs (j + 1) e δ S (by simpa using h1) (by rw [show i + (j + 1) = i + 1 + j by omega]; exact h2) D2 a b
        (fun δ S z => c δ S (by rw [show i + 1 + j + 1 = i + (j + 1) + 1 by omega]; exact z)) (fun δ S z => c' δ S (by rw [show i + 1 + j + 1 = i + (j + 1) + 1 by omega]; exact z)))
      (fun δ S z => he δ S (by rw [List.length_cons, show i + (ds.length + 1) = i + 1 + ds.length by omega]; exact z))
    exact ⟨hk _ _ _ h, hs 0 d δ S rfl h { D' with nx := forL kp g tb ds D', ct := forL kp g tb ds D', bk := D'.nx } rfl rfl rec_ rec_⟩
/-- a while, by an invariant over the most turns that are left -/
theorem whileN_inv {c : DTT} {tb : DTS} {D' : DEnds} (I : Nat → DSt → Sto → Prop)
    (hs : ∀ n δ S, I n δ S → ∀ D2 : DEnds, D2.rt = D'.rt → D2.bk = D'.nx → (∀ k δ S, n = k + 1 → I k δ S → D2.nx δ S) → (∀ k δ S, n = k + 1 → I k δ S → D2.ct δ S) → c δ S fun b S1 => if b = true then tb D2 δ S1 else D'.nx δ S1) :
    ∀ n δ S, I n δ S → whileN c tb (n + 1) D' δ S
  | 0, δ, S, h => hs 0 δ S h { D' with nx := whileN c tb 0 D', ct := whileN c tb 0 D', bk := D'.nx } rfl rfl (fun k δ S e => by omega) (fun k δ S e => by omega)
  | n + 1, δ, S, h => hs (n + 1) δ S h { D' with nx := whileN c tb (n + 1) D', ct := whileN c tb (n + 1) D', bk := D'.nx } rfl rfl
      (fun k δ S e z => by rw [show n = k by omega]; exact whileN_inv I hs k δ S z) (fun k δ S e z => by rw [show n = k by omega]; exact whileN_inv I hs k δ S z)
theorem Fin_.same {P : DK} {d : D} {S : Sto} (h : P d S) : Fin_ P d S := .of h
/-! ### equations for running readings: nothing is opened that is not known -/
def vAt : Option D → Sto → DK → Prop
  | some d, S, Q => Q d S
  | none, _, _ => False
theorem vAt_some {d S Q} : vAt (some d) S Q = Q d S := rfl
def vAtL : Option SO → Int → Sto → DK → Prop
  | some (.lst ds), i, S, Q => vAt (atI ds i) S Q
  | _, _, _, _ => False
theorem vAtL_lst {ds i S Q} : vAtL (some (.lst ds)) i S Q = vAt (atI ds i) S Q := rfl
section
variable {a b : Addr} {i j : Int} {x y d : D} {xs ys ds : List D} {s t : Str} {p q : Bool} {S : Sto} {Q : DK} {n : String} {lo hi : Option Int}
theorem vIx_tup : vIx (.tup ds) (.int i) S Q = vAt (atI ds i) S Q := by simp only [vIx]; cases atI ds i <;> rfl
theorem vIx_lst : vIx (.lst ds) (.int i) S Q = vAt (atI ds i) S Q := by simp only [vIx]; cases atI ds i <;> rfl
theorem vIx_ro : vIx (.ro ds) (.int i) S Q = vAt (atI ds i) S Q := by simp only [vIx]; cases atI ds i <;> rfl
theorem vIx_ref : vIx (.ref a) (.int i) S Q = vAtL (S a) i S Q := by
  simp only [vIx]
  rcases S a with _ | (ds | _ | _) <;> first | rfl | (simp only [vAtL]; cases atI ds i <;> rfl)
theorem vIx_str : vIx (.str s) (.int i) S Q = (s.length ≤ sizeLine ∧ match atI s.cps.toList i with | some c => Q (.str ⟨#[c]⟩) S | none => False) := rfl
theorem vSl_tup : vSl (.tup ds) lo hi S Q = Q (.tup (cut ds lo hi)) S := rfl
theorem vSl_lst : vSl (.lst ds) lo hi S Q = Q (.lst (cut ds lo hi)) S := rfl
theorem vSl_ro : vSl (.ro ds) lo hi S Q = Q (.lst (cut ds lo hi)) S := rfl
theorem vSl_str : vSl (.str s) lo hi S Q = (s.length ≤ sizeLine ∧ Q (.str (cutS s lo hi)) S) := rfl
def vSlL : Option SO → Option Int → Option Int → Sto → DK → Prop
  | some (.lst ds), lo, hi, S, Q => Q (.lst (cut ds lo hi)) S
  | _, _, _, _, _ => False
theorem vSlL_lst : vSlL (some (.lst ds)) lo hi S Q = Q (.lst (cut ds lo hi)) S := rfl
theorem vSl_ref : vSl (.ref a) lo hi S Q = vSlL (S a) lo hi S Q := by
  simp only [vSl]
  rcases S a with _ | (_ | _ | _) <;> rfl
theorem vLen_str : vLen [.str s] S Q = (s.length ≤ sizeLine ∧ Q (.int s.length) S) := rfl
theorem vLen_tup : vLen [.tup ds] S Q = Q (.int ds.length) S := rfl
theorem vLen_lst : vLen [.lst ds] S Q = Q (.int ds.length) S := rfl
theorem vLen_ro : vLen [.ro ds] S Q = Q (.int ds.length) S := rfl
def vLenL : Option SO → Sto → DK → Prop
  | some (.lst ds), S, Q => Q (.int ds.length) S
  | some (.dK kvs), S, Q => Q (.int kvs.length) S
  | _, _, _ => False
theorem vLenL_lst : vLenL (some (.lst ds)) S Q = Q (.int ds.length) S := rfl
theorem vLenL_dK {kvs : List (Key × D)} : vLenL (some (.dK kvs)) S Q = Q (.int kvs.length) S := rfl
theorem vLen_ref : vLen [.ref a] S Q = vLenL (S a) S Q := by
  simp only [vLen]
  rcases S a with _ | (_ | _ | _) <;> rfl
theorem vAdd_int : vAdd (.int i) (.int j) S Q = Q (.int (i + j)) S := rfl
theorem vAdd_str : vAdd (.str s) (.str t) S Q = (s.length + t.length ≤ sizeLine ∧ Q (.str (s ++ t)) S) := rfl
theorem vAdd_tup : vAdd (.tup xs) (.tup ys) S Q = (xs.length + ys.length ≤ sizeLine ∧ Q (.tup (xs ++ ys)) S) := rfl
theorem vAdd_lst : vAdd (.lst xs) (.lst ys) S Q = (xs.length + ys.length ≤ sizeLine ∧ Q (.lst (xs ++ ys)) S) := rfl
def vAddL : Option SO → List D → Sto → DK → Prop
  | some (.lst ds), ys, S, Q => ds.length + ys.length ≤ sizeLine ∧ Q (.lst (ds ++ ys)) S
  | _, _, _, _ => False
theorem vAddL_lst : vAddL (some (.lst ds)) ys S Q = (ds.length + ys.length ≤ sizeLine ∧ Q (.lst (ds ++ ys)) S) := rfl
theorem vAdd_ref : vAdd (.ref a) (.lst ys) S Q = vAddL (S a) ys S Q := by
  simp only [vAdd]
  rcases S a with _ | (_ | _ | _) <;> rfl
theorem vSub_int : vSub (.int i) (.int j) S Q = Q (.int (i - j)) S := rfl
theorem vLt_int : vLt (.int i) (.int j) S Q = Q (.bl (decide (i < j))) S := rfl
theorem vLe_int : vLe (.int i) (.int j) S Q = Q (.bl (decide (i ≤ j))) S := rfl
theorem vGt_int : vGt (.int i) (.int j) S Q = Q (.bl (decide (j < i))) S := rfl
theorem vGe_int : vGe (.int i) (.int j) S Q = Q (.bl (decide (j ≤ i))) S := rfl
theorem vMod_int : vMod (.int i) (.int j) S Q = (0 < j ∧ Q (.int (i % j)) S) := rfl
theorem vDiv_int : vDiv (.int i) (.int j) S Q = (CDiv i j ∧ Q (.int (i / j)) S) := rfl
theorem vPow_int : vPow (.int i) (.int j) S Q = (CPow i j ∧ Q (.int (i ^ j.toNat)) S) := rfl
theorem vShl_int : vShl (.int i) (.int j) S Q = (CPow i j ∧ Q (.int (i * 2 ^ j.toNat)) S) := rfl
theorem vMul_int : vMul (.int i) (.int j) S Q = ((CMul i j ∨ CMulW i j) ∧ Q (.int (i * j)) S) := rfl
theorem vMul_tup : vMul (.tup ds) (.int j) S Q = (ds ≠ [] ∧ 2 ≤ j ∧ j ≤ 1000 ∧ ds.length ≤ 1000 ∧ Q (.tup (List.replicate j.toNat ds).flatten) S) := rfl
theorem vMul_lst : vMul (.lst ds) (.int j) S Q = (-(2 ^ 63) ≤ j ∧ j < 2 ^ 63 ∧ ds.length * j.toNat ≤ sizeLine ∧ Q (.lst (List.replicate j.toNat ds).flatten) S) := rfl
theorem vEq_int : vEq (.int i) (.int j) S Q = Q (.bl (decide (i = j))) S := rfl
theorem vEq_str : vEq (.str s) (.str t) S Q = Q (.bl (decide (s = t))) S := rfl
theorem vEq_bl : vEq (.bl p) (.bl q) S Q = Q (.bl (decide (p = q))) S := rfl
theorem vEq_tup : vEq (.tup xs) (.tup ys) S Q = (okE (.tup xs) = true ∧ okE (.tup ys) = true ∧ dep (.tup xs) ≤ 64 ∧ dep (.tup ys) ≤ 64 ∧ Q (.bl (eqv (.tup xs) (.tup ys))) S) := rfl
theorem vEq_lst : vEq (.lst xs) (.lst ys) S Q = (okE (.lst xs) = true ∧ okE (.lst ys) = true ∧ dep (.lst xs) ≤ 64 ∧ dep (.lst ys) ≤ 64 ∧ Q (.bl (eqv (.lst xs) (.lst ys))) S) := rfl
theorem vNe_int : vNe (.int i) (.int j) S Q = Q (.bl (!decide (i = j))) S := rfl
theorem vNe_str : vNe (.str s) (.str t) S Q = Q (.bl (!decide (s = t))) S := rfl
theorem vNe_bl : vNe (.bl p) (.bl q) S Q = Q (.bl (!decide (p = q))) S := rfl
theorem vNe_tup : vNe (.tup xs) (.tup ys) S Q = (okE (.tup xs) = true ∧ okE (.tup ys) = true ∧ dep (.tup xs) ≤ 64 ∧ dep (.tup ys) ≤ 64 ∧ Q (.bl (!eqv (.tup xs) (.tup ys))) S) := rfl
theorem isN_non : isN .non = true := rfl
theorem isN_bl : isN (.bl p) = false := rfl
theorem isN_int : isN (.int i) = false := rfl
theorem isN_str : isN (.str s) = false := rfl
theorem isN_tup : isN (.tup ds) = false := rfl
theorem isN_lst : isN (.lst ds) = false := rfl
theorem isN_ref : isN (.ref a) = false := rfl
theorem vIs_non : vIs x .non S Q = Q (.bl (isN x)) S := rfl
theorem vIsNot_non : vIsNot x .non S Q = Q (.bl (!isN x)) S := rfl
theorem vNeg_int : vNeg (.int i) S Q = Q (.int (-i)) S := rfl
theorem vInt_int : vInt [.int i] S Q = Q (.int i) S := rfl
theorem vInt_bl : vInt [.bl p] S Q = Q (.int (if p then 1 else 0)) S := rfl
theorem vBool_int : vBool [.int i] S Q = Q (.bl (i != 0)) S := rfl
theorem vBool_bl : vBool [.bl p] S Q = Q (.bl p) S := rfl
theorem vAbs_int : vAbs [.int i] S Q = Q (.int (if i < 0 then -i else i)) S := rfl
theorem vMin2_int : vMin2 [.int i, .int j] S Q = Q (.int (if j < i then j else i)) S := rfl
theorem vMax2_int : vMax2 [.int i, .int j] S Q = Q (.int (if j > i then j else i)) S := rfl
theorem vTuple_tup : vTuple [.tup ds] S Q = Q (.tup ds) S := rfl
theorem vTuple_lst : vTuple [.lst ds] S Q = Q (.tup ds) S := rfl
def vTupleL : Option SO → Sto → DK → Prop
  | some (.lst ds), S, Q => Q (.tup ds) S
  | _, _, _ => False
theorem vTupleL_lst : vTupleL (some (.lst ds)) S Q = Q (.tup ds) S := rfl
theorem vTuple_ref : vTuple [.ref a] S Q = vTupleL (S a) S Q := by
  simp only [vTuple]
  rcases S a with _ | (_ | _ | _) <;> rfl
theorem vList_tup : vList [.tup ds] S Q = Q (.lst ds) S := rfl
theorem vList_lst : vList [.lst ds] S Q = Q (.lst ds) S := rfl
def vAllO (f : List Bool → Bool) : Option (List Bool) → Sto → DK → Prop
  | some bs, S, Q => Q (.bl (f bs)) S
  | none, _, _ => False
theorem vAllO_some {f : List Bool → Bool} {bs : List Bool} : vAllO f (some bs) S Q = Q (.bl (f bs)) S := rfl
theorem vAll_x : vAll [x] S Q = vAllO (fun bs => bs.all id) ((seqOf S x).bind asBls) S Q := by
  simp only [vAll]
  cases (seqOf S x).bind asBls <;> rfl
theorem vAny_x : vAny [x] S Q = vAllO (fun bs => bs.any id) ((seqOf S x).bind asBls) S Q := by
  simp only [vAny]
  cases (seqOf S x).bind asBls <;> rfl
theorem seqOf_lst : seqOf S (.lst ds) = some ds := rfl
theorem vIsi_x : vIsi [x, .ty n] S Q = vAllO (fun bs => bs.all id) ((isiT x n).map fun b => [b]) S Q := by
  simp only [vIsi]
  cases isiT x n with
  | none => rfl
  | some b => simp [vAllO]
theorem vIadd_int : vIadd (.int i) (.int j) S Q = Q (.int (i + j)) S := rfl
theorem vIadd_str : vIadd (.str s) (.str t) S Q = (s.length + t.length ≤ sizeLine ∧ Q (.str (s ++ t)) S) := rfl
def vAppL : Option SO → Addr → D → Sto → DK → Prop
  | some (.lst ds), a, d, S, Q => ds.length < sizeLine ∧ Q .non (sup S a (.lst (ds ++ [d])))
  | _, _, _, _, _ => False
theorem vAppL_lst : vAppL (some (.lst ds)) a d S Q = (ds.length < sizeLine ∧ Q .non (sup S a (.lst (ds ++ [d])))) := rfl
theorem vAppend_ref : vAppend (.ref a) [d] S Q = vAppL (S a) a d S Q := by
  simp only [vAppend]
  rcases S a with _ | (_ | _ | _) <;> rfl
def vSetO : Option SO → Addr → Int → D → Sto → (Sto → Prop) → Prop
  | some (.lst ds), a, k, v, S, Q => match ixN ds.length k with | some j => Q (sup S a (.lst (ds.set j v))) | none => False
  | _, _, _, _, _, _ => False
def vSetN : Option Nat → Addr → List D → D → Sto → (Sto → Prop) → Prop
  | some j, a, ds, v, S, Q => Q (sup S a (.lst (ds.set j v)))
  | none, _, _, _, _, _ => False
theorem vSetN_some {j : Nat} {Q : Sto → Prop} : vSetN (some j) a ds d S Q = Q (sup S a (.lst (ds.set j d))) := rfl
theorem vSetO_lst {Q : Sto → Prop} : vSetO (some (.lst ds)) a i d S Q = vSetN (ixN ds.length i) a ds d S Q := by
  simp only [vSetO]
  cases ixN ds.length i <;> rfl
theorem vSet_ref {Q : Sto → Prop} : vSet (.ref a) (.int i) d S Q = vSetO (S a) a i d S Q := by
  simp only [vSet]
  rcases S a with _ | (_ | _ | _) <;> rfl
theorem isSeq_ref : isSeq S (.ref a) = ∃ ds, S a = some (.lst ds) := rfl
theorem ex_lst : (∃ ds, (some (SO.lst xs)) = some (.lst ds)) = True := by simp
theorem isiT_int_int : isiT (.int i) "int" = some true := rfl
theorem isiT_int_bool : isiT (.int i) "bool" = some false := rfl
theorem isiT_int_tuple : isiT (.int i) "tuple" = some false := rfl
theorem isiT_int_str : isiT (.int i) "str" = some false := rfl
theorem isiT_int_list : isiT (.int i) "list" = some false := rfl
theorem isiT_bl_int : isiT (.bl p) "int" = some true := rfl
theorem isiT_bl_bool : isiT (.bl p) "bool" = some true := rfl
theorem isiT_bl_tuple : isiT (.bl p) "tuple" = some false := rfl
theorem isiT_bl_str : isiT (.bl p) "str" = some false := rfl
theorem isiT_bl_list : isiT (.bl p) "list" = some false := rfl
theorem isiT_non_int : isiT .non "int" = some false := rfl
theorem isiT_non_bool : isiT .non "bool" = some false := rfl
theorem isiT_non_tuple : isiT .non "tuple" = some false := rfl
theorem isiT_non_str : isiT .non "str" = some false := rfl
theorem isiT_non_list : isiT .non "list" = some false := rfl
theorem isiT_str_int : isiT (.str s) "int" = some false := rfl
theorem isiT_str_bool : isiT (.str s) "bool" = some false := rfl
theorem isiT_str_tuple : isiT (.str s) "tuple" = some false := rfl
theorem isiT_str_str : isiT (.str s) "str" = some true := rfl
theorem isiT_str_list : isiT (.str s) "list" = some false := rfl
theorem isiT_tup_int : isiT (.tup ds) "int" = some false := rfl
theorem isiT_tup_bool : isiT (.tup ds) "bool" = some false := rfl
theorem isiT_tup_tuple : isiT (.tup ds) "tuple" = some true := rfl
theorem isiT_tup_str : isiT (.tup ds) "str" = some false := rfl
theorem isiT_tup_list : isiT (.tup ds) "list" = some false := rfl
theorem isiT_lst_int : isiT (.lst ds) "int" = some false := rfl
theorem isiT_lst_bool : isiT (.lst ds) "bool" = some false := rfl
theorem isiT_lst_tuple : isiT (.lst ds) "tuple" = some false := rfl
theorem isiT_lst_str : isiT (.lst ds) "str" = some false := rfl
theorem isiT_lst_list : isiT (.lst ds) "list" = some true := rfl
end
theorem all1 {b : Bool} : [b].all id = b := by simp
/-! ### steps -/
abbrev ml (p : List Int) : List D := p.map .int
section
variable {a b c d e f g x y z : D} {i j : Int} {xs ys ds : List D} {p q : List Int} {s t : Str} {u v : Bool} {S : Sto} {Q : DK} {n : String} {A : Addr} {lo hi : Option Int} {so : SO} {X Y : Prop} {k : Nat}
theorem st_ix0 (h : Q a S) : vIx (.tup (a :: xs)) (.int 0) S Q := by rw [vIx_tup, atI_0]; exact h
theorem st_ix1 (h : Q b S) : vIx (.tup (a :: b :: xs)) (.int 1) S Q := by rw [vIx_tup, atI_1]; exact h
theorem st_ix2 (h : Q c S) : vIx (.tup (a :: b :: c :: xs)) (.int 2) S Q := by rw [vIx_tup, atI_2]; exact h
theorem st_ix3 (h : Q d S) : vIx (.tup (a :: b :: c :: d :: xs)) (.int 3) S Q := by rw [vIx_tup, atI_3]; exact h
theorem st_ix4 (h : Q e S) : vIx (.tup (a :: b :: c :: d :: e :: xs)) (.int 4) S Q := by rw [vIx_tup, atI_4]; exact h
theorem st_lx0 (h : Q a S) : vIx (.lst (a :: xs)) (.int 0) S Q := by rw [vIx_lst, atI_0]; exact h
theorem st_lx1 (h : Q b S) : vIx (.lst (a :: b :: xs)) (.int 1) S Q := by rw [vIx_lst, atI_1]; exact h
theorem st_lx2 (h : Q c S) : vIx (.lst (a :: b :: c :: xs)) (.int 2) S Q := by rw [vIx_lst, atI_2]; exact h
theorem st_lx3 (h : Q d S) : vIx (.lst (a :: b :: c :: d :: xs)) (.int 3) S Q := by rw [vIx_lst, atI_3]; exact h
theorem st_len_p (h : Q (.int (p.length : Nat)) S) : vLen [.tup (p.map .int)] S Q := by rw [vLen_tup, List.length_map]; exact h
theorem st_len_lp (h : Q (.int (p.length : Nat)) S) : vLen [.lst (p.map .int)] S Q := by rw [vLen_lst, List.length_map]; exact h
theorem st_len_rp (h : Q (.int (p.length : Nat)) S) : vLen [.ro (p.map .int)] S Q := by rw [vLen_ro, List.length_map]; exact h
theorem st_len_t (h : Q (.int (ds.length : Nat)) S) : vLen [.tup ds] S Q := h
theorem st_len_l (h : Q (.int (ds.length : Nat)) S) : vLen [.lst ds] S Q := h
theorem st_len_s (h1 : s.length ≤ sizeLine) (h : Q (.int (s.length : Nat)) S) : vLen [.str s] S Q := ⟨h1, h⟩
theorem st_add (h : Q (.int (i + j)) S) : vAdd (.int i) (.int j) S Q := h
theorem st_sub (h : Q (.int (i - j)) S) : vSub (.int i) (.int j) S Q := h
theorem st_iadd (h : Q (.int (i + j)) S) : vIadd (.int i) (.int j) S Q := h
theorem st_neg (h : Q (.int (-i)) S) : vNeg (.int i) S Q := h
theorem st_mod (h1 : 0 < j) (h : Q (.int (i % j)) S) : vMod (.int i) (.int j) S Q := ⟨h1, h⟩
theorem st_div (h1 : 0 < j ∧ j < 1073741824) (h : Q (.int (i / j)) S) : vDiv (.int i) (.int j) S Q := ⟨h1, h⟩
theorem st_mul (h1 : -(2 ^ 64) < i ∧ i < 2 ^ 64) (h : Q (.int (i * j)) S) : vMul (.int i) (.int j) S Q := ⟨.inl (.inl h1), h⟩
theorem st_mul' (h1 : -(2 ^ 64) < j ∧ j < 2 ^ 64) (h : Q (.int (i * j)) S) : vMul (.int i) (.int j) S Q := ⟨.inl (.inr h1), h⟩
theorem st_add_pp (h1 : p.length + q.length ≤ sizeLine) (h : Q (.tup ((p ++ q).map .int)) S) : vAdd (.tup (p.map .int)) (.tup (q.map .int)) S Q := by
  rw [vAdd_tup, List.length_map, List.length_map, ← List.map_append]; exact ⟨h1, h⟩
theorem st_add_p1 (h1 : p.length + 1 ≤ sizeLine) (h : Q (.tup ((p ++ [i]).map .int)) S) : vAdd (.tup (p.map .int)) (.tup [.int i]) S Q := by
  rw [vAdd_tup, List.length_map, show [D.int i] = [i].map .int from rfl, ← List.map_append]; exact ⟨h1, h⟩
theorem st_add_1p (h1 : 1 + p.length ≤ sizeLine) (h : Q (.tup ((i :: p).map .int)) S) : vAdd (.tup [.int i]) (.tup (p.map .int)) S Q := by
  rw [vAdd_tup, List.length_map]; exact ⟨h1, h⟩
theorem st_add_t (h1 : xs.length + ys.length ≤ sizeLine) (h : Q (.tup (xs ++ ys)) S) : vAdd (.tup xs) (.tup ys) S Q := ⟨h1, h⟩
theorem st_add_l (h1 : xs.length + ys.length ≤ sizeLine) (h : Q (.lst (xs ++ ys)) S) : vAdd (.lst xs) (.lst ys) S Q := ⟨h1, h⟩
theorem st_add_s (h1 : s.length + t.length ≤ sizeLine) (h : Q (.str (s ++ t)) S) : vAdd (.str s) (.str t) S Q := ⟨h1, h⟩
theorem st_lt (h : Q (.bl (decide (i < j))) S) : vLt (.int i) (.int j) S Q := h
theorem st_le (h : Q (.bl (decide (i ≤ j))) S) : vLe (.int i) (.int j) S Q := h
theorem st_gt (h : Q (.bl (decide (j < i))) S) : vGt (.int i) (.int j) S Q := h
theorem st_ge (h : Q (.bl (decide (j ≤ i))) S) : vGe (.int i) (.int j) S Q := h
theorem st_eqi (h : Q (.bl (decide (i = j))) S) : vEq (.int i) (.int j) S Q := h
theorem st_nei (h : Q (.bl (!decide (i = j))) S) : vNe (.int i) (.int j) S Q := h
theorem st_eqs (h : Q (.bl (decide (s = t))) S) : vEq (.str s) (.str t) S Q := h
theorem st_nes (h : Q (.bl (!decide (s = t))) S) : vNe (.str s) (.str t) S Q := h
theorem st_eqb (h : Q (.bl (decide (u = v))) S) : vEq (.bl u) (.bl v) S Q := h
theorem st_isn_non (h : Q (.bl true) S) : vIs .non .non S Q := h
theorem st_isn_int (h : Q (.bl false) S) : vIs (.int i) .non S Q := h
theorem st_isn_tup (h : Q (.bl false) S) : vIs (.tup ds) .non S Q := h
theorem st_isn_str (h : Q (.bl false) S) : vIs (.str s) .non S Q := h
theorem st_isn_bl (h : Q (.bl false) S) : vIs (.bl u) .non S Q := h
theorem st_isnt_non (h : Q (.bl false) S) : vIsNot .non .non S Q := h
theorem st_isnt_int (h : Q (.bl true) S) : vIsNot (.int i) .non S Q := h
theorem st_isnt_tup (h : Q (.bl true) S) : vIsNot (.tup ds) .non S Q := h
theorem st_isnt_str (h : Q (.bl true) S) : vIsNot (.str s) .non S Q := h
theorem st_int (h : Q (.int i) S) : vInt [.int i] S Q := h
theorem st_intb (h : Q (.int (if u then 1 else 0)) S) : vInt [.bl u] S Q := h
theorem st_abs (h : Q (.int (if i < 0 then -i else i)) S) : vAbs [.int i] S Q := h
theorem st_min2 (h : Q (.int (if j < i then j else i)) S) : vMin2 [.int i, .int j] S Q := h
theorem st_max2 (h : Q (.int (if j > i then j else i)) S) : vMax2 [.int i, .int j] S Q := h
theorem st_tup_l (h : Q (.tup ds) S) : vTuple [.lst ds] S Q := h
theorem st_tup_t (h : Q (.tup ds) S) : vTuple [.tup ds] S Q := h
theorem st_lst_t (h : Q (.lst ds) S) : vList [.tup ds] S Q := h
theorem st_lst_l (h : Q (.lst ds) S) : vList [.lst ds] S Q := h
theorem st_sl_from (h : Q (.tup ((p.drop k).map .int)) S) : vSl (.tup (p.map .int)) (some (k : Int)) none S Q := by
  rw [vSl_tup, cut_from, ← List.map_drop]; exact h
theorem st_sl_to (h : Q (.tup ((p.take k).map .int)) S) : vSl (.tup (p.map .int)) none (some (k : Int)) S Q := by
  rw [vSl_tup, cut_to, ← List.map_take]; exact h
theorem st_iteT (h : X) : if true = true then X else Y := by rw [if_pos rfl]; exact h
theorem st_iteF (h : Y) : if false = true then X else Y := by rw [if_neg Bool.false_ne_true]; exact h
theorem st_dT {C : Prop} [Decidable C] (hc : C) (h : X) : if decide C = true then X else Y := by rw [if_pos (decide_eq_true hc)]; exact h
theorem st_dF {C : Prop} [Decidable C] (hc : ¬ C) (h : Y) : if decide C = true then X else Y := by rw [if_neg (by simpa using hc)]; exact h
theorem st_not {b : Bool} (h : if b = true then Y else X) : if (!b) = true then X else Y := by
  cases b <;> simpa using h
theorem st_isi {b : Bool} (h1 : isiT x n = some b) (h : Q (.bl b) S) : vIsi [x, .ty n] S Q := by
  rw [vIsi_x, h1]
  show Q (.bl ([b].all id)) S
  rw [all1]; exact h
theorem st_all {bs : List Bool} (h : Q (.bl (bs.all id)) S) : vAll [.lst (bs.map .bl)] S Q := by
  rw [vAll_x, seqOf_lst]; simp only [Option.bind_some, asBls_map]; exact h
end
end L3

set_option Elab.async false
set_option maxRecDepth 100000
set_option linter.all false
set_option maxHeartbeats 2000000
namespace L3
open PySem PySem.Spec PyProof.Rows L2
/-! ### exceptions: what a def may let out -/
abbrev DXK := Str → List (Str × D) → Sto → Prop
abbrev DWX := Str → List (Str × D) → DSt → Sto → Prop
abbrev CTab := Str → Addr
abbrev DSpX := List D → Sto → DK → DXK → Prop
/-- fields that may be read of an exception -/
structure ExF (K : PySem.W.Frag) (ct : CTab) (x : Str) (fs : List (Str × D)) : Prop where
  X : XfC K (ct x)
  no : ∀ n d, (n, d) ∈ fs → PySem.W.findIn K (.ref (ct x)) n = some none
/-- the wish of an exception: its class by its name, its fields -/
def WD {K : PySem.W.Frag} (Γ : KG K) (ct : CTab) (PX : DWX) : WX := fun cls d σ H => ∃ F δ S x fs vs dd, Sim Γ F S H ∧ RelS K (fz F S H) σ δ ∧ cls = .ref (ct x) ∧ d = some dd ∧ fz F S H dd = some (.xd vs) ∧ RelF K (fz F S H) vs fs ∧ ExF K ct x fs ∧ PX x fs δ S
def CtX (K : PySem.W.Frag) (ct : CTab) (F : Addr → Bool) (S : Sto) (H : Hp) (PX : DXK) (E : XK) : Prop := ∀ x fs S', PX x fs S' → ∀ vs dd H', GoB K F S H S' H' → fz F S' H' dd = some (.xd vs) → RelF K (fz F S' H') vs fs → ExF K ct x fs → E (.ref (ct x)) (some dd) H'
def lfSpX (K : PySem.W.Frag) (ct : CTab) (sp : DSpX) : Sp := fun vs H Q E => ∃ F ds S P PX, Sim (KG.top K) F S H ∧ RelL K (fz F S H) vs ds ∧ sp ds S P PX ∧ Ct (KG.top K) F S H P Q ∧ CtX K ct F S H PX E
abbrev FnX (P : Program) (w : World) (K : PySem.W.Frag) (mg : Str → Option Value) (base : Heap) (ct : CTab) (k : Nat) (f : Addr) (fd : FuncData) (ps : List Str) (sp : DSpX) : Prop := FnOk P w K mg base (L2.CX P w) k f fd ps (lfSpX K ct sp)
/-- every step since the def's begin -/
def KG.start (K : PySem.W.Frag) (F0 : Addr → Bool) (S0 : Sto) (H0 : Hp) : KG K where
  ok := fun F S H => (∀ a, F0 a = true → F a = true) ∧ ∀ H' : Hp, (∀ a, F a = false ∨ F0 a = true → H' a = H a) → (∀ a, F a = true → ∃ o, H' a = some o) → GoB K F0 S0 H0 S H'
  step := fun {F S H S' H'} s ⟨sub, h⟩ g => by
    refine ⟨sub, fun H2 a1 a2 => ?_⟩
    have e1 : ∀ a, F a = false ∨ F0 a = true → (if F a && !F0 a then H2 a else H a) = H a := fun a q => by
      rcases q with q | q <;> simp [q]
    have g1 := h (fun a => if F a && !F0 a then H2 a else H a) e1 (fun a q => by
      cases z : F0 a with
      | true => simpa [z] using s.hid a q
      | false => simpa [z, q] using a2 a q)
    have sm : SimB K F0 S' H2 := by
      refine ⟨fun a o q => ?_, fun a q => a2 a (sub a q)⟩
      obtain ⟨f0, k⟩ := g.sim.at_ a o q
      refine ⟨?_, ?_⟩
      · cases z : F0 a with
        | false => rfl
        | true => rw [sub a z] at f0; cases f0
      · rw [a1 a (.inl f0)]
        refine k.mono fun b x e => ?_
        obtain ⟨h0, h1, h2⟩ := fz_of e
        have z : F0 b = false := by
          cases z : F0 b with
          | false => rfl
          | true => rw [sub b z] at h0; cases h0
        rw [fz_none z h1, a1 b (.inl h0)]
        exact h2
    refine g1.trans ⟨fun b x e => ?_, fun a q => ?_, sm⟩
    · obtain ⟨h0, h1, h2⟩ := fz_of e
      cases z : F b with
      | true =>
        simp only [z, h0, Bool.not_false, Bool.and_self, if_true] at h2
        rw [fz_none h0 ?_]
        · exact h2
        · cases q : S' b with
          | none => rfl
          | some o =>
            have := (g.sim.at_ b o q).1
            rw [z] at this; cases this
      | false =>
        simp only [z, Bool.false_and, Bool.false_eq_true, if_false] at h2
        obtain ⟨_, q1, q2⟩ := fz_of (g.same b x (by rw [fz_none z h1]; exact h2))
        rw [fz_none h0 q1, a1 b (.inl z)]
        exact q2
    · show H2 a = _
      rw [e1 a (.inr q), a1 a (.inr q)]
      exact g.hid a (sub a q)
  new := fun {F S H p o} s ⟨sub, h⟩ hp => by
    have fp : F p = false := (s.none hp).1
    have f0 : F0 p = false := by
      cases z : F0 p with
      | false => rfl
      | true => rw [sub p z] at fp; cases fp
    have up : ∀ a, a ≠ p → hide F p a = F a := fun a z => by simp [hide, z]
    have pp : hide F p p = true := by simp [hide]
    refine ⟨fun a q => ?_, fun H2 a1 a2 => ?_⟩
    · by_cases z : a = p
      · subst z; exact pp
      · rw [up a z]; exact sub a q
    · have g1 := h (fun a => if a = p then none else H2 a) (fun a q => by
        by_cases z : a = p
        · subst z; simp [hp]
        · simp only [z, if_false]
          rw [a1 a (by rw [up a z]; exact q), upd_ne z]) (fun a q => by
        have z : a ≠ p := fun z => by subst z; rw [fp] at q; cases q
        simp only [z, if_false]
        exact a2 a (by rw [up a z]; exact q))
      obtain ⟨x, hx⟩ := a2 p pp
      have e : H2 = upd (fun a => if a = p then none else H2 a) p x := by
        funext a
        by_cases z : a = p
        · subst z; rw [upd_same, hx]
        · rw [upd_ne z]; simp [z]
      rw [e]
      exact g1.trans (g1.sim.new (by simp))
  put := fun {F S H p o S1 H1} ⟨sub, _⟩ fp s ⟨sub2, h⟩ => by
    refine ⟨sub2, fun H2 a1 a2 => h H2 (fun a q => ?_) a2⟩
    have z : a ≠ p := fun z => by
      subst z
      rcases q with q | q
      · simp [hide] at q
      · rw [sub a q] at fp; cases fp
    rw [a1 a q, upd_ne z]
theorem KG.start_here {K : PySem.W.Frag} {F : Addr → Bool} {S : Sto} {H : Hp} (s : SimB K F S H) : Sim (KG.start K F S H) F S H := ⟨s, fun _ q => q, fun H' a1 a2 => by
  have e : H' = H := by
    funext a
    cases z : F a with
    | false => exact a1 a (.inl z)
    | true => exact a1 a (.inr z)
  rw [e]
  exact ⟨Same.refl _, fun _ _ => rfl, s⟩⟩
theorem KG.start_go {K : PySem.W.Frag} {F F' : Addr → Bool} {S S' : Sto} {H H' : Hp} (s : Sim (KG.start K F S H) F' S' H') : GoB K F S H S' H' ∧ Same (fz F' S' H') (fz F S' H') := by
  obtain ⟨sub, h⟩ := s.knows
  refine ⟨h H' (fun _ _ => rfl) s.hid, fun b x e => ?_⟩
  obtain ⟨h0, h1, h2⟩ := fz_of e
  rw [fz_none ?_ h1]
  · exact h2
  · cases z : F b with
    | false => rfl
    | true => rw [sub b z] at h0; cases h0
/-- of a caught exception the fields -/
def KG.exc {K : PySem.W.Frag} (Γ : KG K) (dd : Addr) (fs : List (Str × D)) : KG K where
  ok := fun F S H => Γ.ok F S H ∧ ∃ vs, fz F S H dd = some (.xd vs) ∧ RelF K (fz F S H) vs fs
  step := fun s ⟨a, vs, e, r⟩ g => ⟨Γ.step s a g, vs, g.same _ _ e, r.mono g.same⟩
  new := fun s ⟨a, vs, e, r⟩ hp => ⟨Γ.new s a hp, vs, fz_hide_new hp _ _ e, r.mono (fz_hide_new hp)⟩
  put := fun ⟨a0, _⟩ f s ⟨a, vs, e, r⟩ => ⟨Γ.put a0 f s a, vs, by rw [fz_hide_upd]; exact e, by rw [fz_hide_upd]; exact r⟩
theorem KG.exc_sim {K : PySem.W.Frag} {Γ : KG K} {dd : Addr} {fs : List (Str × D)} {F : Addr → Bool} {S : Sto} {H : Hp} (s : Sim (Γ.exc dd fs) F S H) : Sim Γ F S H := ⟨s.toSimB, s.knows.1⟩
theorem KG.exc_go {K : PySem.W.Frag} {Γ : KG K} {dd : Addr} {fs : List (Str × D)} {F : Addr → Bool} {S S' : Sto} {H H' : Hp} (g : Go (Γ.exc dd fs) F S H S' H') : Go Γ F S H S' H' := ⟨g.same, g.hid, KG.exc_sim g.sim⟩
section
variable {P : Program} {w : World} {K : PySem.W.Frag} {mg : Str → Option Value} {base : Heap} {ct : CTab}
theorem takes_cx {N : List Str} {qual : Str} {sc : Scope} {f : Addr} {cdv : Value} {A : Around} {outer : List Env} {s : Shared} {H : Hp} {E : XK} : Takes (cxOf (L2.CX P w) P w K mg base N qual sc f cdv A outer s H E) (fun cls d _ H' => E cls d H') := takes_of rfl rfl rfl rfl
/-- a def that may raise: its derivation, its reading -/
theorem FnX.mk {x qual : Str} {st : Stmt} {f : Addr} {fd : FuncData} {N ps : List Str} {k : Nat} {sp : DSpX} {t : DWX → DTS} (Fn : Fun K x qual st f fd) (Sc : FnScope N ps (defScope st)) (len : ∀ ds S P PX, sp ds S P PX → ds.length = ps.length)
    (hb : ∀ (cdv : Value) (A : Around) (outer : List Env) (s : Shared) (H : Hp) (E : XK) (Γ : KG K) (PX : DWX), Room k (A.deeper (envOfC qual (defScope st) s.heap.objs.size f cdv)) → Takes (cxOf (L2.CX P w) P w K mg base N qual (defScope st) f cdv A outer s H E) (WD Γ ct PX) →
      DPSs (cxOf (L2.CX P w) P w K mg base N qual (defScope st) f cdv A outer s H E) Γ (defBody st) (t PX))
    (hread : ∀ ds S P PX, sp ds S P PX → t (fun x fs _ S' => PX x fs S') (DEnds.of P) (dstart N ds) S) : FnX P w K mg base ct (k + 1) f fd ps sp := by
  refine Fn.okX Sc (fun vs H Q E ⟨F, ds, S, P, PX, sm, rl, h, c, cx⟩ => by rw [rl.length]; exact len _ _ _ _ h) fun cdv A outer s H vs Q E hr ⟨F, ds, S, P, PX, sm, rl, h, c, cx⟩ => ?_
  have hle : ps.length ≤ N.length := by
    have := congrArg List.length Sc.pre
    rw [List.length_take] at this
    omega
  have s0 := KG.start_here sm.toSimB
  have c0 : Ct (KG.start K F S H) F S H P Q := fun d S' q v H' g r => c d S' q v H' (.of sm g.b) r
  refine ⟨_, hb cdv A outer s H E (KG.start K F S H) (fun x fs _ S' => PX x fs S') hr (takes_cx.imp fun cls d σ H' ⟨F', δ, S', x, fs, vs, dd, sm', rs, e1, e2, e3, rf, xf, q⟩ => ?_),
    F, dstart N ds, S, _, s0, rels_start rl (by rw [len _ _ _ _ h]; exact hle), hread ds S P PX h, ⟨fun δ' S' h' σ' H' g rs' => ?_, c0.fin s0, fun _ _ q => q.elim, fun _ _ q => q.elim⟩⟩
  · subst e1 e2
    obtain ⟨g, k⟩ := KG.start_go sm'
    exact cx x fs S' q vs dd H' g (k _ _ e3) (rf.mono k) xf
  · exact c0.fin s0 _ _ h' _ _ g .non
end
/-! ### a call that may let something out -/
abbrev dCallX (sp : DSpX) (PX : DWX) (t : DTA) : DTE := fun δ S Q => t δ S fun ds S1 => sp ds S1 Q fun x fs S2 => PX x fs δ S2
section
variable {X : Cx} {Γ : KG X.K} {ct : CTab} {PX : DWX} {k : Nat} {f : Addr} {fd : FuncData} {ps : List Str} {sp : DSpX} {x : Str} {p pos : Pos} {e : Expr} {es : List Expr} {t : DTA}
theorem dpe_callX (F : FnX X.prog X.w X.K X.mg X.base ct k f fd ps sp) (tk : Takes X (WD Γ ct PX)) (hr : Room k X.A) (hg : Gl X x) (hm : X.mg x = some (.ref f)) (hk : PySem.W.keepIn X.K (.ref f) = true) (hb : Binds X.K fd ps [])
    (ha : DPA X Γ (e :: es) t) (hdb : (x == ("__debug__" : Str)) = false := by decide) (he : starEach (e :: es) X.env = (false, eval e X.env) :: starEach es X.env := by rfl) (hpl : (backTo pos (starEach es X.env)).any (·.1) = false := by rfl) :
    DPE X Γ (.Call (.Name x p) (e :: es) [] pos) (dCallX sp PX t) :=
  PEw (pe_callS (E := WE (WD Γ ct PX)) F hr hg hm hk hb (fun σ => passAt tk σ) ha hdb he hpl) fun σ H Q ⟨F, δ, S, P, sm, rs, h, c⟩ => ⟨F, δ, S, _, sm, rs, h, fun ds S1 h1 vs H1 g1 r1 =>
    ⟨F, ds, S1, P, _, g1.sim.top, r1, h1, (c.mono g1).top g1.sim, fun y fs S2 q ws dd H2 g2 e2 r2 xf =>
      have g2' : Go Γ F S1 H1 S2 H2 := .of g1.sim g2
      ⟨F, δ, S2, y, fs, ws, dd, g2'.sim, (rs.mono g1.same).mono g2'.same, rfl, rfl, e2, r2, xf, q⟩⟩⟩
end
/-! ### raise C(..) -/
theorem RelF.append {K : PySem.W.Frag} {G : Hp} {κ : Type} : ∀ {a b : List (κ × V)} {c d : List (κ × D)}, RelF K G a c → RelF K G b d → RelF K G (a ++ b) (c ++ d)
  | _, _, _, _, .nil, s => s
  | _, _, _, _, .cons r t, s => .cons r (RelF.append t s)
theorem RelF.zip {K : PySem.W.Frag} {G : Hp} : ∀ {ns : List Str} {vs : List V} {ds : List D}, RelL K G vs ds → RelF K G (ns.zip vs) (ns.zip ds)
  | [], _, _, _ => .nil
  | _ :: _, _, _, .nil => .nil
  | _ :: _, _, _, .cons r t => .cons r (RelF.zip t)
theorem RelF.rev {K : PySem.W.Frag} {G : Hp} {κ : Type} : ∀ {a : List (κ × V)} {c : List (κ × D)}, RelF K G a c → RelF K G a.reverse c.reverse
  | _, _, .nil => .nil
  | _, _, .cons r t => by
    rw [List.reverse_cons, List.reverse_cons]
    exact RelF.append (RelF.rev t) (.cons r .nil)
theorem RelF.lookup {K : PySem.W.Frag} {G : Hp} {f : Str} {d : D} : ∀ {a : List (Str × V)} {c : List (Str × D)}, RelF K G a c → c.lookup f = some d → ∃ v, a.lookup f = some v ∧ Rel K G v d
  | _, _, .nil, e => by cases e
  | (g, v) :: a, (_, d') :: c, .cons r t, e => by
    rw [List.lookup_cons] at e ⊢
    split at e
    · rename_i z
      cases e
      exact ⟨v, by simp [z], r⟩
    · rename_i z
      obtain ⟨w, h1, h2⟩ := RelF.lookup t e
      exact ⟨w, by simp [z, h1], h2⟩
/-- an __init__ that notes its arguments -/
def spInit (C : Addr) (ns : List Str) : Sp := fun vs H Q _ => ∃ (a : Addr) (ws : List V), vs = .ref a :: ws ∧ ws.length = ns.length ∧ H a = some (exo a C none) ∧ ∀ d, H d = none → d ≠ a → Q .non (upd (upd H d (exd d (ns.zip ws).reverse)) a (exo a C (some d)))
abbrev dRaise (x : Str) (ns : List Str) (PX : DWX) (t : DTA) : DTS := fun _ δ S => t δ S fun ds S1 => ds.length = ns.length ∧ ds.length ≤ 1000 ∧ PX x (ns.zip ds).reverse δ S1
/-- what a class of exceptions is to be -/
structure ExcC (P : Program) (w : World) (K : PySem.W.Frag) (mg : Str → Option Value) (base : Heap) (ct : CTab) (x : Str) (ns : List Str) : Prop where
  T : OexC K (ct x)
  X : XfC K (ct x)
  gC : mg x = some (.ref (ct x))
  no : ∀ n ∈ ns, PySem.W.findIn K (.ref (ct x)) n = some none
  ini : ∃ fI fd, PySem.W.findIn K (.ref (ct x)) "__init__" = some (some (.ref fI)) ∧ PySem.W.typeIn K (.ref fI) = some (.type "function") ∧ Binds K fd ("self" :: ns) [] ∧ FnOk P w K mg base CX0 1 fI fd ("self" :: ns) (spInit (ct x) ns)
section
variable {X : Cx} {Γ : KG X.K} {ct : CTab} {PX : DWX} {x : Str} {ns : List Str} {p pos pos2 : Pos} {e : Expr} {es : List Expr} {t : DTA}
theorem dps_raise (C : ExcC X.prog X.w X.K X.mg X.base ct x ns) (hc : X.calm = true) (tk : Takes X (WD Γ ct PX)) (hr : Room 2 X.A) (hg : Gl X x) (ha : DPA X Γ (e :: es) t)
    (hdb : (x == ("__debug__" : Str)) = false := by decide) (he : starEach (e :: es) X.env = (false, eval e X.env) :: starEach es X.env := by rfl) (hpl : (backTo pos (starEach es X.env)).any (·.1) = false := by rfl) :
    DPS X Γ (.Raise (some (.Call (.Name x p) (e :: es) [] pos)) none pos2) (dRaise x ns PX t) := by
  obtain ⟨fI, fd, h1, h2, h3, h4⟩ := C.ini
  refine PSw (ps_raise hc tk (pmk_oex (dvs := []) C.T h1 h2 h4 hr h3 .nil (by exact pass0) hg C.gC ha hdb he hpl)) fun D σ H ⟨F, δ, S, P, sm, rs, h, c⟩ => ?_
  refine ⟨F, δ, S, _, sm, rs, h, fun ds S1 ⟨q1, q2, q3⟩ vs H1 g1 r1 => ⟨by rw [r1.length]; exact q2, fun a ha => ?_⟩⟩
  refine ⟨a, vs, by rw [List.append_nil], by rw [r1.length]; exact q1, upd_same, fun d hd hda => ⟨rfl, d, (ns.zip vs).reverse, upd_same, by rw [upd_ne hda]; exact upd_same, ?_, ?_⟩⟩
  · rw [upd_ne hda] at hd
    exact hd
  · have hd1 : H1 d = none := by
      rw [upd_ne hda] at hd
      exact hd
    have e : upd (del (upd (upd (upd H1 a (exo a (ct x) none)) d (exd d (ns.zip vs).reverse)) a (exo a (ct x) (some d))) a) d (.xd (ns.zip vs).reverse) = upd H1 d (.xd (ns.zip vs).reverse) := by
      funext b
      by_cases z : b = d
      · subst z; rw [upd_same, upd_same]
      · rw [upd_ne z, upd_ne z]
        by_cases y : b = a
        · subst y; rw [del_same, ha]
        · rw [del_ne y, upd_ne y, upd_ne z, upd_ne y]
    rw [e]
    have g2 : Go Γ F S1 H1 S1 (upd H1 d (.xd (ns.zip vs).reverse)) := g1.sim.new hd1
    exact ⟨F, δ, S1, x, (ns.zip ds).reverse, _, d, g2.sim, (rs.mono g1.same).mono g2.same, rfl, rfl, fz_new g1.sim hd1, RelF.rev (RelF.zip (r1.mono g2.same)), ⟨C.X, fun n d m => C.no n (List.of_mem_zip (List.mem_reverse.mp m)).1⟩, q3⟩
end
end L3

set_option Elab.async false
set_option maxRecDepth 100000
set_option linter.all false
set_option maxHeartbeats 2000000
namespace L3
open PySem PySem.Spec PyProof.Rows L2
/-! ### try with any clauses, each with or without a name -/
abbrev Suite := Addr → Value → Option Addr → TS
/-- the ends of a named clause: the name is gone behind it -/
abbrev goneE : Option Nat → Ends → Ends
  | none, D => D
  | some i, D => { nx := fun σ' H' => D.nx (σ'.set i none) H', rt := D.rt, bk := fun σ' H' => D.bk (σ'.set i none) H', ct := fun σ' H' => D.ct (σ'.set i none) H' }
abbrev heldS : Option Nat → Addr → L2.St → L2.St
  | none, _, σ => σ
  | some i, a, σ => σ.set i (some (.ref a))
def wMix (K : PySem.W.Frag) (W0 : WX) (D : Ends) : List (Value × Option Nat × Suite) → WX
  | [] => W0
  | (c, o, ts) :: r => fun cl dd τ G => ∃ k, PySem.W.exmOne K cl c = some k ∧ (k = true → ∀ p, G p = none → ts p cl dd (goneE o D) (heldS o p τ) G) ∧ (k = false → wMix K W0 D r cl dd τ G)
/-- a clause's name and slot -/
def SlotOk (X : Cx) : Option Str → Option Nat → Prop
  | none, none => True
  | some n, some i => X.N.Nodup ∧ X.N[i]? = some n ∧ X.env.kindOf n = some .local
  | _, _ => False
inductive HMix (X : Cx) : List ExceptHandler → List (Value × Option Nat × Suite) → Prop
  | nil : HMix X [] []
  | cons {y : Str} {c : Value} {on : Option Str} {o : Option Nat} {ts : Suite} {b : Stmt} {bs : List Stmt} {p1 p2 : Pos} {hr : List ExceptHandler} {lr : List (Value × Option Nat × Suite)} (nm : Names X y c) (sl : SlotOk X on o)
      (su : ∀ (p : Addr) (ob : Obj) (cl : Value) (dd : Option Addr) (pn : List (Addr × Obj)), Zc cl dd ob → (∃ ws, ob.data = .fields ws) → PSs (X.suite p ((p, ob) :: pn)) (b :: bs) (ts p cl dd)) (r : HMix X hr lr) :
      HMix X (.ExceptHandler (some (.Name y p1)) on (b :: bs) p2 :: hr) ((c, o, ts) :: lr)
section
variable {X : Cx} {pins : List (Addr × Obj)} {D : Ends} {W0 : WX}
/-- a suite's end is the clause's end -/
theorem suite_end {p : Addr} {q : Addr × Obj} {pn : List (Addr × Obj)} {fl : Flow} {s : Shared} (ok : X.Ok) (e : SP (X.suite p (q :: (X.pn ++ pins))) [] D fl s) : SP X pins D fl s := by
  cases fl with
  | next => obtain ⟨τ, G, I, z⟩ := e; exact ⟨τ, G, I.unsuite ok, z⟩
  | brk => obtain ⟨τ, G, I, z⟩ := e; exact ⟨τ, G, I.unsuite ok, z⟩
  | cont => obtain ⟨τ, G, I, z⟩ := e; exact ⟨τ, G, I.unsuite ok, z⟩
  | ret u => obtain ⟨v, τ, G, I, r, z⟩ := e; exact ⟨v, τ, G, I.unsuite ok, r, z⟩
theorem suite_end_as {p : Addr} {q : Addr × Obj} {i : Nat} {n : Str} {pos : Pos} {fl : Flow} {s : Shared} (ok : X.Ok) (hN : X.N.Nodup) (hi : X.N[i]? = some n) (hl : X.env.kindOf n = some .local)
    (e : SP (X.suite p (q :: (X.pn ++ pins))) [] (goneE (some i) D) fl s) : wpAny (model X.prog X.w) X.A (do bindName X.env n .none; unbindBehindTheSuite X.env n pos) (fun _ s7 => SP X pins D fl s7) X.xe s := by
  cases fl with
  | next => obtain ⟨τ, G, I, z⟩ := e; exact gone_ok (I.unsuite ok) hN hi hl fun s7 J => ⟨_, _, J, z⟩
  | brk => obtain ⟨τ, G, I, z⟩ := e; exact gone_ok (I.unsuite ok) hN hi hl fun s7 J => ⟨_, _, J, z⟩
  | cont => obtain ⟨τ, G, I, z⟩ := e; exact gone_ok (I.unsuite ok) hN hi hl fun s7 J => ⟨_, _, J, z⟩
  | ret u => obtain ⟨v, τ, G, I, r, z⟩ := e; exact gone_ok (I.unsuite ok) hN hi hl fun s7 J => ⟨_, _, _, J, r, z⟩
/-- an exception that has come to the clauses -/
structure AtHand (X : Cx) (pins : List (Addr × Obj)) (B : Heap) (p : Addr) (cl : Value) (dd : Option Addr) (τ : L2.St) (G : Hp) (W0 : WX) (s : Shared) (h : Heap) : Prop where
  fly : HandSPX.FlyingZ B (X.env :: X.outer) p (Zc cl dd) h
  inv : ∀ h', B.StaysIn h' → h.UpToSlots h' → Inv X pins τ G { s with heap := h' }
  here : Inv X pins τ G { s with heap := h }
  free : G p = none
  notL : p ≠ X.env.locals
  notF : p ∉ X.fs
  out : W0 cl dd τ G → ∀ h', HandSPX.HeldZ B (X.env :: X.outer) p (Zc cl dd) X.env.locals h' → h.UpToSlots h' → X.xe (.ref p) { s with heap := h' }
theorem mix_run (hf : X.env.frame = some X.env.locals) (ok : X.Ok) {B : Heap} {p : Addr} {cl : Value} {dd : Option Addr} {τ : L2.St} {G : Hp} {s : Shared} {h : Heap} (A : AtHand X pins B p cl dd τ G W0 s h) :
    ∀ {hs : List ExceptHandler} {l : List (Value × Option Nat × Suite)}, HMix X hs l → wMix X.K W0 D l cl dd τ G → wpAny (model X.prog X.w) X.A (handleBy (.ref p) X.env hs) (SP X pins D) X.xe { s with heap := h }
  | _, _, .nil, w => by
    refine wpAny_handleBy_nil ?_
    obtain ⟨_, _, _, oe, vs, T, _, _, he, _, hd, h1, _⟩ := id A.fly
    unfold PySem.passOn
    refine wpAny_bind (wpAny_field he hd h1 ?_)
    rw [if_neg (show ¬ ((Value.ref T == Value.none) = true) by simp)]
    have last : wpAny (model X.prog X.w) X.A (setFlight (.ref p) X.env.frame) (fun _ t => wpAny (model X.prog X.w) X.A (throw (.ref p) : Sem Flow) (SP X pins D) X.xe t) X.xe { s with heap := h } := by
      rw [hf]
      exact HandSPX.setFlight_upZ A.fly fun h' held up => wpAny_throw (A.out w h' held up)
    first
      | exact wpAny_bind (wpAny_pure (wpAny_bind last))
      | exact wpAny_bind last
  | _, _, .cons (y := y) (c := c) (on := on) (o := o) (ts := ts) (b := b) (bs := bs) (p1 := p1) (p2 := p2) nm sl su r, w => by
    obtain ⟨k, hk, yes, no⟩ := w
    obtain ⟨ob, ws, hob, hz, hdat⟩ := A.fly.there
    have look := PySem.W.exm_one (M := model X.prog X.w) A.here.kIn (fun A' Q E t kk q => wpAny_typeOf_ref (kk _ _ hob) (by rw [hz.1]; exact q)) hk
    have I0 := A.here.suite hob hdat A.free A.notL A.notF
    refine wpAny_handleBy_cons (codeAny_handlers_test ?_) (fun q => by cases q)
    have named : ∀ {Q : Value → Shared → Prop} {E : Value → Shared → Prop}, Q c { s with heap := h } → wpAny (model X.prog X.w) (X.A.mark (some (.ref p))) (eval (.Name y p1) X.env) Q E { s with heap := h } := fun {Q E} q => by
      rcases nm with ⟨g1, g2, g3 | ⟨g3, g4, g5⟩⟩
      · exact ld_glob (X := X.suite p ((p, ob) :: (X.pn ++ pins))) I0 g1 g3 q g2
      · exact ld_blt (X := X.suite p ((p, ob) :: (X.pn ++ pins))) I0 g1 g3 g4 q g5 g2
    refine named (look.here ?_)
    cases k with
    | false =>
      show wpAny _ X.A (handleBy (.ref p) X.env _) _ _ _
      exact mix_run hf ok A r (no rfl)
    | true =>
      cases on with
      | none =>
        cases o with
        | some i => exact (sl : False).elim
        | none =>
          refine codeAny_handlers_suite (HandSPX.lands_againZ A.fly fun h4 fl4 up4 => ?_)
          obtain ⟨ob4, ws4, hob4, hz4, hd4⟩ := fl4.there
          have I4 := (A.inv h4 fl4.1 up4).suite hob4 hd4 A.free A.notL A.notF
          exact wpAny_mono ((su p ob4 cl dd (X.pn ++ pins) hz4 ⟨_, hd4⟩).run [] _ _ G _ I4 (yes rfl p A.free)) (fun fl t e => suite_end (pn := []) ok e) fun _ _ z => z.elim
      | some n =>
        cases o with
        | none => exact (sl : False).elim
        | some i =>
          obtain ⟨hN, hi, hl⟩ := sl
          refine codeAny_handlers_suite_as (HandSPX.lands_againZ A.fly fun h4 fl4 up4 => ?_)
          obtain ⟨ob4, ws4, hob4, hz4, hd4⟩ := fl4.there
          have I4 := (A.inv h4 fl4.1 up4).suite hob4 hd4 A.free A.notL A.notF
          refine store_ok (X := X.suite p ((p, ob4) :: (X.pn ++ pins))) (v := .ref p) I4 hN hi (.inl hl) rfl (fun s5 I5 => ?_) (.inr hl)
          exact wpAny_mono ((su p ob4 cl dd (X.pn ++ pins) hz4 ⟨_, hd4⟩).run [] s5 _ G _ I5 (yes rfl p A.free)) (fun fl t e => suite_end_as ok hN hi hl e) fun _ _ z => z.elim
theorem ps_try_mix {body : List Stmt} {h0 : ExceptHandler} {hs : List ExceptHandler} {l : List (Value × Option Nat × Suite)} {pos : Pos} {tb : WX → TS} (hst : X.stack = X.env :: X.outer) (hf : X.env.frame = some X.env.locals) (tk : Takes X W0)
    (hb : ∀ (W : WX) (pn : List (Addr × Obj)) (xe : Value → Shared → Prop), Takes (X.tr pn xe) W → PassesOwn (model X.prog X.w) X.A X.env xe → PSs (X.tr pn xe) body (tb W)) (hm : HMix X (h0 :: hs) l) :
    PS X (.Try body (h0 :: hs) [] [] pos) (fun D σ H => tb (wMix X.K W0 D l) D σ H) := by
  refine ⟨fun pins s σ H D I q => wpAny_Try_except ?_⟩
  have ok := I.ok
  have hfr : X.A.frames = some (X.env :: X.outer) := by rw [ok.frames, hst]
  refine wpAny_mono ((hb (wMix X.K W0 D l) (X.pn ++ pins) _ (fun u s' xx => ?_) PassesOwn.looking).run [] s σ H D (I.toTry _) q) (fun fl s1 e => ?_) fun _ _ z => z
  · obtain ⟨p, B, sI, pins', τ, G, cl, dd, rfl, J0, nb, up, sky, na, os, ag, w⟩ := xx
    have J := J0.ofTry ok
    rw [show (X.tr (X.pn ++ pins) _).stack = X.env :: X.outer from hst] at sky
    refine Sky.land Zc.steady hfr hf sky fun h3 fl3 up3 => ?_
    obtain ⟨ob, ws, hob, hz, hdat⟩ := fl3.there
    have nfr : p ∉ frs (X.env :: X.outer) := fun m => by
      obtain ⟨_, o', e', nf⟩ := fl3.2.2.1.mem m
      rw [hob] at e'
      cases e'
      exact nf _ hdat
    refine mix_run (W0 := W0) (B := B) (p := p) (cl := cl) (dd := dd) (τ := τ) (G := G) (s := s') (h := h3) hf ok ⟨fl3, fun h' st u => J.landed nb st ((up.trans up3).trans u) os ag, J.landed nb fl3.1 (up.trans up3) os ag, na, fun z => ?_, fun m => ?_, fun w0 h' held u => ?_⟩ hm w
    · exact nfr (List.mem_filterMap.mpr ⟨X.env, List.mem_cons_self, by rw [hf, z]⟩)
    · obtain ⟨e, he, z⟩ := List.mem_filterMap.mp m
      exact nfr (List.mem_filterMap.mpr ⟨e, List.mem_cons_of_mem _ he, z⟩)
    · exact tk _ _ ⟨p, B, sI, pins, τ, G, cl, dd, rfl, J, nb, (up.trans up3).trans u, .inr (.inr (by rw [hst]; exact held)), na, os, ag, w0⟩
  · cases fl with
    | next => obtain ⟨τ, G, J, z⟩ := e; exact wpAny_execs_nil ⟨τ, G, J.ofTry ok, z⟩
    | brk => obtain ⟨τ, G, J, z⟩ := e; exact ⟨τ, G, J.ofTry ok, z⟩
    | cont => obtain ⟨τ, G, J, z⟩ := e; exact ⟨τ, G, J.ofTry ok, z⟩
    | ret u => obtain ⟨v, τ, G, J, r, z⟩ := e; exact ⟨v, τ, G, J.ofTry ok, r, z⟩
end
end L3

set_option Elab.async false
set_option maxRecDepth 100000
set_option linter.all false
set_option maxHeartbeats 2000000
namespace L3
open PySem PySem.Spec PyProof.Rows L2
/-! ### try, by data -/
abbrev goneD : Option Nat → DEnds → DEnds
  | none, D => D
  | some i, D => { nx := fun δ S => D.nx (dset δ i none) S, rt := D.rt, bk := fun δ S => D.bk (dset δ i none) S, ct := fun δ S => D.ct (dset δ i none) S }
abbrev heldD : Option Nat → Addr → DSt → DSt
  | none, _, δ => δ
  | some i, a, δ => dset δ i (some (.ref a))
abbrev DClause := Str × Option Nat × (Addr → List (Str × D) → DTS)
def dHs (sub : Str → Str → Option Bool) (PX : DWX) (D : DEnds) : List DClause → DWX
  | [] => PX
  | (y, o, h) :: r => fun x fs δ S => ∃ k, sub x y = some k ∧ (k = true → ∀ a, S a = none → h a fs (goneD o D) (heldD o a δ) S) ∧ (k = false → dHs sub PX D r x fs δ S)
abbrev dTry (sub : Str → Str → Option Bool) (tb : DWX → DTS) (hs : List DClause) (PX : DWX) : DTS := fun D δ S => tb (dHs sub PX D hs) D δ S
theorem st_caught {sub : Str → Str → Option Bool} {PX : DWX} {D : DEnds} {y x : Str} {o : Option Nat} {h : Addr → List (Str × L3.D) → DTS} {r : List DClause} {fs : List (Str × L3.D)} {δ : DSt} {S : Sto} (e : sub x y = some true)
    (q : ∀ a, S a = none → h a fs (goneD o D) (heldD o a δ) S) : dHs sub PX D ((y, o, h) :: r) x fs δ S := ⟨true, e, fun _ => q, fun z => by cases z⟩
theorem st_missed {sub : Str → Str → Option Bool} {PX : DWX} {D : DEnds} {y x : Str} {o : Option Nat} {h : Addr → List (Str × L3.D) → DTS} {r : List DClause} {fs : List (Str × L3.D)} {δ : DSt} {S : Sto} (e : sub x y = some false)
    (q : dHs sub PX D r x fs δ S) : dHs sub PX D ((y, o, h) :: r) x fs δ S := ⟨false, e, (fun z => by cases z), fun _ => q⟩
/-- which class is caught by which name -/
def SubOk (K : PySem.W.Frag) (ct : CTab) (sub : Str → Str → Option Bool) : Prop := ∀ x y b, sub x y = some b → PySem.W.exmOne K (.ref (ct x)) (.ref (ct y)) = some b
def suiteOf (K : PySem.W.Frag) (Γ : KG K) (ct : CTab) (h : Addr → List (Str × D) → DTS) : Suite := fun a cls d Dn σ H => ∃ dd fs x, d = some dd ∧ cls = .ref (ct x) ∧ ExF K ct x fs ∧ lfS (Γ.exc dd fs) (h a fs) Dn σ H
abbrev clauseOf (K : PySem.W.Frag) (Γ : KG K) (ct : CTab) (c : DClause) : Value × Option Nat × Suite := (.ref (ct c.1), c.2.1, suiteOf K Γ ct c.2.2)
def KG.also {K : PySem.W.Frag} (Γ : KG K) (Δ : KG K) : KG K where
  ok := fun F S H => Γ.ok F S H ∧ Δ.ok F S H
  step := fun s a g => ⟨Γ.step s a.1 g, Δ.step s a.2 g⟩
  new := fun s a h => ⟨Γ.new s a.1 h, Δ.new s a.2 h⟩
  put := fun a0 f s a => ⟨Γ.put a0.1 f s a.1, Δ.put a0.2 f s a.2⟩
theorem CtE.gone {K : PySem.W.Frag} {Γ : KG K} {F : Addr → Bool} {S : Sto} {H : Hp} {P : DEnds} {D : Ends} (o : Option Nat) (c : CtE Γ F S H P D) : CtE Γ F S H (goneD o P) (goneE o D) := by
  cases o with
  | none => exact c
  | some i =>
    refine ⟨fun δ S' h σ H' g r => c.nx _ _ h _ _ g ?_, c.rt, fun δ S' h σ H' g r => c.bk _ _ h _ _ g ?_, fun δ S' h σ H' g r => c.ct _ _ h _ _ g ?_⟩
    all_goals rw [dset_eq]
    all_goals exact r.unset i
theorem CtE.exc {K : PySem.W.Frag} {Γ : KG K} {F : Addr → Bool} {S : Sto} {H : Hp} {P : DEnds} {D : Ends} {dd : Addr} {fs : List (Str × L3.D)} (c : CtE Γ F S H P D) : CtE (Γ.exc dd fs) F S H P D :=
  ⟨fun δ S' h σ H' g r => c.nx _ _ h _ _ (KG.exc_go g) r, fun d S' h v H' g r => c.rt _ _ h _ _ (KG.exc_go g) r, fun δ S' h σ H' g r => c.bk _ _ h _ _ (KG.exc_go g) r, fun δ S' h σ H' g r => c.ct _ _ h _ _ (KG.exc_go g) r⟩
theorem RelS.held {K : PySem.W.Frag} {G : Hp} {σ : L2.St} {δ : DSt} (o : Option Nat) (a : Addr) (r : RelS K G σ δ) : RelS K G (heldS o a σ) (heldD o a δ) := by
  cases o with
  | none => exact r
  | some i => exact r.dset (.ref a) i
theorem mix_data {K : PySem.W.Frag} {Γ : KG K} {ct : CTab} {sub : Str → Str → Option Bool} {PX : DWX} {P : DEnds} {D : Ends} (so : SubOk K ct sub) {F : Addr → Bool} {S : Sto} {H : Hp} {σ : L2.St} {δ : DSt} {x : Str} {fs : List (Str × L3.D)} {vs : List (Str × V)} {dd : Addr}
    (sm : Sim Γ F S H) (rs : RelS K (fz F S H) σ δ) (e : fz F S H dd = some (.xd vs)) (rf : RelF K (fz F S H) vs fs) (xf : ExF K ct x fs) (c : CtE Γ F S H P D) :
    ∀ hs : List DClause, dHs sub PX P hs x fs δ S → wMix K (WD Γ ct PX) D (hs.map (clauseOf K Γ ct)) (.ref (ct x)) (some dd) σ H
  | [], q => ⟨F, δ, S, x, fs, vs, dd, sm, rs, rfl, rfl, e, rf, xf, q⟩
  | (y, o, h) :: r, ⟨k, h1, h2, h3⟩ => ⟨k, so x y k h1, fun z p hp => ⟨dd, fs, x, rfl, rfl, xf, F, heldD o p δ, S, goneD o P, ⟨sm.toSimB, sm.knows, vs, e, rf⟩, rs.held o p, h2 z p (sm.none hp).2, (c.gone o).exc⟩,
      fun z => mix_data so sm rs e rf xf c r (h3 z)⟩
inductive DMix (X : Cx) (Γ : KG X.K) (ct : CTab) : List ExceptHandler → List DClause → Prop
  | nil : DMix X Γ ct [] []
  | cons {y : Str} {on : Option Str} {o : Option Nat} {h : Addr → List (Str × D) → DTS} {b : Stmt} {bs : List Stmt} {p1 p2 : Pos} {hr : List ExceptHandler} {lr : List DClause} (nm : Names X y (.ref (ct y))) (sl : SlotOk X on o)
      (su : ∀ (a : Addr) (ob : Obj) (dd : Addr) (fs : List (Str × D)) (x : Str) (pn : List (Addr × Obj)), Zc (.ref (ct x)) (some dd) ob → (∃ ws, ob.data = .fields ws) → ExF X.K ct x fs → DPSs (X.suite a ((a, ob) :: pn)) (Γ.exc dd fs) (b :: bs) (h a fs)) (r : DMix X Γ ct hr lr) :
      DMix X Γ ct (.ExceptHandler (some (.Name y p1)) on (b :: bs) p2 :: hr) ((y, o, h) :: lr)
theorem DMix.mix {X : Cx} {Γ : KG X.K} {ct : CTab} : ∀ {hs : List ExceptHandler} {l : List DClause}, DMix X Γ ct hs l → HMix X hs (l.map (clauseOf X.K Γ ct))
  | _, _, .nil => .nil
  | _, _, .cons nm sl su r => .cons nm sl (fun p ob cl dd pn hz hd => ⟨fun pins s σ H Dn I ⟨d1, fs, x, e1, e2, xf, q⟩ => by
      subst e1 e2
      exact (su p ob d1 fs x pn hz hd xf).run pins s σ H Dn I q⟩) (DMix.mix r)
section
variable {X : Cx} {Γ : KG X.K} {ct : CTab} {PX : DWX}
theorem dps_try {body : List Stmt} {h0 : ExceptHandler} {hs : List ExceptHandler} {l : List DClause} {pos : Pos} {tb : DWX → DTS} {sub : Str → Str → Option Bool} (so : SubOk X.K ct sub) (hst : X.stack = X.env :: X.outer) (hf : X.env.frame = some X.env.locals) (tk : Takes X (WD Γ ct PX))
    (hb : ∀ (Δ : KG X.K) (QX : DWX) (pn : List (Addr × Obj)) (xe : Value → Shared → Prop), Takes (X.tr pn xe) (WD Δ ct QX) → PassesOwn (model X.prog X.w) X.A X.env xe → DPSs (X.tr pn xe) Δ body (tb QX)) (hm : DMix X Γ ct (h0 :: hs) l) :
    DPS X Γ (.Try body (h0 :: hs) [] [] pos) (dTry sub tb l PX) := by
  refine PSw (ps_try_mix (W0 := WD Γ ct PX) (tb := fun W Dn σ H => ∃ (Δ : KG X.K) (QX : DWX), (∀ cl d τ G, WD Δ ct QX cl d τ G → W cl d τ G) ∧ lfS Δ (tb QX) Dn σ H) hst hf tk (fun W pn xe tw po => ⟨fun pins s σ H Dn I ⟨Δ, QX, w, q⟩ => (hb Δ QX pn xe (tw.imp w) po).run pins s σ H Dn I q⟩) hm.mix)
    fun Dn σ H ⟨F, δ, S, P, sm, rs, h, c⟩ => ?_
  have s0 := KG.start_here sm.toSimB
  refine ⟨Γ.also (KG.start X.K F S H), dHs sub PX P l, fun cl d τ G ⟨F', δ', S', x, fs, vs, dd, sm', rs', e1, e2, e3, rf, xf, q⟩ => ?_, F, δ, S, P, ⟨sm.toSimB, sm.knows, s0.knows⟩, rs, h, ?_⟩
  · subst e1 e2
    obtain ⟨g, k⟩ := KG.start_go ⟨sm'.toSimB, sm'.knows.2⟩
    have g' : Go Γ F S H S' G := .of sm g
    exact mix_data so g'.sim (rs'.mono k) (k _ _ e3) (rf.mono k) xf (c.mono g') l q
  · exact ⟨fun δ S' h σ H' g r => c.nx _ _ h _ _ (.of sm g.b) r, fun d S' h v H' g r => c.rt _ _ h _ _ (.of sm g.b) r, fun δ S' h σ H' g r => c.bk _ _ h _ _ (.of sm g.b) r, fun δ S' h σ H' g r => c.ct _ _ h _ _ (.of sm g.b) r⟩
end
/-! ### a field of the caught exception -/
abbrev dXf (a : Addr) (fs : List (Str × D)) (n : Str) (te : DTE) : DTE := fun δ S Q => te δ S fun x S1 => x = .ref a ∧ ∃ d, fs.lookup n = some d ∧ Q d S1
theorem st_xf {a : Addr} {fs : List (Str × D)} {n : Str} {d : D} {S : Sto} {Q : DK} (e : fs.lookup n = some d) (q : Q d S) : (D.ref a) = .ref a ∧ ∃ d, fs.lookup n = some d ∧ Q d S := ⟨rfl, d, e, q⟩
theorem mem_lookup {n : Str} {d : D} : ∀ {fs : List (Str × D)}, fs.lookup n = some d → (n, d) ∈ fs
  | [], e => by cases e
  | (m, d') :: r, e => by
    rw [List.lookup_cons] at e
    split at e
    · rename_i z
      cases e
      have := eq_of_beq z
      subst this
      exact List.mem_cons_self
    · exact List.mem_cons_of_mem _ (mem_lookup e)
theorem dpe_xf {X : Cx} {Γ : KG X.K} {ct : CTab} {a dd : Addr} {ob : Obj} {x : Str} {fs : List (Str × D)} {pn : List (Addr × Obj)} {e : Expr} {te : DTE} {pos : Pos} {n : Str} (hz : Zc (.ref (ct x)) (some dd) ob) (hd : ∃ ws, ob.data = .fields ws) (xf : ExF X.K ct x fs)
    (he : DPE (X.suite a ((a, ob) :: pn)) (Γ.exc dd fs) e te) (hb : attributeBase e n X.env (eval e X.env) = eval e X.env := by rfl) : DPE (X.suite a ((a, ob) :: pn)) (Γ.exc dd fs) (.Attribute e n pos) (dXf a fs n te) := by
  by_cases hl : ∃ d, fs.lookup n = some d
  · obtain ⟨d0, hl⟩ := hl
    refine PEw (pe_xf xf.X (xf.no n d0 (mem_lookup hl)) hz hd he hb) fun σ H Q ⟨F, δ, S, P, sm, rs, h, c⟩ => ⟨F, δ, S, _, sm, rs, h, fun d S1 ⟨e1, d1, e2, q⟩ v H1 g1 r1 => ?_⟩
    subst e1
    cases r1
    obtain ⟨_, vs, e3, rf⟩ := g1.sim.knows
    obtain ⟨v, l1, r1⟩ := rf.lookup e2
    exact ⟨rfl, rfl, dd, vs, v, rfl, fz_same _ _ _ _ _ e3, l1, c.mono g1 |>.use g1.sim r1 q⟩
  · have hp := he
    refine ⟨fun pins s σ H Q I ⟨F, δ, S, P, sm, rs, h, c⟩ => ?_⟩
    refine attr_of hb (thn (he.run pins s σ H (fun _ _ => False) I ⟨F, δ, S, _, sm, rs, h, fun d S1 ⟨e1, d1, e2, q⟩ v H1 g1 r1 => hl ⟨d1, e2⟩⟩) fun u s1 hh => ?_)
    obtain ⟨x, H1, I1, rx, z⟩ := hh
    exact z.elim
end L3

set_option Elab.async false
set_option maxRecDepth 100000
set_option linter.all false
set_option maxHeartbeats 2000000
namespace L3
open PySem PySem.Spec PyProof.Rows L2
/-! ### classes of exceptions: __init__ notes its arguments -/
section
variable {P : Program} {w : World} {K : PySem.W.Frag} {mg : Str → Option Value} {base : Heap}
def tIni (K : PySem.W.Frag) : Nat → List Str → TS
  | _, [] => tNext
  | i, f :: fs => tSeq (tOst K f (tVar 0) (tVar i)) (tIni K (i + 1) fs)
theorem upd_swap {H : Hp} {a d : Addr} {x y z : HO} (h : d ≠ a) : upd (upd (upd H d x) a y) d z = upd (upd H d z) a y := by
  funext b
  by_cases e : b = d
  · subst e; rw [upd_same, upd_ne h, upd_same]
  · rw [upd_ne e]
    by_cases g : b = a
    · subst g; rw [upd_same, upd_same]
    · rw [upd_ne g, upd_ne e, upd_ne g, upd_ne e]
theorem ini_old {C a d : Addr} (T : OexC K C) (hda : d ≠ a) {D : Ends} {σ : L2.St} {H : Hp} (h0 : σ[0]? = some (some (.ref a))) : ∀ (ns : List Str) (ws : List V) (i : Nat) (fs : List (Str × V)), ns.length = ws.length → fs.length + ns.length ≤ 900 → (∀ n ∈ ns, PySem.W.findIn K (.ref C) n = some none) →
    (∀ j v, ws[j]? = some v → σ[i + j]? = some (some v)) → D.nx σ (upd (upd H d (exd d ((ns.zip ws).reverse ++ fs))) a (exo a C (some d))) → tIni K i ns D σ (upd (upd H d (exd d fs)) a (exo a C (some d)))
  | [], [], i, fs, _, _, _, _, q => q
  | n :: ns, v :: ws, i, fs, hl, hz, hn, hs, q => by
    refine ⟨v, by simpa using hs 0 v rfl, .ref a, h0, a, C, rfl, T, hn n List.mem_cons_self, .inr ⟨d, fs, upd_same, by rw [upd_ne hda, upd_same], by omega, ?_⟩⟩
    rw [upd_swap hda]
    refine ini_old T hda h0 ns ws (i + 1) ((n, v) :: fs) (by simpa using hl) (by simp only [List.length_cons] at hz ⊢; omega) (fun m hm => hn m (List.mem_cons_of_mem _ hm)) (fun j u e => ?_) ?_
    · rw [show i + 1 + j = i + (j + 1) by omega]
      exact hs (j + 1) u (by simpa using e)
    · simpa [List.append_assoc] using q
theorem ini_new {C a : Addr} (T : OexC K C) {D : Ends} {σ : L2.St} {H : Hp} (h0 : σ[0]? = some (some (.ref a))) (ha : H a = some (exo a C none)) (n : Str) (ns : List Str) (v : V) (ws : List V) (hl : ns.length = ws.length) (hz : ns.length ≤ 800) (hn : ∀ m ∈ n :: ns, PySem.W.findIn K (.ref C) m = some none)
    (hs : ∀ j u, (v :: ws)[j]? = some u → σ[1 + j]? = some (some u)) (q : ∀ d, H d = none → d ≠ a → D.nx σ (upd (upd H d (exd d (((n :: ns).zip (v :: ws)).reverse))) a (exo a C (some d)))) : tIni K 1 (n :: ns) D σ H := by
  refine ⟨v, by simpa using hs 0 v rfl, .ref a, h0, a, C, rfl, T, hn n List.mem_cons_self, .inl ⟨ha, fun d hd hda => ?_⟩⟩
  refine ini_old T hda h0 ns ws 2 [(n, v)] hl (by simp only [List.length_cons, List.length_nil]; omega) (fun m hm => hn m (List.mem_cons_of_mem _ hm)) (fun j u e => ?_) ?_
  · have := hs (j + 1) u (by simpa using e)
    rwa [show 1 + (j + 1) = 2 + j by omega] at this
  · simpa using q d hd hda
theorem ini_ok {qual : Str} {st : Stmt} {f : Addr} {fd : FuncData} {C : Addr} {n : Str} {ns N : List Str} (T : OexC K C) (hno : ∀ m ∈ n :: ns, PySem.W.findIn K (.ref C) m = some none) (Fn : Fun K "__init__" qual st f fd) (Sc : FnScope N ("self" :: n :: ns) (defScope st)) (hz : ns.length ≤ 800)
    (hb : ∀ (cdv : Value) (A : Around) (outer : List Env) (s : Shared) (H : Hp) (E : XK), PSs (cxOf CX0 P w K mg base N qual (defScope st) f cdv A outer s H E).nox (defBody st) (tIni K 1 (n :: ns))) : FnOk P w K mg base CX0 1 f fd ("self" :: n :: ns) (spInit C (n :: ns)) := by
  refine Fn.ok Sc (fun vs H Q E ⟨a, ws, e, hl, _⟩ => by rw [e, List.length_cons, hl]; rfl) fun cdv A outer s H vs Q E hr ⟨a, ws, e, hl, ha, q⟩ => ⟨_, hb cdv A outer s H E, ?_⟩
  subst e
  cases ws with
  | nil => simp at hl
  | cons v ws =>
    have st : ∀ (j : Nat) (u : V), (V.ref a :: v :: ws)[j]? = some u → (L2.start N (V.ref a :: v :: ws))[j]? = some (some u) := fun j u e => by
      unfold L2.start
      rw [List.getElem?_append_left (by rw [List.length_map]; exact (List.getElem?_eq_some_iff.mp e).1), List.getElem?_map, e]
      rfl
    exact ini_new T (st 0 _ rfl) ha n ns v ws (by simpa using hl.symm) hz hno (fun j u e => st (1 + j) u (by rw [show 1 + j = j + 1 by omega]; exact e)) fun d hd hda => q d hd hda
end
end L3

set_option Elab.async false
set_option maxRecDepth 100000
set_option linter.all false
set_option maxHeartbeats 2000000
namespace L3
open PySem PySem.Spec PyProof.Rows L2
/-! ### iterating a tuple or a list, as it comes -/
abbrev iAnyD (te : DTE) : DTI := fun δ S Q => iSeq te δ S Q ∨ iTupD te δ S Q
section
variable {X : Cx} {Γ : KG X.K} {e tg : Expr} {te : DTE}
theorem dpi_any (h : DPE X Γ e te) : DPI X Γ tg e (iAnyD te) := ⟨fun pins s σ H R I ⟨F, δ, S, P, sm, rs, q, c⟩ => q.elim (fun q => (dpi_seq h).run pins s σ H R I ⟨F, δ, S, P, sm, rs, q, c⟩) fun q => (dpi_tup h).run pins s σ H R I ⟨F, δ, S, P, sm, rs, q, c⟩⟩
end
/-! ### the table of the classes -/
def subL (l : List (Str × Str × Bool)) (x y : Str) : Option Bool := (l.find? fun e => e.1 == x && e.2.1 == y).map (·.2.2)
theorem SubOk.of {K : PySem.W.Frag} {ct : CTab} (l : List (Str × Str × Bool)) (h : ∀ e ∈ l, PySem.W.exmOne K (.ref (ct e.1)) (.ref (ct e.2.1)) = some e.2.2) : SubOk K ct (subL l) := fun x y b q => by
  unfold subL at q
  cases e : l.find? fun e => e.1 == x && e.2.1 == y with
  | none => rw [e] at q; cases q
  | some z =>
    rw [e] at q
    cases q
    have h1 := List.find?_some e
    simp only [Bool.and_eq_true, beq_iff_eq] at h1
    rw [← h1.1, ← h1.2]
    exact h z (List.mem_of_find?_eq_some e)
def ctOf (l : List (Str × Addr)) : CTab := fun x => (l.lookup x).getD 0
theorem exm_of {K : PySem.W.Frag} {c y : Addr} {b : Bool} (h1 : PySem.W.subIn K (.ref y) (.type "BaseException") = some true) (h2 : PySem.W.isClsIn K y = true) (h3 : PySem.W.typeIn K (.ref y) = some (.type "type")) (h4 : PySem.W.subIn K (.ref c) (.ref y) = some b) : PySem.W.exmOne K (.ref c) (.ref y) = some b := by
  have e1 : (PySem.W.subIn K (.ref y) (.type "BaseException") == some true) = true := by rw [h1]; rfl
  have h2' : (PySem.W.clsIn K y).isSome = true := h2
  have e2 : ((PySem.W.clsIn K y).isSome && PySem.W.typeIn K (.ref y) == some (.type "type")) = true := by rw [h2', h3]; rfl
  show (if _ = true then (if ((PySem.W.clsIn K y).isSome && PySem.W.typeIn K (.ref y) == some (.type "type")) = true then PySem.W.subIn K (.ref c) (.ref y) else none) else none) = some b
  rw [if_pos e1, if_pos e2]
  exact h4
/-- nothing is let out -/
abbrev dNoX : DWX := fun _ _ _ _ => False
theorem takes_no {X : Cx} {Γ : KG X.K} {ct : CTab} : Takes X (WD Γ ct dNoX) := fun _ _ ⟨_, _, _, _, _, _, _, _, _, _, _, _, _, _, _, _, F, δ, S, x, fs, vs, dd, _, _, _, _, _, _, _, z⟩ => z.elim
abbrev x0 (sp : Sto → DK → DXK → Prop) : DSpX := fun ds S Q E => match ds with | [] => sp S Q E | _ => False
abbrev x1 (sp : D → Sto → DK → DXK → Prop) : DSpX := fun ds S Q E => match ds with | [a] => sp a S Q E | _ => False
abbrev x2 (sp : D → D → Sto → DK → DXK → Prop) : DSpX := fun ds S Q E => match ds with | [a, b] => sp a b S Q E | _ => False
abbrev x3 (sp : D → D → D → Sto → DK → DXK → Prop) : DSpX := fun ds S Q E => match ds with | [a, b, c] => sp a b c S Q E | _ => False
abbrev x4 (sp : D → D → D → D → Sto → DK → DXK → Prop) : DSpX := fun ds S Q E => match ds with | [a, b, c, d] => sp a b c d S Q E | _ => False
abbrev x5 (sp : D → D → D → D → D → Sto → DK → DXK → Prop) : DSpX := fun ds S Q E => match ds with | [a, b, c, d, e] => sp a b c d e S Q E | _ => False
theorem x1_len {sp} : ∀ ds S P E, x1 sp ds S P E → ds.length = 1
  | [_], _, _, _, _ => rfl
  | [], _, _, _, h | _ :: _ :: _, _, _, _, h => (h : False).elim
theorem x2_len {sp} : ∀ ds S P E, x2 sp ds S P E → ds.length = 2
  | [_, _], _, _, _, _ => rfl
  | [], _, _, _, h | [_], _, _, _, h | _ :: _ :: _ :: _, _, _, _, h => (h : False).elim
theorem x3_len {sp} : ∀ ds S P E, x3 sp ds S P E → ds.length = 3
  | [_, _, _], _, _, _, _ => rfl
  | [], _, _, _, h | [_], _, _, _, h | [_, _], _, _, _, h | _ :: _ :: _ :: _ :: _, _, _, _, h => (h : False).elim
theorem x4_len {sp} : ∀ ds S P E, x4 sp ds S P E → ds.length = 4
  | [_, _, _, _], _, _, _, _ => rfl
  | [], _, _, _, h | [_], _, _, _, h | [_, _], _, _, _, h | [_, _, _], _, _, _, h | _ :: _ :: _ :: _ :: _ :: _, _, _, _, h => (h : False).elim
theorem FnD.none {P : Program} {w : World} {K : PySem.W.Frag} {mg : Str → Option Value} {base : Heap} {k : Nat} {f : Addr} {fd : FuncData} {ps : List Str} : FnD P w K mg base k f fd ps (fun _ _ _ => False) :=
  ⟨fun vs H Q E ⟨_, _, _, _, _, _, h, _⟩ => h.elim, fun _ _ _ _ _ _ _ _ _ _ _ _ _ ⟨_, _, _, _, _, _, h, _⟩ => h.elim⟩
/-- the parts of a class's text -/
def clsBody : Stmt → List Stmt
  | .ClassDef _ _ _ body .. => body
  | _ => []
/-- a module's constant -/
def Known (K : PySem.W.Frag) (d : D) (u : Value) : Prop := ∃ v, RelV v u ∧ ∀ G, Rel K G v d
theorem dpe_globE {X : Cx} {Γ : KG X.K} {x : Str} {d : D} {u : Value} {pos : Pos} (k : Known X.K d u) (hm : X.mg x = some u) (hg : Gl X x) (hd : (x == ("__debug__" : Str)) = false := by decide) : DPE X Γ (.Name x pos) (dC d) := by
  obtain ⟨v, q, r⟩ := k
  exact dpe_glob hg hm q r hd
theorem Known.int {K : PySem.W.Frag} {i : Int} {t : Nat} : Known K (.int i) (.int i t) := ⟨.int i, ⟨_, rfl⟩, fun _ => .int i⟩
inductive KnownL (K : PySem.W.Frag) : List D → List Value → Prop
  | nil : KnownL K [] []
  | cons {d : D} {ds : List D} {u : Value} {us : List Value} : Known K d u → KnownL K ds us → KnownL K (d :: ds) (u :: us)
theorem KnownL.ex {K : PySem.W.Frag} : ∀ {ds : List D} {us : List Value}, KnownL K ds us → ∃ vs, Vals vs us ∧ ∀ G, RelL K G vs ds
  | _, _, .nil => ⟨[], .nil, fun _ => .nil⟩
  | _, _, .cons ⟨v, h, r⟩ t => by
    obtain ⟨vs, h2, r2⟩ := KnownL.ex t
    exact ⟨v :: vs, .cons h h2, fun G => .cons (r G) (r2 G)⟩
theorem Known.tup {K : PySem.W.Frag} {a : Addr} {od : Option Addr} {sl : Array (Option Value)} {items : Array Value} {n : Nat} {ds : List D} (h : K.lookup a = some ⟨.type "tuple", od, .seq items n, sl⟩) (hs : items.size ≤ 1000) (k : KnownL K ds items.toList) : Known K (.tup ds) (.ref a) := by
  obtain ⟨vs, h2, r2⟩ := k.ex
  exact ⟨.ref a, rfl, fun G => .tup (.inr ⟨_, items, n, h, rfl, rfl, by rw [sizeLine_eq]; omega, h2⟩) (r2 G)⟩
/-! ### a, b = x, y -/
abbrev dPar (i j : Nat) (ta : DTA) : DTS := fun D δ S => ta δ S fun ds S1 => match ds with | [u, v] => D.nx (dset (dset δ i (some u)) j (some v)) S1 | _ => False
abbrev dPar3 (i j l : Nat) (ta : DTA) : DTS := fun D δ S => ta δ S fun ds S1 => match ds with | [u, v, w] => D.nx (dset (dset (dset δ i (some u)) j (some v)) l (some w)) S1 | _ => False
section
variable {X : Cx} {Γ : KG X.K} {i j l : Nat} {x y z : Str} {a b c : Expr} {ta : DTA} {px py pz pt pos : Pos} {kt k2 : _} {pt2 : Pos}
theorem dps_par (hN : X.N.Nodup) (hi : X.N[i]? = some x) (hj : X.N[j]? = some y) (hij : i ≠ j) (hx : X.env.scope.names.lookup x = some .local) (hy : X.env.scope.names.lookup y = some .local) (ha : DPA X Γ [a, b] ta)
    (hc : X.calm = true := by rfl) (hw : swappedStores [.Tuple [.Name x px, .Name y py] kt pt] (.Tuple [a, b] k2 pt2) X.env = pure (some [x, y]) := by rfl)
    (hs : swapsWithSole [.Tuple [.Name x px, .Name y py] kt pt] (.Tuple [a, b] k2 pt2) pos.line X.env = pure false := by rfl) :
    DPS X Γ (.Assign [.Tuple [.Name x px, .Name y py] kt pt] (.Tuple [a, b] k2 pt2) pos) (dPar i j ta) := PSw (ps_par hc hN hi hj hij hx hy ha hw hs) fun D σ H ⟨F, δ, S, P, sm, rs, h, c⟩ => ⟨F, δ, S, _, sm, rs, h, fun ds S1 h1 vs H1 g1 r1 => by
  match ds, r1, h1 with
  | [_, _], .cons r (.cons q .nil), h1 => exact ⟨_, _, rfl, c.nx _ _ h1 _ _ g1 (((rs.mono g1.same).dset r i).dset q j)⟩⟩
theorem dps_par3 (hN : X.N.Nodup) (hi : X.N[i]? = some x) (hj : X.N[j]? = some y) (hl : X.N[l]? = some z) (hij : i ≠ j) (hil : i ≠ l) (hjl : j ≠ l) (hx : X.env.scope.names.lookup x = some .local) (hy : X.env.scope.names.lookup y = some .local) (hz : X.env.scope.names.lookup z = some .local) (ha : DPA X Γ [a, b, c] ta)
    (hc : X.calm = true := by rfl) (hw : swappedStores [.Tuple [.Name x px, .Name y py, .Name z pz] kt pt] (.Tuple [a, b, c] k2 pt2) X.env = pure (some [x, y, z]) := by rfl)
    (hs : swapsWithSole [.Tuple [.Name x px, .Name y py, .Name z pz] kt pt] (.Tuple [a, b, c] k2 pt2) pos.line X.env = pure false := by rfl) :
    DPS X Γ (.Assign [.Tuple [.Name x px, .Name y py, .Name z pz] kt pt] (.Tuple [a, b, c] k2 pt2) pos) (dPar3 i j l ta) := PSw (ps_par3 hc hN hi hj hl hij hil hjl hx hy hz ha hw hs) fun D σ H ⟨F, δ, S, P, sm, rs, h, c⟩ => ⟨F, δ, S, _, sm, rs, h, fun ds S1 h1 vs H1 g1 r1 => by
  match ds, r1, h1 with
  | [_, _, _], .cons r (.cons q (.cons t .nil)), h1 => exact ⟨_, _, _, rfl, c.nx _ _ h1 _ _ g1 ((((rs.mono g1.same).dset r i).dset q j).dset t l)⟩⟩
end
end L3

set_option Elab.async false
set_option maxRecDepth 100000
set_option linter.all false
set_option maxHeartbeats 4000000
namespace L3
open PySem L2
theorem sizeLine_val : sizeLine = 16777216 := sizeLine_eq
local macro_rules | `(tactic| walk_at "rd") => `(tactic| try simp only [dSeq, dAsg, dOp, dUn, dVar, dC, dCons, dNil, dTup, dLst, dLstM, dTest, dChain, dAnd, dOr, dNot, dAndV, dOrV, dNotV, dIfE, dCB, dCall, dSl, dPart, dNoPart, dIf, dRet, dRetN, dNext, dDrop, dTg, setAll, slot, dset, dwipe, dAug,
  a0, a1, a2, a3, a4, a5, a6, dLc, iTupD, iRange1, iRange2, dYes, dLM, dgSub, DEnds.of, dstart,
  vAt_some, vAtL_lst, vIx_tup, vIx_lst, vIx_ro, vIx_ref, vSl_tup, vSl_lst, vSl_ro, vSl_ref, vSlL_lst, vLen_tup, vLen_lst, vLen_ro, vLen_ref, vLenL_lst, vLenL_dK, vAdd_int, vAdd_tup, vAdd_lst, vAdd_ref, vAddL_lst, vSub_int, vLt_int, vLe_int, vGt_int, vGe_int, vMod_int, vDiv_int, vPow_int, vShl_int, vMul_int, vMul_tup, vMul_lst,
  vEq_int, vEq_str, vEq_bl, vEq_tup, vEq_lst, vNe_int, vNe_str, vNe_bl, vNe_tup, isN_non, isN_bl, isN_int, isN_str, isN_tup, isN_lst, isN_ref, vIs_non, vIsNot_non, vNeg_int, vInt_int, vInt_bl, vBool_int, vBool_bl, vAbs_int, vMin2_int, vMax2_int, vTuple_tup, vTuple_lst, vTuple_ref, vTupleL_lst, vList_tup, vList_lst,
  vAllO_some, vAll_x, vAny_x, seqOf_lst, vIsi_x, vIadd_int, vAppL_lst, vAppend_ref, vSetN_some, vSetO_lst, vSet_ref, isSeq_ref, ex_lst, all1,
  isiT_int_int, isiT_int_bool, isiT_int_tuple, isiT_int_str, isiT_int_list, isiT_bl_int, isiT_bl_bool, isiT_bl_tuple, isiT_bl_str, isiT_bl_list, isiT_non_int, isiT_non_bool, isiT_non_tuple, isiT_non_str, isiT_non_list, isiT_str_int, isiT_str_bool, isiT_str_tuple, isiT_str_str, isiT_str_list, isiT_tup_int, isiT_tup_bool, isiT_tup_tuple, isiT_tup_str, isiT_tup_list, isiT_lst_int, isiT_lst_bool, isiT_lst_tuple, isiT_lst_str, isiT_lst_list,
  Option.map_some, Option.bind_some, List.map_cons, List.map_nil, List.length_cons, List.length_nil, List.cons_append, List.nil_append, List.replicate, List.set, List.append_nil, atI_0, atI_1, atI_2, atI_3, atI_4, atI_5, List.length_map, Nat.zero_add, Nat.reduceAdd, Nat.reduceSub, Nat.reduceLeDiff, true_and, and_true, Bool.false_eq_true, if_true, if_false, decide_eq_true_eq, reduceIte, ite_true, ite_false,
  Bool.not_true, Bool.not_false, List.length_append, cut_from, cut_to, sup_same, sup_sup, Option.some.injEq, exists_eq_left', exists_eq_left])
local macro_rules | `(tactic| walk_at "side") => `(tactic| first | assumption | omega | (simp only [List.length_append, List.length_cons, List.length_nil, List.length_take, List.length_drop, List.length_map, List.length_reverse, sizeLine_val]; omega) | decide)
local macro_rules | `(tactic| walk_at "st") => `(tactic| first
  | with_reducible refine st_ix0 ?_ | with_reducible refine st_ix1 ?_ | with_reducible refine st_ix2 ?_ | with_reducible refine st_ix3 ?_ | with_reducible refine st_ix4 ?_
  | with_reducible refine st_add_pp (by walk_at "side") ?_ | with_reducible refine st_add_p1 (by walk_at "side") ?_ | with_reducible refine st_add_1p (by walk_at "side") ?_
  | with_reducible refine st_add ?_ | with_reducible refine st_sub ?_ | with_reducible refine st_iadd ?_ | with_reducible refine st_neg ?_
  | with_reducible refine st_len_p ?_ | with_reducible refine st_len_lp ?_ | with_reducible refine st_len_rp ?_ | with_reducible refine st_len_t ?_ | with_reducible refine st_len_l ?_
  | with_reducible refine st_add_t (by walk_at "side") ?_ | with_reducible refine st_add_l (by walk_at "side") ?_ | with_reducible refine st_add_s (by walk_at "side") ?_
  | with_reducible refine st_iteT ?_ | with_reducible refine st_iteF ?_ | with_reducible refine st_not ?_
  | with_reducible refine st_lt ?_ | with_reducible refine st_le ?_ | with_reducible refine st_gt ?_ | with_reducible refine st_ge ?_ | with_reducible refine st_eqi ?_ | with_reducible refine st_nei ?_ | with_reducible refine st_eqs ?_ | with_reducible refine st_nes ?_ | with_reducible refine st_eqb ?_
  | with_reducible refine st_isn_non ?_ | with_reducible refine st_isn_int ?_ | with_reducible refine st_isn_tup ?_ | with_reducible refine st_isn_str ?_ | with_reducible refine st_isn_bl ?_
  | with_reducible refine st_isnt_non ?_ | with_reducible refine st_isnt_int ?_ | with_reducible refine st_isnt_tup ?_ | with_reducible refine st_isnt_str ?_
  | with_reducible refine st_int ?_ | with_reducible refine st_intb ?_ | with_reducible refine st_abs ?_ | with_reducible refine st_min2 ?_ | with_reducible refine st_max2 ?_
  | with_reducible refine st_tup_l ?_ | with_reducible refine st_tup_t ?_ | with_reducible refine st_lst_t ?_ | with_reducible refine st_lst_l ?_
  | with_reducible refine st_sl_from ?_ | with_reducible refine st_sl_to ?_
  | with_reducible refine st_lx0 ?_ | with_reducible refine st_lx1 ?_ | with_reducible refine st_lx2 ?_ | with_reducible refine st_lx3 ?_
  | with_reducible refine st_mod (by walk_at "side") ?_ | with_reducible refine st_div (by walk_at "side") ?_ | with_reducible refine st_mul (by walk_at "side") ?_ | with_reducible refine st_mul' (by walk_at "side") ?_
  | with_reducible refine st_isi rfl ?_
  | (with_reducible refine And.intro (Nat.le_of_ble_eq_true rfl) ?_)
  | (refine And.intro (rfl : (_ : Nat) = _) ?_)
  | with_reducible refine st_dT (by omega) ?_ | with_reducible refine st_dF (by omega) ?_)
local macro_rules | `(tactic| walk_at "hd") => `(tactic| (with_reducible conv => whnf))
local macro_rules | `(tactic| walk_at "run") => `(tactic| ((with_reducible conv => whnf); repeat (walk_at "st"; (with_reducible conv => whnf))))
/-! ### data -/
abbrev Eff := List Int × List Int
def asP : D → Option (List Int)
  | .tup ds => asInts ds
  | _ => none
def asE : D → Option Eff
  | .tup [a, b] => match asP a, asP b with | some p, some q => some (p, q) | _, _ => none
  | _ => none
@[simp] theorem asInts_nil : asInts [] = some [] := rfl
@[simp] theorem asInts_cons (i : Int) (r : List D) : asInts (.int i :: r) = (asInts r).map (i :: ·) := rfl
def pl (p : List Int) : D := .tup (p.map .int)
def ef (e : Eff) : D := .tup [pl e.1, pl e.2]
theorem asP_eq {d : D} {p : List Int} (h : asP d = some p) : d = .tup (p.map .int) := by
  cases d <;> first | (cases h; done) | skip
  rw [asInts_eq h]
theorem asP_pl (p : List Int) : asP (.tup (p.map .int)) = some p := asInts_map p
theorem asE_eq {d : D} {e : Eff} (h : asE d = some e) : d = .tup [.tup (e.1.map .int), .tup (e.2.map .int)] := by
  unfold asE at h
  split at h
  · split at h
    · rename_i h1 h2
      cases h
      rw [asP_eq h1, asP_eq h2]
    · cases h
  · cases h
theorem asE_ef (e : Eff) : asE (.tup [.tup (e.1.map .int), .tup (e.2.map .int)]) = some e := by
  simp only [asE, asP, asInts_map]
def Sm (p : List Int) : Prop := p.length ≤ 100000
def SmE (e : Eff) : Prop := Sm e.1 ∧ Sm e.2
theorem st_eq_pp {p q : List Int} {S : Sto} {Q : DK} (h : Q (.bl (decide (p = q))) S) : vEq (.tup (p.map .int)) (.tup (q.map .int)) S Q := by
  rw [vEq_tup]
  simp only [okE, okEs_map_int, dep, deps_map_int, eqv, toP, toPs_map_int, PyData.eqv, eqvAll_ints]
  exact ⟨trivial, trivial, by decide, by decide, h⟩
theorem st_eq_ee {a b c d : List Int} {S : Sto} {Q : DK} (h : Q (.bl (decide (((a, b) : Eff) = (c, d)))) S) : vEq (.tup [.tup (a.map .int), .tup (b.map .int)]) (.tup [.tup (c.map .int), .tup (d.map .int)]) S Q := by
  rw [vEq_tup]
  simp only [okE, okEs, okEs_map_int, dep, deps, deps_map_int, eqv, toP, toPs, toPs_map_int, PyData.eqv, PyData.eqvAll, eqvAll_ints]
  refine ⟨rfl, rfl, by decide, by decide, ?_⟩
  rw [Bool.and_true, ← Bool.decide_and, show (decide (a = c ∧ b = d)) = decide (((a, b) : Eff) = (c, d)) from decide_eq_decide.mpr (by simp)]
  exact h
/-! ### begins, joined -/
def sp_begins (x y : D) (S : Sto) (Q : DK) : Prop := match asP x, asP y with
  | some p, some q => Q (.bl (decide (p.take q.length = q))) S
  | _, _ => False
-- begins : 0=pile 1=front
def rd_begins : DTS :=
    (dRet (dOp vEq (dSl vSl (dVar 0) dNoPart (dPart (dCB vLen (dCons (dVar 1) dNil)))) (dVar 1)))
theorem rd_begins_ok : ∀ ds S P, (a2 sp_begins) ds S P → rd_begins (DEnds.of P) (dstart ["pile", "front"] ds) S := by
  intro ds S P h
  rcases ds with _ | ⟨x, _ | ⟨y, _ | ⟨z, ds⟩⟩⟩ <;> first | exact (h : False).elim | skip
  simp only [a2, sp_begins] at h
  split at h
  · rename_i p q e1 e2
    rw [asP_eq e1, asP_eq e2]
    unfold rd_begins
    walk_at "run"
    refine st_eq_pp ?_
    exact .of h
  · exact h.elim
theorem use_begins {p q : List Int} {S : Sto} {Q : DK} (h : Q (.bl (decide (p.take q.length = q))) S) : sp_begins (.tup (p.map .int)) (.tup (q.map .int)) S Q := by
  simp only [sp_begins, asP_pl]
  exact h
/-- how effects are joined -/
def jn (a b : Eff) : Option Eff := if b.1.take a.2.length = a.2 then some (a.1 ++ b.1.drop a.2.length, b.2) else if a.2.take b.1.length = b.1 then some (a.1, b.2 ++ a.2.drop b.1.length) else none
abbrev oD : Option Eff → D
  | some e => .tup [.tup (e.1.map .int), .tup (e.2.map .int)]
  | none => .non
def sp_joined (x y : D) (S : Sto) (Q : DK) : Prop := match asE x, asE y with
  | some a, some b => SmE a ∧ SmE b ∧ Q (oD (jn a b)) S
  | _, _ => False
-- joined : 0=one 1=other 2=off 3=on 4=wanted 5=put
def rd_joined : DTS :=
    (dSeq (dAsg (dVar 0) (dTg (.tp [2, 3])))
    (dSeq (dAsg (dVar 1) (dTg (.tp [4, 5])))
    (dSeq (dIf (dTest (dCall (a2 sp_begins) (dCons (dVar 4) (dCons (dVar 3) dNil)))) (dRet (dTup (dCons (dOp vAdd (dVar 2) (dSl vSl (dVar 4) (dPart (dCB vLen (dCons (dVar 3) dNil))) dNoPart)) (dCons (dVar 5) dNil)))) dNext)
    (dSeq (dIf (dTest (dCall (a2 sp_begins) (dCons (dVar 3) (dCons (dVar 4) dNil)))) (dRet (dTup (dCons (dVar 2) (dCons (dOp vAdd (dVar 5) (dSl vSl (dVar 3) (dPart (dCB vLen (dCons (dVar 4) dNil))) dNoPart)) dNil)))) dNext)
    (dRet (dC .non))))))
theorem rd_joined_ok : ∀ ds S P, (a2 sp_joined) ds S P → rd_joined (DEnds.of P) (dstart ["one", "other", "off", "on", "wanted", "put"] ds) S := by
  intro ds S P h
  rcases ds with _ | ⟨x, _ | ⟨y, _ | ⟨z, ds⟩⟩⟩ <;> first | exact (h : False).elim | skip
  simp only [a2, sp_joined] at h
  split at h
  · rename_i a b e1 e2
    obtain ⟨⟨a1, a2⟩, ⟨b1, b2⟩, q⟩ := h
    unfold Sm at a1 a2 b1 b2
    rw [asE_eq e1, asE_eq e2]
    unfold rd_joined
    walk_at "run"
    refine use_begins ?_
    unfold jn at q
    by_cases c1 : b.1.take a.2.length = a.2
    · walk_at "run"
      rw [if_pos c1] at q
      exact .of q
    · walk_at "run"
      refine use_begins ?_
      rw [if_neg c1] at q
      by_cases c2 : a.2.take b.1.length = b.1
      · walk_at "run"
        rw [if_pos c2] at q
        exact .of q
      · walk_at "run"
        rw [if_neg c2] at q
        exact .of q
  · exact h.elim
theorem use_joined {a b : Eff} {S : Sto} {Q : DK} (ha : SmE a) (hb : SmE b) (h : Q (oD (jn a b)) S) : sp_joined (.tup [.tup (a.1.map .int), .tup (a.2.map .int)]) (.tup [.tup (b.1.map .int), .tup (b.2.map .int)]) S Q := by
  simp only [sp_joined, asE_ef]
  exact ⟨ha, hb, h⟩
end L3

set_option Elab.async false
set_option maxRecDepth 100000
set_option linter.all false
set_option maxHeartbeats 4000000
namespace L3
open PySem L2
local macro_rules | `(tactic| walk_at "rd") => `(tactic| try simp only [dSeq, dAsg, dOp, dUn, dVar, dC, dCons, dNil, dTup, dLst, dLstM, dTest, dChain, dAnd, dOr, dNot, dAndV, dOrV, dNotV, dIfE, dCB, dCall, dSl, dPart, dNoPart, dIf, dRet, dRetN, dNext, dDrop, dTg, setAll, slot, dset, dwipe, dAug,
  a0, a1, a2, a3, a4, a5, a6, dLc, iTupD, iRange1, iRange2, dYes, dLM, dgSub, DEnds.of, dstart,
  vAt_some, vAtL_lst, vIx_tup, vIx_lst, vIx_ro, vIx_ref, vSl_tup, vSl_lst, vSl_ro, vSl_ref, vSlL_lst, vLen_tup, vLen_lst, vLen_ro, vLen_ref, vLenL_lst, vLenL_dK, vAdd_int, vAdd_tup, vAdd_lst, vAdd_ref, vAddL_lst, vSub_int, vLt_int, vLe_int, vGt_int, vGe_int, vMod_int, vDiv_int, vPow_int, vShl_int, vMul_int, vMul_tup, vMul_lst,
  vEq_int, vEq_str, vEq_bl, vEq_tup, vEq_lst, vNe_int, vNe_str, vNe_bl, vNe_tup, isN_non, isN_bl, isN_int, isN_str, isN_tup, isN_lst, isN_ref, vIs_non, vIsNot_non, vNeg_int, vInt_int, vInt_bl, vBool_int, vBool_bl, vAbs_int, vMin2_int, vMax2_int, vTuple_tup, vTuple_lst, vTuple_ref, vTupleL_lst, vList_tup, vList_lst,
  vAllO_some, vAll_x, vAny_x, seqOf_lst, vIsi_x, vIadd_int, vAppL_lst, vAppend_ref, vSetN_some, vSetO_lst, vSet_ref, isSeq_ref, ex_lst, all1,
  isiT_int_int, isiT_int_bool, isiT_int_tuple, isiT_int_str, isiT_int_list, isiT_bl_int, isiT_bl_bool, isiT_bl_tuple, isiT_bl_str, isiT_bl_list, isiT_non_int, isiT_non_bool, isiT_non_tuple, isiT_non_str, isiT_non_list, isiT_str_int, isiT_str_bool, isiT_str_tuple, isiT_str_str, isiT_str_list, isiT_tup_int, isiT_tup_bool, isiT_tup_tuple, isiT_tup_str, isiT_tup_list, isiT_lst_int, isiT_lst_bool, isiT_lst_tuple, isiT_lst_str, isiT_lst_list,
  Option.map_some, Option.bind_some, List.map_cons, List.map_nil, List.length_cons, List.length_nil, List.cons_append, List.nil_append, List.replicate, List.set, List.append_nil, atI_0, atI_1, atI_2, atI_3, atI_4, atI_5, List.length_map, Nat.zero_add, Nat.reduceAdd, Nat.reduceSub, Nat.reduceLeDiff, true_and, and_true, Bool.false_eq_true, if_true, if_false, decide_eq_true_eq, reduceIte, ite_true, ite_false,
  Bool.not_true, Bool.not_false, List.length_append, cut_from, cut_to, sup_same, sup_sup, Option.some.injEq, exists_eq_left', exists_eq_left])
local macro_rules | `(tactic| walk_at "side") => `(tactic| first | assumption | omega | (simp only [List.length_append, List.length_cons, List.length_nil, List.length_take, List.length_drop, List.length_map, List.length_reverse, sizeLine_val]; omega) | decide)
local macro_rules | `(tactic| walk_at "st") => `(tactic| first
  | with_reducible refine st_ix0 ?_ | with_reducible refine st_ix1 ?_ | with_reducible refine st_ix2 ?_ | with_reducible refine st_ix3 ?_ | with_reducible refine st_ix4 ?_
  | with_reducible refine st_add_pp (by walk_at "side") ?_ | with_reducible refine st_add_p1 (by walk_at "side") ?_ | with_reducible refine st_add_1p (by walk_at "side") ?_
  | with_reducible refine st_add ?_ | with_reducible refine st_sub ?_ | with_reducible refine st_iadd ?_ | with_reducible refine st_neg ?_
  | with_reducible refine st_len_p ?_ | with_reducible refine st_len_lp ?_ | with_reducible refine st_len_rp ?_ | with_reducible refine st_len_t ?_ | with_reducible refine st_len_l ?_
  | with_reducible refine st_add_t (by walk_at "side") ?_ | with_reducible refine st_add_l (by walk_at "side") ?_ | with_reducible refine st_add_s (by walk_at "side") ?_
  | with_reducible refine st_iteT ?_ | with_reducible refine st_iteF ?_ | with_reducible refine st_not ?_
  | with_reducible refine st_lt ?_ | with_reducible refine st_le ?_ | with_reducible refine st_gt ?_ | with_reducible refine st_ge ?_ | with_reducible refine st_eqi ?_ | with_reducible refine st_nei ?_ | with_reducible refine st_eqs ?_ | with_reducible refine st_nes ?_ | with_reducible refine st_eqb ?_
  | with_reducible refine st_isn_non ?_ | with_reducible refine st_isn_int ?_ | with_reducible refine st_isn_tup ?_ | with_reducible refine st_isn_str ?_ | with_reducible refine st_isn_bl ?_
  | with_reducible refine st_isnt_non ?_ | with_reducible refine st_isnt_int ?_ | with_reducible refine st_isnt_tup ?_ | with_reducible refine st_isnt_str ?_
  | with_reducible refine st_int ?_ | with_reducible refine st_intb ?_ | with_reducible refine st_abs ?_ | with_reducible refine st_min2 ?_ | with_reducible refine st_max2 ?_
  | with_reducible refine st_tup_l ?_ | with_reducible refine st_tup_t ?_ | with_reducible refine st_lst_t ?_ | with_reducible refine st_lst_l ?_
  | with_reducible refine st_sl_from ?_ | with_reducible refine st_sl_to ?_
  | with_reducible refine st_lx0 ?_ | with_reducible refine st_lx1 ?_ | with_reducible refine st_lx2 ?_ | with_reducible refine st_lx3 ?_
  | with_reducible refine st_mod (by walk_at "side") ?_ | with_reducible refine st_div (by walk_at "side") ?_ | with_reducible refine st_mul (by walk_at "side") ?_ | with_reducible refine st_mul' (by walk_at "side") ?_
  | with_reducible refine st_isi rfl ?_
  | (with_reducible refine And.intro (Nat.le_of_ble_eq_true rfl) ?_)
  | (refine And.intro (rfl : (_ : Nat) = _) ?_)
  | with_reducible refine st_dT (by omega) ?_ | with_reducible refine st_dF (by omega) ?_)
local macro_rules | `(tactic| walk_at "hd") => `(tactic| (with_reducible conv => whnf))
local macro_rules | `(tactic| walk_at "run") => `(tactic| ((with_reducible conv => whnf); repeat (walk_at "st"; (with_reducible conv => whnf))))
abbrev c_NO_EFFECT : D := .tup [.tup [], .tup []]
abbrev subT : Str → Str → Option Bool := subL [("Jam", "PileError", true), ("Jam", "Jam", true)]
/-! ### all_joined -/
def B (n : Nat) (e : Eff) : Prop := e.1.length ≤ n ∧ e.2.length ≤ n
theorem B.sm {n : Nat} {e : Eff} (h : B n e) (hn : n ≤ 100000) : SmE e := ⟨Nat.le_trans h.1 hn, Nat.le_trans h.2 hn⟩
theorem B.mono {n m : Nat} {e : Eff} (h : B n e) (hn : n ≤ m) : B m e := ⟨Nat.le_trans h.1 hn, Nat.le_trans h.2 hn⟩
abbrev efD (e : Eff) : D := .tup [.tup (e.1.map .int), .tup (e.2.map .int)]
theorem jn_B {n m : Nat} {a b c : Eff} (ha : B n a) (hb : B m b) (h : jn a b = some c) : B (n + m) c := by
  unfold jn at h
  obtain ⟨a1, a2⟩ := ha
  obtain ⟨b1, b2⟩ := hb
  split at h
  · cases h
    exact ⟨by simp only [List.length_append, List.length_drop]; omega, by show b.2.length ≤ _; omega⟩
  · split at h
    · cases h
      exact ⟨by show a.1.length ≤ _; omega, by simp only [List.length_append, List.length_drop]; omega⟩
    · cases h
def fold (es : List Eff) : Option Eff := es.foldl (fun o e => o.bind fun f => jn f e) (some ([], []))
theorem fold_snoc (es : List Eff) (e : Eff) : fold (es ++ [e]) = (fold es).bind fun f => jn f e := by
  unfold fold
  rw [List.foldl_append]
  rfl
theorem fold_B {n : Nat} : ∀ (k : Nat) (es : List Eff), es.length = k → (∀ e ∈ es, B n e) → ∀ f, fold es = some f → B (n * k) f
  | 0, es, hl, _, f, h => by
    have : es = [] := List.length_eq_zero_iff.mp hl
    subst this
    cases h
    exact ⟨Nat.zero_le _, Nat.zero_le _⟩
  | k + 1, es, hl, hb, f, h => by
    have ne : es ≠ [] := fun z => by subst z; simp at hl
    obtain ⟨r, e, rfl⟩ : ∃ r e, es = r ++ [e] := ⟨_, _, (List.dropLast_concat_getLast ne).symm⟩
    rw [fold_snoc] at h
    cases z : fold r with
    | none => rw [z] at h; cases h
    | some g =>
      rw [z] at h
      have := jn_B (fold_B k r (by simpa using hl) (fun e he => hb e (by simp [he])) g z) (hb e (by simp)) h
      rw [Nat.mul_succ]
      exact this
def Es (es : List Eff) : Prop := es.length ≤ 100 ∧ ∀ e ∈ es, B 900 e
theorem take_get {α : Type} {es : List α} {j : Nat} {e : α} (h : es[j]? = some e) : es.take (j + 1) = es.take j ++ [e] := by
  rw [List.take_add_one, h]
  rfl
theorem fold_take {es : List Eff} (h : Es es) (j : Nat) : ∀ f, fold (es.take j) = some f → SmE f := fun f e => by
  have := fold_B (n := 900) _ (es.take j) rfl (fun e he => h.2 e (List.mem_of_mem_take he)) f e
  have h1 := h.1
  have : (es.take j).length ≤ 100 := by rw [List.length_take]; omega
  refine B.sm ‹_› ?_
  calc 900 * (es.take j).length ≤ 900 * 100 := Nat.mul_le_mul_left _ this
    _ ≤ 100000 := by decide
def sp_all_joined (x : D) (S : Sto) (Q : DK) : Prop := ∃ es : List Eff, x = .tup (es.map efD) ∧ Es es ∧ Q (oD (fold es)) S
-- all_joined : 0=effects 1=found 2=effect
def rd_all_joined : DTS :=
    (dSeq (dAsg (dC c_NO_EFFECT) (dTg (.nm 1)))
    (dSeq (dFor (iTupD (dVar 0)) (dTg (.nm 2)) (dAsg (dIfE (dTest (dOp vIs (dVar 1) (dC .non))) (dC .non) (dCall (a2 sp_joined) (dCons (dVar 1) (dCons (dVar 2) dNil)))) (dTg (.nm 1))))
    (dRet (dVar 1))))
theorem rd_all_joined_ok : ∀ ds S P, (a1 sp_all_joined) ds S P → rd_all_joined (DEnds.of P) (dstart ["effects", "found", "effect"] ds) S := by
  intro ds S P h
  rcases ds with _ | ⟨x, _ | ⟨z, ds⟩⟩ <;> first | exact (h : False).elim | skip
  obtain ⟨es, rfl, he, q⟩ := (h : sp_all_joined x S P)
  unfold rd_all_joined
  walk_at "run"
  refine forL_inv (fun i δ S' => S' = S ∧ ∃ x, δ = [some (.tup (es.map efD)), some (oD (fold (es.take i))), x]) (fun _ _ _ _ => True.intro) _ 0 _ _ ⟨rfl, none, rfl⟩ ?_ ?_
  · rintro j d _ _ hj ⟨rfl, x, rfl⟩ D2 hrt _ hnx _
    rw [List.getElem?_map] at hj
    cases g : es[j]? with
    | none => rw [g] at hj; cases hj
    | some e =>
      rw [g] at hj
      cases hj
      rw [Nat.zero_add]
      have st : fold (es.take (0 + j + 1)) = (fold (es.take j)).bind fun f => jn f e := by rw [Nat.zero_add, take_get g, fold_snoc]
      have sm := fold_take he j
      cases k : fold (es.take j) with
      | none =>
        rw [k] at st
        walk_at "run"
        exact hnx _ _ ⟨rfl, _, by rw [st]; rfl⟩
      | some f =>
        rw [k] at st
        walk_at "run"
        refine use_joined (sm f k) (B.sm (he.2 e (List.mem_of_getElem? g)) (by decide)) ?_
        exact hnx _ _ ⟨rfl, _, by rw [st]; rfl⟩
  · rintro _ _ ⟨rfl, x, rfl⟩
    walk_at "run"
    rw [Nat.zero_add, List.length_map, List.take_length]
    exact .of q
theorem use_all_joined {es : List Eff} {S : Sto} {Q : DK} (h : Es es) (q : Q (oD (fold es)) S) : sp_all_joined (.tup (es.map efD)) S Q := ⟨es, rfl, h, q⟩
/-! ### extended, height, goes_through -/
def sp_extended (x y : D) (S : Sto) (Q : DK) : Prop := match asE x, asP y with
  | some a, some p => SmE a ∧ Sm p ∧ Q (efD (a.1 ++ p, a.2 ++ p)) S
  | _, _ => False
-- extended : 0=effect 1=pile
def rd_extended : DTS :=
    (dRet (dTup (dCons (dOp vAdd (dOp vIx (dVar 0) (dC (.int 0))) (dVar 1)) (dCons (dOp vAdd (dOp vIx (dVar 0) (dC (.int 1))) (dVar 1)) dNil))))
theorem rd_extended_ok : ∀ ds S P, (a2 sp_extended) ds S P → rd_extended (DEnds.of P) (dstart ["effect", "pile"] ds) S := by
  intro ds S P h
  rcases ds with _ | ⟨x, _ | ⟨y, _ | ⟨z, ds⟩⟩⟩ <;> first | exact (h : False).elim | skip
  simp only [a2, sp_extended] at h
  split at h
  · rename_i a p e1 e2
    obtain ⟨⟨h1, h2⟩, h3, q⟩ := h
    unfold Sm at h1 h2 h3
    rw [asE_eq e1, asP_eq e2]
    unfold rd_extended
    walk_at "run"
    exact .of q
  · exact h.elim
def sp_height (x : D) (S : Sto) (Q : DK) : Prop := match asE x with
  | some a => Q (.int ((a.2.length : Int) - a.1.length)) S
  | _ => False
-- height : 0=effect
def rd_height : DTS :=
    (dRet (dOp vSub (dCB vLen (dCons (dOp vIx (dVar 0) (dC (.int 1))) dNil)) (dCB vLen (dCons (dOp vIx (dVar 0) (dC (.int 0))) dNil))))
theorem rd_height_ok : ∀ ds S P, (a1 sp_height) ds S P → rd_height (DEnds.of P) (dstart ["effect"] ds) S := by
  intro ds S P h
  rcases ds with _ | ⟨x, _ | ⟨z, ds⟩⟩ <;> first | exact (h : False).elim | skip
  simp only [a1, sp_height] at h
  split at h
  · rename_i a e1
    rw [asE_eq e1]
    unfold rd_height
    walk_at "run"
    exact .of h
  · exact h.elim
def sp_goes_through (x y : D) (S : Sto) (Q : DK) : Prop := match asP x, asE y with
  | some p, some e => Q (.bl (decide (p.take e.1.length = e.1))) S
  | _, _ => False
-- goes_through : 0=pile 1=effect
def rd_goes_through : DTS :=
    (dRet (dCall (a2 sp_begins) (dCons (dVar 0) (dCons (dOp vIx (dVar 1) (dC (.int 0))) dNil))))
theorem rd_goes_through_ok : ∀ ds S P, (a2 sp_goes_through) ds S P → rd_goes_through (DEnds.of P) (dstart ["pile", "effect"] ds) S := by
  intro ds S P h
  rcases ds with _ | ⟨x, _ | ⟨y, _ | ⟨z, ds⟩⟩⟩ <;> first | exact (h : False).elim | skip
  simp only [a2, sp_goes_through] at h
  split at h
  · rename_i p e e1 e2
    rw [asE_eq e2, asP_eq e1]
    unfold rd_goes_through
    walk_at "run"
    refine use_begins ?_
    exact .of h
  · exact h.elim
/-! ### after -/
theorem st_ixm {p : List Int} {m : Nat} {v : Int} {S : Sto} {Q : DK} (e : p[m]? = some v) (h : Q (.int v) S) : vIx (.tup (p.map .int)) (.int (m : Nat)) S Q := by
  rw [vIx_tup, atI_nat, List.getElem?_map, e]
  exact h
def cpl : List Int → List Int → Nat
  | a :: p, b :: q => if a = b then cpl p q + 1 else 0
  | _, _ => 0
theorem cpl_step : ∀ (p q : List Int) (m : Nat), m ≤ cpl p q → ((m < cpl p q) ↔ (m < p.length ∧ m < q.length ∧ p[m]? = q[m]?))
  | [], q, m, h => by simp [cpl]
  | a :: p, [], m, h => by simp [cpl]
  | a :: p, b :: q, 0, h => by
    simp only [cpl]
    by_cases e : a = b
    · subst e; simp
    · simp [e]
  | a :: p, b :: q, m + 1, h => by
    simp only [cpl] at h ⊢
    by_cases e : a = b
    · rw [if_pos e] at h ⊢
      have := cpl_step p q m (by omega)
      simp only [List.length_cons, List.getElem?_cons_succ]
      rw [show (m + 1 < cpl p q + 1) ↔ m < cpl p q by omega, this]
      exact ⟨fun ⟨a, b, c⟩ => ⟨by omega, by omega, c⟩, fun ⟨a, b, c⟩ => ⟨by omega, by omega, c⟩⟩
    · rw [if_neg e] at h
      omega
theorem cpl_le : ∀ (p q : List Int), cpl p q ≤ p.length ∧ cpl p q ≤ q.length
  | [], q => by simp [cpl]
  | a :: p, [] => by simp [cpl]
  | a :: p, b :: q => by
    have := cpl_le p q
    simp only [cpl]
    split <;> simp <;> omega
theorem cpl_all : ∀ (p q : List Int), (q.take p.length = p) ↔ cpl p q = p.length
  | [], q => by simp [cpl]
  | a :: p, [] => by simp [cpl]
  | a :: p, b :: q => by
    have := cpl_all p q
    simp only [cpl, List.length_cons, List.take_succ_cons, List.cons.injEq]
    by_cases e : a = b
    · subst e; simp [this]
    · rw [if_neg e]
      constructor
      · rintro ⟨z, _⟩; exact absurd z.symm e
      · intro z; omega
def sp_after (x y : D) (S : Sto) (Q : DK) (E : DXK) : Prop := match asP x, asE y with
  | some p, some e => Sm p ∧ SmE e ∧ (cpl e.1 p = e.1.length → Q (.tup ((e.2 ++ p.drop e.1.length).map .int)) S) ∧ (cpl e.1 p ≠ e.1.length → E "Jam" [("place", .int (cpl e.1 p : Nat))] S)
  | _, _ => False
-- after : 0=pile 1=effect 2=off 3=on 4=place
def rd_after (PX : DWX) : DTS :=
    (dSeq (dAsg (dVar 1) (dTg (.tp [2, 3])))
    (dSeq (dAsg (dC (.int 0)) (dTg (.nm 4)))
    (dSeq (dWhile (dTest (dOp vLt (dVar 4) (dCB vLen (dCons (dVar 2) dNil)))) (dSeq (dIf (dOr (dTest (dOp vEq (dVar 4) (dCB vLen (dCons (dVar 0) dNil)))) (dTest (dOp vNe (dOp vIx (dVar 0) (dVar 4)) (dOp vIx (dVar 2) (dVar 4))))) (dRaise "Jam" ["place"] PX (dCons (dVar 4) dNil)) dNext)
    (dAug 4 (dC (.int 1)) vIadd)))
    (dRet (dOp vAdd (dVar 3) (dSl vSl (dVar 0) (dPart (dVar 4)) dNoPart))))))
theorem rd_after_ok : ∀ ds S P PX, x2 sp_after ds S P PX → rd_after (fun x fs _ S' => PX x fs S') (DEnds.of P) (dstart ["pile", "effect", "off", "on", "place"] ds) S := by
  intro ds S P PX h
  rcases ds with _ | ⟨x, _ | ⟨y, _ | ⟨z, ds⟩⟩⟩ <;> first | exact (h : False).elim | skip
  simp only [x2, sp_after] at h
  split at h
  · rename_i p e e1 e2
    obtain ⟨h1, ⟨h2, h3⟩, q1, q2⟩ := h
    unfold Sm at h1 h2 h3
    rw [asE_eq e2, asP_eq e1]
    unfold rd_after
    walk_at "run"
    obtain ⟨l1, l2⟩ := cpl_le e.1 p
    refine ⟨cpl e.1 p + 1, whileN_inv (fun n δ S' => S' = S ∧ ∃ m : Nat, m + n = cpl e.1 p ∧ δ = [some (.tup (p.map .int)), some (efD e), some (.tup (e.1.map .int)), some (.tup (e.2.map .int)), some (.int m)]) ?_ _ _ _ ⟨rfl, 0, by omega, rfl⟩⟩
    rintro n _ _ ⟨rfl, m, hm, rfl⟩ D2 hrt _ hnx _
    have hst := cpl_step e.1 p m (by omega)
    by_cases c1 : m < e.1.length
    · walk_at "run"
      by_cases c2 : m = p.length
      · walk_at "run"
        have em : cpl e.1 p = m := by omega
        show PX "Jam" [("place", .int (m : Nat))] _
        rw [← em]
        exact q2 (by omega)
      · have c3 : m < p.length := by omega
        walk_at "run"
        refine st_ixm (List.getElem?_eq_getElem c3) ?_
        walk_at "run"
        refine st_ixm (List.getElem?_eq_getElem c1) ?_
        walk_at "run"
        rw [List.getElem?_eq_getElem c3, List.getElem?_eq_getElem c1] at hst
        by_cases c4 : p[m] = e.1[m]
        · walk_at "run"
          have : m < cpl e.1 p := hst.mpr ⟨c1, c3, by rw [c4]⟩
          obtain ⟨k, rfl⟩ : ∃ k, n = k + 1 := ⟨n - 1, by omega⟩
          exact hnx k _ _ rfl ⟨rfl, m + 1, by omega, rfl⟩
        · walk_at "run"
          have em : cpl e.1 p = m := by
            have : ¬ m < cpl e.1 p := fun z => c4 (by have := (hst.mp z).2.2; simpa using this.symm)
            omega
          show PX "Jam" [("place", .int (m : Nat))] _
          rw [← em]
          exact q2 (by omega)
    · walk_at "run"
      have em : cpl e.1 p = m := by omega
      have em2 : m = e.1.length := by omega
      subst em2
      walk_at "run"
      exact .of (q1 em)
  · exact h.elim
/-! ### net_effect -/
/-- without the common end -/
def nt (e : Eff) : Eff := (e.1.take (e.1.length - cpl e.1.reverse e.2.reverse), e.2.take (e.2.length - cpl e.1.reverse e.2.reverse))
def sp_net_effect (x : D) (S : Sto) (Q : DK) : Prop := match asE x with
  | some e => Q (efD (nt e)) S
  | _ => False
-- net_effect : 0=effect 1=off 2=on 3=many
def rd_net_effect : DTS :=
    (dSeq (dAsg (dVar 0) (dTg (.tp [1, 2])))
    (dSeq (dAsg (dC (.int 0)) (dTg (.nm 3)))
    (dSeq (dWhile (dAnd (dTest (dOp vLt (dVar 3) (dCB vMin2 (dCons (dCB vLen (dCons (dVar 1) dNil)) (dCons (dCB vLen (dCons (dVar 2) dNil)) dNil))))) (dTest (dOp vEq (dOp vIx (dVar 1) (dOp vSub (dOp vSub (dCB vLen (dCons (dVar 1) dNil)) (dC (.int 1))) (dVar 3))) (dOp vIx (dVar 2) (dOp vSub (dOp vSub (dCB vLen (dCons (dVar 2) dNil)) (dC (.int 1))) (dVar 3)))))) (dAug 3 (dC (.int 1)) vIadd))
    (dRet (dTup (dCons (dSl vSl (dVar 1) dNoPart (dPart (dOp vSub (dCB vLen (dCons (dVar 1) dNil)) (dVar 3)))) (dCons (dSl vSl (dVar 2) dNoPart (dPart (dOp vSub (dCB vLen (dCons (dVar 2) dNil)) (dVar 3)))) dNil)))))))
theorem atI_back (p : List Int) (m : Nat) (h : m < p.length) : ∃ v, p.reverse[m]? = some v ∧ atI (p.map D.int) ((p.length : Int) - 1 - (m : Int)) = some (.int v) := by
  refine ⟨p[p.length - 1 - m], ?_, ?_⟩
  · rw [List.getElem?_reverse h, List.getElem?_eq_getElem]
  · rw [show ((p.length : Int) - 1 - (m : Int)) = ((p.length - 1 - m : Nat) : Int) by omega, atI_nat, List.getElem?_map, List.getElem?_eq_getElem (by omega)]
    rfl
theorem st_back {p : List Int} {m : Nat} {v : Int} {S : Sto} {Q : DK} (e : atI (p.map D.int) ((p.length : Int) - 1 - (m : Int)) = some (.int v)) (h : Q (.int v) S) : vIx (.tup (p.map .int)) (.int ((p.length : Int) - 1 - (m : Int))) S Q := by
  rw [vIx_tup, e]
  exact h
theorem st_sl_toZ {p : List Int} {k : Int} {n : Nat} {S : Sto} {Q : DK} (e : k = (n : Int)) (h : Q (.tup ((p.take n).map .int)) S) : vSl (.tup (p.map .int)) none (some k) S Q := by
  subst e
  exact st_sl_to h
theorem rd_net_effect_ok : ∀ ds S P, (a1 sp_net_effect) ds S P → rd_net_effect (DEnds.of P) (dstart ["effect", "off", "on", "many"] ds) S := by
  intro ds S P h
  rcases ds with _ | ⟨x, _ | ⟨z, ds⟩⟩ <;> first | exact (h : False).elim | skip
  simp only [a1, sp_net_effect] at h
  split at h
  · rename_i e e1
    rw [asE_eq e1]
    obtain ⟨p, q⟩ := e
    unfold rd_net_effect
    walk_at "run"
    obtain ⟨l1, l2⟩ := cpl_le p.reverse q.reverse
    rw [List.length_reverse] at l1 l2
    have fin : Fin_ P (efD (nt (p, q))) S := .of h
    refine ⟨cpl p.reverse q.reverse + 1, whileN_inv (fun n δ S' => S' = S ∧ ∃ m : Nat, m + n = cpl p.reverse q.reverse ∧ δ = [some (efD (p, q)), some (.tup (p.map .int)), some (.tup (q.map .int)), some (.int m)]) ?_ _ _ _ ⟨rfl, 0, by omega, rfl⟩⟩
    rintro n _ _ ⟨rfl, m, hm, rfl⟩ D2 hrt _ hnx _
    have hst := cpl_step p.reverse q.reverse m (by omega)
    rw [List.length_reverse, List.length_reverse] at hst
    walk_at "run"
    by_cases hlt : m < p.length ∧ m < q.length
    · obtain ⟨v, v1, v2⟩ := atI_back p m hlt.1
      obtain ⟨w, w1, w2⟩ := atI_back q m hlt.2
      have c1 : (m : Int) < if (q.length : Int) < (p.length : Int) then (q.length : Int) else (p.length : Int) := by split <;> omega
      rw [decide_eq_true c1]
      walk_at "run"
      refine st_back v2 ?_
      walk_at "run"
      refine st_back w2 ?_
      walk_at "run"
      rw [v1, w1] at hst
      by_cases e : v = w
      · rw [decide_eq_true e]
        walk_at "run"
        have : m < cpl p.reverse q.reverse := hst.mpr ⟨hlt.1, hlt.2, by rw [e]⟩
        obtain ⟨k, rfl⟩ : ∃ k, n = k + 1 := ⟨n - 1, by omega⟩
        exact hnx k _ _ rfl ⟨rfl, m + 1, by omega, rfl⟩
      · rw [decide_eq_false e]
        walk_at "run"
        have em : cpl p.reverse q.reverse = m := by
          have : ¬ m < cpl p.reverse q.reverse := fun z => e (by have := (hst.mp z).2.2; simpa using this)
          omega
        refine st_sl_toZ (n := p.length - m) (by omega) ?_
        walk_at "run"
        refine st_sl_toZ (n := q.length - m) (by omega) ?_
        walk_at "run"
        have := fin
        unfold nt at this
        rw [em] at this
        exact this
    · have c1 : ¬ (m : Int) < if (q.length : Int) < (p.length : Int) then (q.length : Int) else (p.length : Int) := by split <;> omega
      rw [decide_eq_false c1]
      walk_at "run"
      have em : cpl p.reverse q.reverse = m := by omega
      refine st_sl_toZ (n := p.length - m) (by omega) ?_
      walk_at "run"
      refine st_sl_toZ (n := q.length - m) (by omega) ?_
      walk_at "run"
      have := fin
      unfold nt at this
      rw [em] at this
      exact this
  · exact h.elim
/-! ### is_extended, are_alike -/
def isExt (a b : Eff) : Bool := decide (a = (b.1 ++ a.1.drop b.1.length, b.2 ++ a.1.drop b.1.length))
def sp_is_extended (x y : D) (S : Sto) (Q : DK) : Prop := match asE x, asE y with
  | some a, some b => SmE a ∧ SmE b ∧ Q (.bl (isExt a b)) S
  | _, _ => False
-- is_extended : 0=one 1=other 2=many 3=pile
def rd_is_extended : DTS :=
    (dSeq (dAsg (dOp vSub (dCB vLen (dCons (dOp vIx (dVar 0) (dC (.int 0))) dNil)) (dCB vLen (dCons (dOp vIx (dVar 1) (dC (.int 0))) dNil))) (dTg (.nm 2)))
    (dSeq (dIf (dOr (dTest (dOp vLt (dVar 2) (dC (.int 0)))) (dTest (dOp vNe (dOp vSub (dCB vLen (dCons (dOp vIx (dVar 0) (dC (.int 1))) dNil)) (dCB vLen (dCons (dOp vIx (dVar 1) (dC (.int 1))) dNil))) (dVar 2)))) (dRet (dC (.bl false))) dNext)
    (dSeq (dAsg (dSl vSl (dOp vIx (dVar 0) (dC (.int 0))) (dPart (dCB vLen (dCons (dOp vIx (dVar 1) (dC (.int 0))) dNil))) dNoPart) (dTg (.nm 3)))
    (dRet (dOp vEq (dVar 0) (dTup (dCons (dOp vAdd (dOp vIx (dVar 1) (dC (.int 0))) (dVar 3)) (dCons (dOp vAdd (dOp vIx (dVar 1) (dC (.int 1))) (dVar 3)) dNil))))))))
theorem rd_is_extended_ok : ∀ ds S P, (a2 sp_is_extended) ds S P → rd_is_extended (DEnds.of P) (dstart ["one", "other", "many", "pile"] ds) S := by
  intro ds S P h
  rcases ds with _ | ⟨x, _ | ⟨y, _ | ⟨z, ds⟩⟩⟩ <;> first | exact (h : False).elim | skip
  simp only [a2, sp_is_extended] at h
  split at h
  · rename_i a b e1 e2
    obtain ⟨⟨ha1, ha2⟩, ⟨hb1, hb2⟩, q⟩ := h
    unfold Sm at ha1 ha2 hb1 hb2
    rw [asE_eq e1, asE_eq e2]
    unfold rd_is_extended
    walk_at "run"
    have e0 : ∀ c : Bool, isExt a b = c → P (.bl c) S := fun c h => by rw [← h]; exact q
    by_cases h1 : (a.1.length : Int) - b.1.length < 0
    · walk_at "run"
      refine .of (e0 _ (decide_eq_false fun z => ?_))
      have z1 := congrArg (fun t => t.1.length) z
      simp only [List.length_append, List.length_drop] at z1
      omega
    · walk_at "run"
      by_cases h2 : (a.2.length : Int) - b.2.length = a.1.length - b.1.length
      · walk_at "run"
        refine st_eq_ee ?_
        exact .of (e0 _ rfl)
      · walk_at "run"
        refine .of (e0 _ (decide_eq_false fun z => ?_))
        have z1 := congrArg (fun t => t.1.length) z
        have z2 := congrArg (fun t => t.2.length) z
        simp only [List.length_append, List.length_drop] at z1 z2
        omega
  · exact h.elim
theorem use_ext {a b : Eff} {S : Sto} {Q : DK} (ha : SmE a) (hb : SmE b) (h : Q (.bl (isExt a b)) S) : sp_is_extended (efD a) (efD b) S Q := by
  simp only [sp_is_extended, efD, asE_ef]
  exact ⟨ha, hb, h⟩
def sp_are_alike (x y : D) (S : Sto) (Q : DK) : Prop := match asE x, asE y with
  | some a, some b => SmE a ∧ SmE b ∧ Q (.bl (isExt a b || isExt b a)) S
  | _, _ => False
-- are_alike : 0=one 1=other
def rd_are_alike : DTS :=
    (dRet (dOrV (dCall (a2 sp_is_extended) (dCons (dVar 0) (dCons (dVar 1) dNil))) (dCall (a2 sp_is_extended) (dCons (dVar 1) (dCons (dVar 0) dNil)))))
theorem rd_are_alike_ok : ∀ ds S P, (a2 sp_are_alike) ds S P → rd_are_alike (DEnds.of P) (dstart ["one", "other"] ds) S := by
  intro ds S P h
  rcases ds with _ | ⟨x, _ | ⟨y, _ | ⟨z, ds⟩⟩⟩ <;> first | exact (h : False).elim | skip
  simp only [a2, sp_are_alike] at h
  split at h
  · rename_i a b e1 e2
    obtain ⟨ha, hb, q⟩ := h
    rw [asE_eq e1, asE_eq e2]
    unfold rd_are_alike
    walk_at "run"
    refine use_ext ha hb ?_
    cases e : isExt a b with
    | true =>
      rw [e, Bool.true_or] at q
      walk_at "run"
      exact .of q
    | false =>
      rw [e, Bool.false_or] at q
      walk_at "run"
      refine use_ext hb ha ?_
      exact .of q
  · exact h.elim
end L3

set_option Elab.async false
set_option maxRecDepth 100000
set_option linter.all false
set_option maxHeartbeats 4000000
namespace L3
open PySem L2
local macro_rules | `(tactic| walk_at "rd") => `(tactic| try simp only [dSeq, dAsg, dOp, dUn, dVar, dC, dCons, dNil, dTup, dLst, dLstM, dTest, dChain, dAnd, dOr, dNot, dAndV, dOrV, dNotV, dIfE, dCB, dCall, dSl, dPart, dNoPart, dIf, dRet, dRetN, dNext, dDrop, dTg, setAll, slot, dset, dwipe, dAug,
  a0, a1, a2, a3, a4, a5, a6, dLc, iTupD, iRange1, iRange2, dYes, dLM, dgSub, DEnds.of, dstart,
  vAt_some, vAtL_lst, vIx_tup, vIx_lst, vIx_ro, vIx_ref, vSl_tup, vSl_lst, vSl_ro, vSl_ref, vSlL_lst, vLen_tup, vLen_lst, vLen_ro, vLen_ref, vLenL_lst, vLenL_dK, vAdd_int, vAdd_tup, vAdd_lst, vAdd_ref, vAddL_lst, vSub_int, vLt_int, vLe_int, vGt_int, vGe_int, vMod_int, vDiv_int, vPow_int, vShl_int, vMul_int, vMul_tup, vMul_lst,
  vEq_int, vEq_str, vEq_bl, vEq_tup, vEq_lst, vNe_int, vNe_str, vNe_bl, vNe_tup, isN_non, isN_bl, isN_int, isN_str, isN_tup, isN_lst, isN_ref, vIs_non, vIsNot_non, vNeg_int, vInt_int, vInt_bl, vBool_int, vBool_bl, vAbs_int, vMin2_int, vMax2_int, vTuple_tup, vTuple_lst, vTuple_ref, vTupleL_lst, vList_tup, vList_lst,
  vAllO_some, vAll_x, vAny_x, seqOf_lst, vIsi_x, vIadd_int, vAppL_lst, vAppend_ref, vSetN_some, vSetO_lst, vSet_ref, isSeq_ref, ex_lst, all1,
  isiT_int_int, isiT_int_bool, isiT_int_tuple, isiT_int_str, isiT_int_list, isiT_bl_int, isiT_bl_bool, isiT_bl_tuple, isiT_bl_str, isiT_bl_list, isiT_non_int, isiT_non_bool, isiT_non_tuple, isiT_non_str, isiT_non_list, isiT_str_int, isiT_str_bool, isiT_str_tuple, isiT_str_str, isiT_str_list, isiT_tup_int, isiT_tup_bool, isiT_tup_tuple, isiT_tup_str, isiT_tup_list, isiT_lst_int, isiT_lst_bool, isiT_lst_tuple, isiT_lst_str, isiT_lst_list,
  Option.map_some, Option.bind_some, List.map_cons, List.map_nil, List.length_cons, List.length_nil, List.cons_append, List.nil_append, List.replicate, List.set, List.append_nil, atI_0, atI_1, atI_2, atI_3, atI_4, atI_5, List.length_map, Nat.zero_add, Nat.reduceAdd, Nat.reduceSub, Nat.reduceLeDiff, true_and, and_true, Bool.false_eq_true, if_true, if_false, decide_eq_true_eq, reduceIte, ite_true, ite_false,
  Bool.not_true, Bool.not_false, List.length_append, cut_from, cut_to, sup_same, sup_sup, Option.some.injEq, exists_eq_left', exists_eq_left])
local macro_rules | `(tactic| walk_at "side") => `(tactic| first | assumption | omega | (simp only [List.length_append, List.length_cons, List.length_nil, List.length_take, List.length_drop, List.length_map, List.length_reverse, sizeLine_val]; omega) | decide)
local macro_rules | `(tactic| walk_at "st") => `(tactic| first
  | with_reducible refine st_ix0 ?_ | with_reducible refine st_ix1 ?_ | with_reducible refine st_ix2 ?_ | with_reducible refine st_ix3 ?_ | with_reducible refine st_ix4 ?_
  | with_reducible refine st_add_pp (by walk_at "side") ?_ | with_reducible refine st_add_p1 (by walk_at "side") ?_ | with_reducible refine st_add_1p (by walk_at "side") ?_
  | with_reducible refine st_add ?_ | with_reducible refine st_sub ?_ | with_reducible refine st_iadd ?_ | with_reducible refine st_neg ?_
  | with_reducible refine st_len_p ?_ | with_reducible refine st_len_lp ?_ | with_reducible refine st_len_rp ?_ | with_reducible refine st_len_t ?_ | with_reducible refine st_len_l ?_
  | with_reducible refine st_add_t (by walk_at "side") ?_ | with_reducible refine st_add_l (by walk_at "side") ?_ | with_reducible refine st_add_s (by walk_at "side") ?_
  | with_reducible refine st_iteT ?_ | with_reducible refine st_iteF ?_ | with_reducible refine st_not ?_
  | with_reducible refine st_lt ?_ | with_reducible refine st_le ?_ | with_reducible refine st_gt ?_ | with_reducible refine st_ge ?_ | with_reducible refine st_eqi ?_ | with_reducible refine st_nei ?_ | with_reducible refine st_eqs ?_ | with_reducible refine st_nes ?_ | with_reducible refine st_eqb ?_
  | with_reducible refine st_isn_non ?_ | with_reducible refine st_isn_int ?_ | with_reducible refine st_isn_tup ?_ | with_reducible refine st_isn_str ?_ | with_reducible refine st_isn_bl ?_
  | with_reducible refine st_isnt_non ?_ | with_reducible refine st_isnt_int ?_ | with_reducible refine st_isnt_tup ?_ | with_reducible refine st_isnt_str ?_
  | with_reducible refine st_int ?_ | with_reducible refine st_intb ?_ | with_reducible refine st_abs ?_ | with_reducible refine st_min2 ?_ | with_reducible refine st_max2 ?_
  | with_reducible refine st_tup_l ?_ | with_reducible refine st_tup_t ?_ | with_reducible refine st_lst_t ?_ | with_reducible refine st_lst_l ?_
  | with_reducible refine st_sl_from ?_ | with_reducible refine st_sl_to ?_
  | with_reducible refine st_lx0 ?_ | with_reducible refine st_lx1 ?_ | with_reducible refine st_lx2 ?_ | with_reducible refine st_lx3 ?_
  | with_reducible refine st_mod (by walk_at "side") ?_ | with_reducible refine st_div (by walk_at "side") ?_ | with_reducible refine st_mul (by walk_at "side") ?_ | with_reducible refine st_mul' (by walk_at "side") ?_
  | with_reducible refine st_isi rfl ?_
  | (with_reducible refine And.intro (Nat.le_of_ble_eq_true rfl) ?_)
  | (refine And.intro (rfl : (_ : Nat) = _) ?_)
  | with_reducible refine st_dT (by omega) ?_ | with_reducible refine st_dF (by omega) ?_)
local macro_rules | `(tactic| walk_at "hd") => `(tactic| (with_reducible conv => whnf))
local macro_rules | `(tactic| walk_at "run") => `(tactic| ((with_reducible conv => whnf); repeat (walk_at "st"; (with_reducible conv => whnf))))
/-! ### the law's own: same -/
mutual
def dueOk : Nat → D → Bool
  | _, .non => true
  | _, .bl _ => true
  | _, .int _ => true
  | n + 1, .tup ds => dueOks n ds && decide (ds.length ≤ 1000000)
  | _, _ => false
def dueOks : Nat → List D → Bool
  | _, [] => true
  | n, d :: ds => dueOk n d && dueOks n ds
end
theorem dueOks_get : ∀ {n : Nat} {ds : List D} {i : Nat} {d : D}, dueOks n ds = true → ds[i]? = some d → dueOk n d = true
  | _, [], _, _, _, e => by simp at e
  | n, x :: r, 0, d, h, e => by simp at e; subst e; simp only [dueOks, Bool.and_eq_true] at h; exact h.1
  | n, x :: r, i + 1, d, h, e => by simp only [dueOks, Bool.and_eq_true] at h; exact dueOks_get h.2 (by simpa using e)
theorem st_ixt {ds : List D} {m : Nat} {v : D} {S : Sto} {Q : DK} (e : ds[m]? = some v) (h : Q v S) : vIx (.tup ds) (.int (m : Nat)) S Q := by
  rw [vIx_tup, atI_nat, e]
  exact h
def sp_same (n : Nat) (told due : D) (S : Sto) (Q : DK) : Prop := told = due ∧ dueOk n due = true ∧ Q (.bl true) S
def sp_law_same := sp_same 6
-- _law_same : 0=told 1=due 2=at
def rd_law_same (spr : DSp) : DTS :=
    (dSeq (dIf (dTest (dOp vIs (dVar 1) (dC .non))) (dRet (dOp vIs (dVar 0) (dC .non))) dNext)
    (dSeq (dIf (dTest (dCB vIsi (dCons (dVar 1) (dCons (dC (.ty "bool")) dNil)))) (dRet (dAndV (dCB vIsi (dCons (dVar 0) (dCons (dC (.ty "bool")) dNil))) (dOp vEq (dVar 0) (dVar 1)))) dNext)
    (dSeq (dIf (dTest (dCB vIsi (dCons (dVar 1) (dCons (dC (.ty "tuple")) dNil)))) (dSeq (dIf (dOr (dNot (dTest (dCB vIsi (dCons (dVar 0) (dCons (dC (.ty "tuple")) dNil))))) (dTest (dOp vNe (dCB vLen (dCons (dVar 0) dNil)) (dCB vLen (dCons (dVar 1) dNil))))) (dRet (dC (.bl false))) dNext)
    (dSeq (dFor (iRange1 (dCB vLen (dCons (dVar 1) dNil))) (dTg (.nm 2)) (dIf (dNot (dTest (dCall spr (dCons (dOp vIx (dVar 0) (dVar 2)) (dCons (dOp vIx (dVar 1) (dVar 2)) dNil))))) (dRet (dC (.bl false))) dNext))
    (dRet (dC (.bl true))))) dNext)
    (dRet (dAndV (dCB vIsi (dCons (dVar 0) (dCons (dC (.ty "int")) dNil))) (dAndV (dNotV (dCB vIsi (dCons (dVar 0) (dCons (dC (.ty "bool")) dNil)))) (dOp vEq (dVar 0) (dVar 1))))))))
theorem rd_law_same_ok (n : Nat) (spr : DSp) (hs : ∀ m, n = m + 1 → spr = a2 (sp_same m)) : ∀ ds S P, (a2 (sp_same n)) ds S P → rd_law_same spr (DEnds.of P) (dstart ["told", "due", "at"] ds) S := by
  intro ds S P h
  rcases ds with _ | ⟨told, _ | ⟨due, _ | ⟨z, ds⟩⟩⟩ <;> first | exact (h : False).elim | skip
  obtain ⟨h1, h2, h3⟩ := (h : sp_same n told due S P)
  subst h1
  unfold rd_law_same
  cases told <;> first | (simp [dueOk] at h2; done) | skip
  · walk_at "run"
    exact .of h3
  · walk_at "rd"
    simp only [decide_true]
    exact .of h3
  · walk_at "rd"
    simp only [decide_true]
    exact .of h3
  · rename_i ds
    rcases n with _ | n
    · simp [dueOk] at h2
    rw [hs n rfl]
    simp only [dueOk, Bool.and_eq_true, decide_eq_true_eq] at h2
    walk_at "run"
    refine ⟨by omega, by omega, ?_⟩
    refine forL_inv (fun i δ S' => S' = S ∧ ∃ x, δ = [some (.tup ds), some (.tup ds), x]) (fun _ _ _ _ => True.intro) _ 0 _ _ ⟨rfl, none, rfl⟩ ?_ ?_
    · rintro j d _ _ hj ⟨rfl, x, rfl⟩ D2 hrt _ hnx _
      have hjn : j < ds.length := by
        have := (List.getElem?_eq_some_iff.mp hj).1
        simp [rngD] at this
        exact this
      have ed : d = .int (j : Nat) := by
        simp only [rngD, List.getElem?_map, Int.toNat_natCast] at hj
        rw [List.getElem?_range hjn] at hj
        simp at hj
        exact hj.symm
      subst ed
      have g2 : ds[j]? = some ds[j] := List.getElem?_eq_getElem (by omega)
      walk_at "run"
      refine st_ixt g2 ?_
      walk_at "run"
      refine st_ixt g2 ?_
      walk_at "run"
      refine (show ∀ {d : D} {S : Sto} {Q : DK}, dueOk n d = true → Q (.bl true) S → sp_same n d d S Q from fun a b => ⟨rfl, a, b⟩) (dueOks_get h2.1 g2) ?_
      walk_at "run"
      exact hnx _ _ ⟨rfl, _, rfl⟩
    · rintro _ _ ⟨rfl, x, rfl⟩
      walk_at "run"
      exact .of h3
theorem use_same {told due : D} {S : Sto} {Q : DK} (e : told = due) (h2 : dueOk 6 due = true) (q : Q (.bl true) S) : sp_law_same told due S Q := ⟨e, h2, q⟩
theorem dueOks_ints (n : Nat) (p : List Int) : dueOks n (p.map .int) = true := by
  induction p with
  | nil => cases n <;> rfl
  | cons x p ih => simp only [List.map_cons, dueOks, dueOk, ih, Bool.and_self]
theorem due_p {n : Nat} {p : List Int} (h : Sm p) : dueOk (n + 1) (.tup (p.map .int)) = true := by
  unfold Sm at h
  simp only [dueOk, dueOks_ints, List.length_map, Bool.true_and, decide_eq_true_eq]
  omega
theorem due_e {n : Nat} {e : Eff} (h : SmE e) : dueOk (n + 2) (efD e) = true := by
  show (dueOk (n + 1) (.tup (e.1.map .int)) && (dueOk (n + 1) (.tup (e.2.map .int)) && dueOks (n + 1) []) && decide (2 ≤ 1000000)) = true
  rw [due_p h.1, due_p h.2]
  rfl
theorem due_o {n : Nat} {e : Option Eff} (h : ∀ f, e = some f → SmE f) : dueOk (n + 2) (oD e) = true := by
  cases e with
  | none => rfl
  | some f => exact due_e (h f rfl)
/-! ### what is drawn -/
def Ok (so : SO) : Prop := ∃ (m k : Int) (figs : List Int), so = .lst [.int m, .int k, .lst (figs.map .int)] ∧ 0 ≤ k ∧ 0 ≤ m ∧ m < 1000100 ∧ figs ≠ [] ∧ ∀ x ∈ figs, 0 ≤ x ∧ x < 100000
def cnt : SO → Nat
  | .lst (_ :: .int k :: _) => k.toNat
  | _ => 0
theorem ixN30 : ixN 3 0 = some 0 := by decide
theorem ixN31 : ixN 3 1 = some 1 := by decide
theorem atI_mod {figs : List Int} (h : figs ≠ []) (e : Int) : ∃ v ∈ figs, atI (figs.map D.int) (e % (figs.length : Int)) = some (.int v) := by
  have hl : 0 < figs.length := List.length_pos_iff.mpr h
  have h1 : 0 ≤ e % (figs.length : Int) := Int.emod_nonneg _ (by omega)
  have h2 : e % (figs.length : Int) < figs.length := Int.emod_lt_of_pos _ (by omega)
  have h3 : (e % (figs.length : Int)).toNat < figs.length := by omega
  refine ⟨figs[(e % (figs.length : Int)).toNat], List.getElem_mem h3, ?_⟩
  rw [atI_int h1, List.getElem?_map, List.getElem?_eq_getElem h3]
  rfl
theorem cmul_small {i j : Int} (h : -(2 ^ 64) < i ∧ i < 2 ^ 64) : CMul i j ∨ CMulW i j := .inl (.inl h)
theorem sup_self {S : Sto} {b : Addr} {so : SO} (h : S b = some so) : sup S b so = S := by
  funext a
  unfold sup
  split
  · rename_i e; rw [e, h]
  · rfl
def sp_law_dice (bowl many : D) (S : Sto) (Q : DK) : Prop := match bowl, many with
  | .ref b, .int k => ∃ so, S b = some so ∧ Ok so ∧ cnt so ≤ 1000000 ∧ 0 < k ∧ ∀ so' n, Ok so' → cnt so' = cnt so + 1 → 0 ≤ n → n < k → Q (.int n) (sup S b so')
  | _, _ => False
-- _law_dice : 0=cup 1=sides 2=part
def rd_law_dice : DTS :=
    (dSeq (dAsg (dOp vAdd (dOp vIx (dVar 0) (dC (.int 1))) (dC (.int 1))) (dgSub (dVar 0) (dC (.int 1))))
    (dSeq (dAsg (dOp vIx (dOp vIx (dVar 0) (dC (.int 2))) (dOp vMod (dCB vInt (dCons (dOp vMul (dOp vIx (dVar 0) (dC (.int 1))) (dC (.int 5))) dNil)) (dCB vLen (dCons (dOp vIx (dVar 0) (dC (.int 2))) dNil)))) (dTg (.nm 2)))
    (dSeq (dAsg (dOp vMod (dCB vInt (dCons (dOp vAdd (dOp vAdd (dOp vAdd (dOp vMul (dOp vIx (dVar 0) (dC (.int 0))) (dC (.int 613))) (dOp vMul (dVar 2) (dC (.int 29)))) (dOp vMul (dOp vIx (dVar 0) (dC (.int 1))) (dC (.int 977)))) (dC (.int 41))) dNil)) (dC (.int 1000003))) (dgSub (dVar 0) (dC (.int 0))))
    (dRet (dOp vMod (dCB vInt (dCons (dOp vDiv (dOp vIx (dVar 0) (dC (.int 0))) (dC (.int 9))) dNil)) (dVar 1))))))
theorem rd_law_dice_ok : ∀ ds S P, (a2 sp_law_dice) ds S P → rd_law_dice (DEnds.of P) (dstart ["cup", "sides", "part"] ds) S := by
  intro ds S P h
  rcases ds with _ | ⟨x, _ | ⟨y, _ | ⟨z, ds⟩⟩⟩ <;> first | exact (h : False).elim | skip
  simp only [a2, sp_law_dice] at h
  split at h
  · rename_i b many
    obtain ⟨so, hS, ⟨m, k, figs, rfl, k0, m0, m1, hf, hx⟩, hc, hm, q⟩ := h
    simp only [cnt] at hc
    unfold rd_law_dice
    rw [← sup_self hS]
    walk_at "rd"
    simp only [ixN30, ixN31]
    walk_at "rd"
    obtain ⟨v, hv, ev⟩ := atI_mod hf ((k + 1) * 5)
    obtain ⟨v0, v1⟩ := hx v hv
    have hl : 0 < figs.length := List.length_pos_iff.mpr hf
    refine ⟨cmul_small (by omega), by omega, ?_⟩
    rw [ev]
    walk_at "rd"
    refine ⟨cmul_small (by omega), cmul_small (by omega), cmul_small (by omega), by omega, ?_⟩
    try simp only [ixN30, ixN31]
    walk_at "rd"
    refine ⟨by unfold CDiv; omega, hm, ?_⟩
    exact .of (q _ _ ⟨_, _, figs, rfl, by omega, Int.emod_nonneg _ (by omega), by have := Int.emod_lt_of_pos (m * 613 + v * 29 + (k + 1) * 977 + 41) (show (0 : Int) < 1000003 by omega); omega, hf, hx⟩ (by simp only [cnt]; omega) (Int.emod_nonneg _ (by omega)) (Int.emod_lt_of_pos _ hm))
  · exact h.elim
theorem use_dice {b : Addr} {k : Int} {S : Sto} {Q : DK} {so : SO} (hS : S b = some so) (ok : Ok so) (c : cnt so ≤ 1000000) (hk : 0 < k) (q : ∀ so' n, Ok so' → cnt so' = cnt so + 1 → 0 ≤ n → n < k → Q (.int n) (sup S b so')) : sp_law_dice (.ref b) (.int k) S Q := ⟨so, hS, ok, c, hk, q⟩
def InB (h : Int) (xs : List Int) : Prop := ∀ x ∈ xs, 0 ≤ x ∧ x < h
def sp_law_kinds (bowl most high : D) (S : Sto) (Q : DK) : Prop := match bowl, most, high with
  | .ref b, .int l, .int h => ∃ so, S b = some so ∧ Ok so ∧ cnt so ≤ 500000 ∧ 0 ≤ l ∧ l ≤ 1000 ∧ 0 < h ∧ ∀ so' xs, Ok so' → cnt so' ≤ cnt so + 1001 → (xs.length : Int) ≤ l → InB h xs → Q (.tup (xs.map .int)) (sup S b so')
  | _, _, _ => False
-- _law_kinds : 0=cup 1=most 2=high 3=turn
def rd_law_kinds : DTS :=
    (dRet (dCB vTuple (dCons (dLc (iRange1 (dCall (a2 sp_law_dice) (dCons (dVar 0) (dCons (dOp vAdd (dVar 1) (dC (.int 1))) dNil)))) (dTg (.nm 3)) dYes (dCall (a2 sp_law_dice) (dCons (dVar 0) (dCons (dVar 2) dNil))) [3]) dNil)))
theorem kinds_loop {b : Addr} {h : Int} (hh : 0 < h) {S0 : Sto} {Q : DK} : ∀ (items : List D) (acc : List Int) (so : SO), Ok so → cnt so + items.length ≤ 1000000 → acc.length + items.length ≤ 2000 → InB h acc →
    (∀ so' xs, Ok so' → cnt so' = cnt so + items.length → xs.length = acc.length + items.length → InB h xs → Q (.lst (xs.map .int)) (sup S0 b so')) →
    ∀ long, lcL (fun _ => True) (dTg (.nm 3)) dYes (dCall (a2 sp_law_dice) (dCons (dVar 0) (dCons (dVar 2) dNil))) [3] [some (.ref b), long, some (.int h), none] items (acc.map .int) (sup S0 b so) Q
  | [], acc, so, ok, hc, hl, hi, q, long => ⟨True.intro, q so acc ok rfl rfl hi⟩
  | d :: items, acc, so, ok, hc, hl, hi, q, long => by
    simp only [List.length_cons] at hc hl q
    refine ⟨True.intro, by rw [sizeLine_val, List.length_map]; omega, ?_⟩
    walk_at "rd"
    refine use_dice sup_same ok (by omega) hh fun so' n ok' c' n0 n1 => ?_
    rw [sup_sup, show acc.map D.int ++ [D.int n] = (acc ++ [n]).map D.int by simp]
    refine kinds_loop hh items (acc ++ [n]) so' ok' (by omega) (by simp only [List.length_append, List.length_cons, List.length_nil]; omega) (fun x hx => ?_) (fun so2 xs a b c d => q so2 xs a (by omega) (by simp only [List.length_append, List.length_cons, List.length_nil] at c; omega) d) long
    rcases List.mem_append.mp hx with hx | hx
    · exact hi x hx
    · simp at hx
      subst hx
      exact ⟨n0, n1⟩
theorem rd_law_kinds_ok : ∀ ds S P, (a3 sp_law_kinds) ds S P → rd_law_kinds (DEnds.of P) (dstart ["cup", "most", "high", "turn"] ds) S := by
  intro ds S P h
  rcases ds with _ | ⟨x, _ | ⟨y, _ | ⟨z, _ | ⟨w, ds⟩⟩⟩⟩ <;> first | exact (h : False).elim | skip
  simp only [a3, sp_law_kinds] at h
  split at h
  · rename_i b l h'
    obtain ⟨so, hS, ok, hc, l0, l1, hh, q⟩ := h
    unfold rd_law_kinds
    rw [← sup_self hS]
    walk_at "run"
    refine use_dice sup_same ok (by omega) (by omega) fun so1 n ok1 c1 n0 n1 => ?_
    walk_at "run"
    refine ⟨by omega, by omega, ?_⟩
    have hlen : (rngD 0 n.toNat).length = n.toNat := by simp [rngD]
    rw [sup_sup]
    refine kinds_loop hh (rngD 0 n.toNat) [] so1 ok1 (by rw [hlen]; omega) (by rw [hlen]; simp; omega) (fun x hx => by cases hx) (fun so' xs a b c d => ?_) _
    rw [hlen] at b c
    walk_at "run"
    exact .of (q so' xs a (by omega) (by simp at c; omega) d)
  · exact h.elim
theorem use_kinds {b : Addr} {l h : Int} {S : Sto} {Q : DK} {so : SO} (hS : S b = some so) (ok : Ok so) (c : cnt so ≤ 500000) (l0 : 0 ≤ l) (l1 : l ≤ 1000) (hh : 0 < h) (q : ∀ so' xs, Ok so' → cnt so' ≤ cnt so + 1001 → (xs.length : Int) ≤ l → InB h xs → Q (.tup (xs.map .int)) (sup S b so')) : sp_law_kinds (.ref b) (.int l) (.int h) S Q := ⟨so, hS, ok, c, l0, l1, hh, q⟩
end L3

set_option Elab.async false
set_option maxRecDepth 100000
set_option linter.all false
set_option maxHeartbeats 4000000
namespace L3
open PySem L2
theorem st_lm0 {x : Int} {p : List Int} {S : Sto} {Q : DK} (h : Q (.int x) S) : vIx (.lst ((x :: p).map .int)) (.int 0) S Q := by
  rw [List.map_cons]
  exact st_lx0 h
theorem st_ltail {x : Int} {p : List Int} {S : Sto} {Q : DK} (h : Q (.lst (p.map .int)) S) : vSl (.lst ((x :: p).map .int)) (some 1) none S Q := by
  rw [vSl_lst, show (1 : Int) = ((1 : Nat) : Int) from rfl, cut_from]
  exact h
theorem st_add_ll {p q : List Int} {S : Sto} {Q : DK} (h1 : p.length + q.length ≤ sizeLine) (h : Q (.lst ((p ++ q).map .int)) S) : vAdd (.lst (p.map .int)) (.lst (q.map .int)) S Q := by
  rw [vAdd_lst, List.length_map, List.length_map, ← List.map_append]
  exact ⟨h1, h⟩
local macro_rules | `(tactic| walk_at "rd") => `(tactic| try simp only [dSeq, dAsg, dOp, dUn, dVar, dC, dCons, dNil, dTup, dLst, dLstM, dTest, dChain, dAnd, dOr, dNot, dAndV, dOrV, dNotV, dIfE, dCB, dCall, dSl, dPart, dNoPart, dIf, dRet, dRetN, dNext, dDrop, dTg, setAll, slot, dset, dwipe, dAug,
  a0, a1, a2, a3, a4, a5, a6, dLc, iTupD, iRange1, iRange2, dYes, dLM, dgSub, DEnds.of, dstart,
  vAt_some, vAtL_lst, vIx_tup, vIx_lst, vIx_ro, vIx_ref, vSl_tup, vSl_lst, vSl_ro, vSl_ref, vSlL_lst, vLen_tup, vLen_lst, vLen_ro, vLen_ref, vLenL_lst, vLenL_dK, vAdd_int, vAdd_tup, vAdd_lst, vAdd_ref, vAddL_lst, vSub_int, vLt_int, vLe_int, vGt_int, vGe_int, vMod_int, vDiv_int, vPow_int, vShl_int, vMul_int, vMul_tup, vMul_lst,
  vEq_int, vEq_str, vEq_bl, vEq_tup, vEq_lst, vNe_int, vNe_str, vNe_bl, vNe_tup, isN_non, isN_bl, isN_int, isN_str, isN_tup, isN_lst, isN_ref, vIs_non, vIsNot_non, vNeg_int, vInt_int, vInt_bl, vBool_int, vBool_bl, vAbs_int, vMin2_int, vMax2_int, vTuple_tup, vTuple_lst, vTuple_ref, vTupleL_lst, vList_tup, vList_lst,
  vAllO_some, vAll_x, vAny_x, seqOf_lst, vIsi_x, vIadd_int, vAppL_lst, vAppend_ref, vSetN_some, vSetO_lst, vSet_ref, isSeq_ref, ex_lst, all1,
  isiT_int_int, isiT_int_bool, isiT_int_tuple, isiT_int_str, isiT_int_list, isiT_bl_int, isiT_bl_bool, isiT_bl_tuple, isiT_bl_str, isiT_bl_list, isiT_non_int, isiT_non_bool, isiT_non_tuple, isiT_non_str, isiT_non_list, isiT_str_int, isiT_str_bool, isiT_str_tuple, isiT_str_str, isiT_str_list, isiT_tup_int, isiT_tup_bool, isiT_tup_tuple, isiT_tup_str, isiT_tup_list, isiT_lst_int, isiT_lst_bool, isiT_lst_tuple, isiT_lst_str, isiT_lst_list,
  Option.map_some, Option.bind_some, List.map_cons, List.map_nil, List.length_cons, List.length_nil, List.cons_append, List.nil_append, List.replicate, List.set, List.append_nil, atI_0, atI_1, atI_2, atI_3, atI_4, atI_5, List.length_map, Nat.zero_add, Nat.reduceAdd, Nat.reduceSub, Nat.reduceLeDiff, true_and, and_true, Bool.false_eq_true, if_true, if_false, decide_eq_true_eq, reduceIte, ite_true, ite_false,
  Bool.not_true, Bool.not_false, List.length_append, cut_from, cut_to, sup_same, sup_sup, Option.some.injEq, exists_eq_left', exists_eq_left])
local macro_rules | `(tactic| walk_at "cond") => `(tactic| first | omega | (simp only [List.length_append, List.length_cons, List.length_nil, List.length_take, List.length_drop, List.length_map, List.length_reverse]; omega))
local macro_rules | `(tactic| walk_at "side") => `(tactic| first | assumption | omega | (simp only [List.length_append, List.length_cons, List.length_nil, List.length_take, List.length_drop, List.length_map, List.length_reverse, sizeLine_val]; omega) | decide)
local macro_rules | `(tactic| walk_at "st") => `(tactic| first
  | with_reducible refine st_ix0 ?_ | with_reducible refine st_ix1 ?_ | with_reducible refine st_ix2 ?_ | with_reducible refine st_ix3 ?_ | with_reducible refine st_ix4 ?_
  | with_reducible refine st_add_pp (by walk_at "side") ?_ | with_reducible refine st_add_p1 (by walk_at "side") ?_ | with_reducible refine st_add_1p (by walk_at "side") ?_
  | with_reducible refine st_add ?_ | with_reducible refine st_sub ?_ | with_reducible refine st_iadd ?_ | with_reducible refine st_neg ?_
  | with_reducible refine st_len_p ?_ | with_reducible refine st_len_lp ?_ | with_reducible refine st_len_rp ?_ | with_reducible refine st_len_t ?_ | with_reducible refine st_len_l ?_
  | with_reducible refine st_lm0 ?_ | with_reducible refine st_ltail ?_ | with_reducible refine st_add_ll (by walk_at "side") ?_
  | with_reducible refine st_add_t (by walk_at "side") ?_ | with_reducible refine st_add_l (by walk_at "side") ?_ | with_reducible refine st_add_s (by walk_at "side") ?_
  | with_reducible refine st_iteT ?_ | with_reducible refine st_iteF ?_ | with_reducible refine st_not ?_
  | with_reducible refine st_lt ?_ | with_reducible refine st_le ?_ | with_reducible refine st_gt ?_ | with_reducible refine st_ge ?_ | with_reducible refine st_eqi ?_ | with_reducible refine st_nei ?_ | with_reducible refine st_eqs ?_ | with_reducible refine st_nes ?_ | with_reducible refine st_eqb ?_
  | with_reducible refine st_isn_non ?_ | with_reducible refine st_isn_int ?_ | with_reducible refine st_isn_tup ?_ | with_reducible refine st_isn_str ?_ | with_reducible refine st_isn_bl ?_
  | with_reducible refine st_isnt_non ?_ | with_reducible refine st_isnt_int ?_ | with_reducible refine st_isnt_tup ?_ | with_reducible refine st_isnt_str ?_
  | with_reducible refine st_int ?_ | with_reducible refine st_intb ?_ | with_reducible refine st_abs ?_ | with_reducible refine st_min2 ?_ | with_reducible refine st_max2 ?_
  | with_reducible refine st_tup_l ?_ | with_reducible refine st_tup_t ?_ | with_reducible refine st_lst_t ?_ | with_reducible refine st_lst_l ?_
  | with_reducible refine st_sl_from ?_ | with_reducible refine st_sl_to ?_
  | with_reducible refine st_lx0 ?_ | with_reducible refine st_lx1 ?_ | with_reducible refine st_lx2 ?_ | with_reducible refine st_lx3 ?_
  | with_reducible refine st_mod (by walk_at "side") ?_ | with_reducible refine st_div (by walk_at "side") ?_ | with_reducible refine st_mul (by walk_at "side") ?_ | with_reducible refine st_mul' (by walk_at "side") ?_
  | with_reducible refine st_isi rfl ?_
  | (with_reducible refine And.intro (Nat.le_of_ble_eq_true rfl) ?_)
  | (refine And.intro (rfl : (_ : Nat) = _) ?_)
  | with_reducible refine st_dT (by walk_at "cond") ?_ | with_reducible refine st_dF (by walk_at "cond") ?_)
local macro_rules | `(tactic| walk_at "hd") => `(tactic| (with_reducible conv => whnf))
local macro_rules | `(tactic| walk_at "run") => `(tactic| ((with_reducible conv => whnf); repeat (walk_at "st"; (with_reducible conv => whnf))))
/-! ### spoilt -/
theorem st_sl_fromZ {p : List Int} {k : Int} {S : Sto} {Q : DK} (h0 : 0 ≤ k) (h : Q (.tup ((p.drop k.toNat).map .int)) S) : vSl (.tup (p.map .int)) (some k) none S Q := by
  obtain ⟨n, rfl⟩ := Int.eq_ofNat_of_zero_le h0
  exact st_sl_from h
theorem turned_ne {x h s : Int} (h2 : 2 ≤ h) (x0 : 0 ≤ x) (x1 : x < h) (s0 : 0 ≤ s) (s1 : s < h - 1) : (x + 1 + s) % h ≠ x := by
  intro e
  by_cases c : x + 1 + s < h
  · rw [Int.emod_eq_of_lt (by omega) c] at e
    omega
  · have : (x + 1 + s) % h = x + 1 + s - h := by
      rw [← Int.sub_emod_right, Int.emod_eq_of_lt (by omega) (by omega)]
    omega
def sp_law_spoilt (bowl pile high : D) (S : Sto) (Q : DK) : Prop := match bowl, asP pile, high with
  | .ref b, some p, .int h => ∃ so, S b = some so ∧ Ok so ∧ cnt so ≤ 500000 ∧ 0 < p.length ∧ p.length ≤ 1000 ∧ 2 ≤ h ∧ InB h p ∧
    ∀ so' r, Ok so' → cnt so' ≤ cnt so + 2 → r.length = p.length → InB h r → (∀ z w, r ++ z ≠ p ++ w) → Q (.tup (r.map .int)) (sup S b so')
  | _, _, _ => False
-- _law_spoilt : 0=cup 1=pile 2=high 3=at
def rd_law_spoilt : DTS :=
    (dSeq (dAsg (dCall (a2 sp_law_dice) (dCons (dVar 0) (dCons (dCB vLen (dCons (dVar 1) dNil)) dNil))) (dTg (.nm 3)))
    (dRet (dOp vAdd (dOp vAdd (dSl vSl (dVar 1) dNoPart (dPart (dVar 3))) (dTup (dCons (dOp vMod (dCB vInt (dCons (dOp vAdd (dOp vAdd (dOp vIx (dVar 1) (dVar 3)) (dC (.int 1))) (dCall (a2 sp_law_dice) (dCons (dVar 0) (dCons (dOp vSub (dVar 2) (dC (.int 1))) dNil)))) dNil)) (dVar 2)) dNil))) (dSl vSl (dVar 1) (dPart (dOp vAdd (dVar 3) (dC (.int 1)))) dNoPart))))
theorem rd_law_spoilt_ok : ∀ ds S P, (a3 sp_law_spoilt) ds S P → rd_law_spoilt (DEnds.of P) (dstart ["cup", "pile", "high", "at"] ds) S := by
  intro ds S P h
  rcases ds with _ | ⟨x, _ | ⟨y, _ | ⟨z, _ | ⟨w, ds⟩⟩⟩⟩ <;> first | exact (h : False).elim | skip
  simp only [a3, sp_law_spoilt] at h
  split at h
  · rename_i b p h' e
    obtain ⟨so, hS, ok, hc, p0, hp, hh, hi, q⟩ := h
    rw [asP_eq e]
    unfold rd_law_spoilt
    rw [← sup_self hS]
    walk_at "run"
    refine use_dice sup_same ok (by omega) (by omega) fun so1 i ok1 c1 i0 i1 => ?_
    obtain ⟨n, rfl⟩ := Int.eq_ofNat_of_zero_le i0
    have hn : n < p.length := by omega
    obtain ⟨x0, x1⟩ := hi p[n] (List.getElem_mem hn)
    walk_at "run"
    refine st_ixm (List.getElem?_eq_getElem hn) ?_
    walk_at "run"
    refine use_dice sup_same ok1 (by omega) (by omega) fun so2 s ok2 c2 s0 s1 => ?_
    walk_at "run"
    refine st_sl_fromZ (by omega) ?_
    walk_at "run"
    have l1 : (p.take n).length = n := by rw [List.length_take]; omega
    have l2 : (p.drop ((n : Int) + 1).toNat).length = p.length - (n + 1) := by rw [List.length_drop]; omega
    refine .of ?_
    simp only [sup_sup]
    refine q so2 _ ok2 (by omega) (by simp only [List.length_append, List.length_cons, List.length_nil]; omega) (fun x hx => ?_) fun z w e => ?_
    · rcases List.mem_append.mp hx with hx | hx
      · rcases List.mem_append.mp hx with hx | hx
        · exact hi x (List.mem_of_mem_take hx)
        · simp at hx
          subst hx
          exact ⟨Int.emod_nonneg _ (by omega), Int.emod_lt_of_pos _ (by omega)⟩
      · exact hi x (List.mem_of_mem_drop hx)
    · simp only [List.append_assoc] at e
      have e2 : (p.take n ++ ([(p[n] + 1 + s) % h'] ++ (p.drop ((n : Int) + 1).toNat ++ z)))[n]? = (p ++ w)[n]? := congrArg (fun l => l[n]?) e
      rw [List.getElem?_append_right (by omega), l1, Nat.sub_self, List.getElem?_append_left hn, List.getElem?_eq_getElem hn] at e2
      simp at e2
      exact turned_ne hh x0 x1 s0 s1 e2
  · exact h.elim
theorem use_spoilt {b : Addr} {p : List Int} {h : Int} {S : Sto} {Q : DK} {so : SO} (hS : S b = some so) (ok : Ok so) (c : cnt so ≤ 500000) (p0 : 0 < p.length) (hp : p.length ≤ 1000) (hh : 2 ≤ h) (hi : InB h p)
    (q : ∀ so' r, Ok so' → cnt so' ≤ cnt so + 2 → r.length = p.length → InB h r → (∀ z w, r ++ z ≠ p ++ w) → Q (.tup (r.map .int)) (sup S b so')) : sp_law_spoilt (.ref b) (.tup (p.map .int)) (.int h) S Q := by
  simp only [sp_law_spoilt, asP_pl]
  exact ⟨so, hS, ok, c, p0, hp, hh, hi, q⟩
/-! ### pass -/
def ps (off put : List Int) : List Int → List Int → Option Eff
  | x :: on, y :: w => if x = y then ps off put on w else none
  | on, w => some (off ++ w, put ++ on)
theorem jn_ps (off put : List Int) : ∀ on w : List Int, jn (off, on) (w, put) = ps off put on w
  | [], w => by simp [jn, ps]
  | x :: on, [] => by simp [jn, ps]
  | x :: on, y :: w => by
    have := jn_ps off put on w
    simp only [jn, ps, List.length_cons, List.take_succ_cons, List.cons.injEq, List.drop_succ_cons] at this ⊢
    by_cases e : x = y
    · subst e
      simpa using this
    · rw [if_neg (fun z => e z.1.symm), if_neg (fun z => e z.1), if_neg e]
def sp_law_pass (x y : D) (S : Sto) (Q : DK) : Prop := match asE x, asE y with
  | some a, some b => SmE a ∧ SmE b ∧ Q (oD (jn a b)) S
  | _, _ => False
-- _law_pass : 0=first 1=second 2=off 3=on 4=wanted
def rd_law_pass : DTS :=
    (dSeq (dPar3 2 3 4 (dCons (dCB vList (dCons (dOp vIx (dVar 0) (dC (.int 0))) dNil)) (dCons (dCB vList (dCons (dOp vIx (dVar 0) (dC (.int 1))) dNil)) (dCons (dCB vList (dCons (dOp vIx (dVar 1) (dC (.int 0))) dNil)) dNil))))
    (dSeq (dWhile (dAnd (dTest (dOp vGt (dCB vLen (dCons (dVar 3) dNil)) (dC (.int 0)))) (dTest (dOp vGt (dCB vLen (dCons (dVar 4) dNil)) (dC (.int 0))))) (dSeq (dIf (dTest (dOp vNe (dOp vIx (dVar 3) (dC (.int 0))) (dOp vIx (dVar 4) (dC (.int 0))))) (dRet (dC .non)) dNext)
    (dSeq (dAsg (dSl vSl (dVar 3) (dPart (dC (.int 1))) dNoPart) (dTg (.nm 3)))
    (dAsg (dSl vSl (dVar 4) (dPart (dC (.int 1))) dNoPart) (dTg (.nm 4))))))
    (dRet (dTup (dCons (dCB vTuple (dCons (dOp vAdd (dVar 2) (dVar 4)) dNil)) (dCons (dCB vTuple (dCons (dOp vAdd (dCB vList (dCons (dOp vIx (dVar 1) (dC (.int 1))) dNil)) (dVar 3)) dNil)) dNil))))))
theorem rd_law_pass_ok : ∀ ds S P, (a2 sp_law_pass) ds S P → rd_law_pass (DEnds.of P) (dstart ["first", "second", "off", "on", "wanted"] ds) S := by
  intro ds S P h
  rcases ds with _ | ⟨x, _ | ⟨y, _ | ⟨z, ds⟩⟩⟩ <;> first | exact (h : False).elim | skip
  simp only [a2, sp_law_pass] at h
  split at h
  · rename_i a b e1 e2
    obtain ⟨off, on⟩ := a
    obtain ⟨w, put⟩ := b
    obtain ⟨⟨ha1, ha2⟩, ⟨hb1, hb2⟩, q⟩ := h
    rw [jn_ps] at q
    simp only [Sm] at ha1 ha2 hb1 hb2
    rw [asE_eq e1, asE_eq e2]
    unfold rd_law_pass
    walk_at "run"
    have fin : Fin_ P (oD (ps off put on w)) S := .of q
    refine ⟨on.length + 1, whileN_inv (fun n δ S' => S' = S ∧ ∃ on' w', n = on'.length ∧ on'.length ≤ on.length ∧ w'.length ≤ w.length ∧ ps off put on' w' = ps off put on w ∧ δ = [some (efD (off, on)), some (efD (w, put)), some (.lst (off.map .int)), some (.lst (on'.map .int)), some (.lst (w'.map .int))]) ?_ _ _ _ ⟨rfl, on, w, rfl, Nat.le_refl _, Nat.le_refl _, rfl, rfl⟩⟩
    rintro n _ S1 ⟨rfl, on', w', rfl, l1, l2, er, rfl⟩ D2 hrt _ hnx _
    have done : (∀ x on2 y w2, on' = x :: on2 → w' = y :: w2 → False) → Fin_ P (.tup [.tup ((off ++ w').map .int), .tup ((put ++ on').map .int)]) S1 := fun z => by
      have : ps off put on' w' = some (off ++ w', put ++ on') := by
        rcases on' with _ | ⟨x, on2⟩
        · simp [ps]
        · rcases w' with _ | ⟨y, w2⟩
          · simp [ps]
          · exact (z x on2 y w2 rfl rfl).elim
      rw [← er, this] at fin
      exact fin
    rcases on' with _ | ⟨x, on2⟩
    · walk_at "run"
      exact done (fun _ _ _ _ z => by cases z)
    · simp only [List.length_cons] at l1 hnx
      rcases w' with _ | ⟨y, w2⟩
      · walk_at "run"
        exact done (fun _ _ _ _ _ z => by cases z)
      · simp only [List.length_cons] at l2
        walk_at "run"
        by_cases e : x = y
        · subst e
          walk_at "run"
          exact hnx _ _ _ rfl ⟨rfl, on2, w2, rfl, by omega, by omega, by rw [← er]; simp [ps], rfl⟩
        · walk_at "run"
          have : ps off put (x :: on2) (y :: w2) = none := by simp [ps, e]
          rw [← er, this] at fin
          show D2.rt _ _
          rw [hrt]
          exact fin
  · exact h.elim
theorem use_pass {a b : Eff} {S : Sto} {Q : DK} (ha : SmE a) (hb : SmE b) (h : Q (oD (jn a b)) S) : sp_law_pass (.tup [.tup (a.1.map .int), .tup (a.2.map .int)]) (.tup [.tup (b.1.map .int), .tup (b.2.map .int)]) S Q := by
  simp only [sp_law_pass, asE_ef]
  exact ⟨ha, hb, h⟩
end L3

set_option Elab.async false
set_option maxRecDepth 100000
set_option linter.all false
set_option maxHeartbeats 4000000
namespace L3
open PySem L2
local macro_rules | `(tactic| walk_at "rd") => `(tactic| try simp only [dSeq, dAsg, dOp, dUn, dVar, dC, dCons, dNil, dTup, dLst, dLstM, dTest, dChain, dAnd, dOr, dNot, dAndV, dOrV, dNotV, dIfE, dCB, dCall, dSl, dPart, dNoPart, dIf, dRet, dRetN, dNext, dDrop, dTg, setAll, slot, dset, dwipe, dAug,
  a0, a1, a2, a3, a4, a5, a6, dLc, iTupD, iRange1, iRange2, dYes, dLM, dgSub, DEnds.of, dstart,
  vAt_some, vAtL_lst, vIx_tup, vIx_lst, vIx_ro, vIx_ref, vSl_tup, vSl_lst, vSl_ro, vSl_ref, vSlL_lst, vLen_tup, vLen_lst, vLen_ro, vLen_ref, vLenL_lst, vLenL_dK, vAdd_int, vAdd_tup, vAdd_lst, vAdd_ref, vAddL_lst, vSub_int, vLt_int, vLe_int, vGt_int, vGe_int, vMod_int, vDiv_int, vPow_int, vShl_int, vMul_int, vMul_tup, vMul_lst,
  vEq_int, vEq_str, vEq_bl, vEq_tup, vEq_lst, vNe_int, vNe_str, vNe_bl, vNe_tup, isN_non, isN_bl, isN_int, isN_str, isN_tup, isN_lst, isN_ref, vIs_non, vIsNot_non, vNeg_int, vInt_int, vInt_bl, vBool_int, vBool_bl, vAbs_int, vMin2_int, vMax2_int, vTuple_tup, vTuple_lst, vTuple_ref, vTupleL_lst, vList_tup, vList_lst,
  vAllO_some, vAll_x, vAny_x, seqOf_lst, vIsi_x, vIadd_int, vAppL_lst, vAppend_ref, vSetN_some, vSetO_lst, vSet_ref, isSeq_ref, ex_lst, all1,
  isiT_int_int, isiT_int_bool, isiT_int_tuple, isiT_int_str, isiT_int_list, isiT_bl_int, isiT_bl_bool, isiT_bl_tuple, isiT_bl_str, isiT_bl_list, isiT_non_int, isiT_non_bool, isiT_non_tuple, isiT_non_str, isiT_non_list, isiT_str_int, isiT_str_bool, isiT_str_tuple, isiT_str_str, isiT_str_list, isiT_tup_int, isiT_tup_bool, isiT_tup_tuple, isiT_tup_str, isiT_tup_list, isiT_lst_int, isiT_lst_bool, isiT_lst_tuple, isiT_lst_str, isiT_lst_list,
  Option.map_some, Option.bind_some, List.map_cons, List.map_nil, List.length_cons, List.length_nil, List.cons_append, List.nil_append, List.replicate, List.set, List.append_nil, atI_0, atI_1, atI_2, atI_3, atI_4, atI_5, List.length_map, Nat.zero_add, Nat.reduceAdd, Nat.reduceSub, Nat.reduceLeDiff, true_and, and_true, Bool.false_eq_true, if_true, if_false, decide_eq_true_eq, reduceIte, ite_true, ite_false,
  Bool.not_true, Bool.not_false, List.length_append, cut_from, cut_to, sup_same, sup_sup, Option.some.injEq, exists_eq_left', exists_eq_left])
local macro_rules | `(tactic| walk_at "cond") => `(tactic| first | omega | (simp only [List.length_append, List.length_cons, List.length_nil, List.length_take, List.length_drop, List.length_map, List.length_reverse]; omega) | rfl | decide)
local macro_rules | `(tactic| walk_at "side") => `(tactic| first | assumption | omega | (simp only [List.length_append, List.length_cons, List.length_nil, List.length_take, List.length_drop, List.length_map, List.length_reverse, sizeLine_val]; omega) | decide)
local macro_rules | `(tactic| walk_at "st") => `(tactic| first
  | with_reducible refine st_ix0 ?_ | with_reducible refine st_ix1 ?_ | with_reducible refine st_ix2 ?_ | with_reducible refine st_ix3 ?_ | with_reducible refine st_ix4 ?_
  | with_reducible refine st_add_pp (by walk_at "side") ?_ | with_reducible refine st_add_p1 (by walk_at "side") ?_ | with_reducible refine st_add_1p (by walk_at "side") ?_
  | with_reducible refine st_add ?_ | with_reducible refine st_sub ?_ | with_reducible refine st_iadd ?_ | with_reducible refine st_neg ?_
  | with_reducible refine st_len_p ?_ | with_reducible refine st_len_lp ?_ | with_reducible refine st_len_rp ?_ | with_reducible refine st_len_t ?_ | with_reducible refine st_len_l ?_
  | with_reducible refine st_lm0 ?_ | with_reducible refine st_ltail ?_ | with_reducible refine st_add_ll (by walk_at "side") ?_
  | with_reducible refine st_add_t (by walk_at "side") ?_ | with_reducible refine st_add_l (by walk_at "side") ?_ | with_reducible refine st_add_s (by walk_at "side") ?_
  | with_reducible refine st_iteT ?_ | with_reducible refine st_iteF ?_ | with_reducible refine st_not ?_
  | with_reducible refine st_lt ?_ | with_reducible refine st_le ?_ | with_reducible refine st_gt ?_ | with_reducible refine st_ge ?_ | with_reducible refine st_eqi ?_ | with_reducible refine st_nei ?_ | with_reducible refine st_eqs ?_ | with_reducible refine st_nes ?_ | with_reducible refine st_eqb ?_
  | with_reducible refine st_isn_non ?_ | with_reducible refine st_isn_int ?_ | with_reducible refine st_isn_tup ?_ | with_reducible refine st_isn_str ?_ | with_reducible refine st_isn_bl ?_
  | with_reducible refine st_isnt_non ?_ | with_reducible refine st_isnt_int ?_ | with_reducible refine st_isnt_tup ?_ | with_reducible refine st_isnt_str ?_
  | with_reducible refine st_int ?_ | with_reducible refine st_intb ?_ | with_reducible refine st_abs ?_ | with_reducible refine st_min2 ?_ | with_reducible refine st_max2 ?_
  | with_reducible refine st_tup_l ?_ | with_reducible refine st_tup_t ?_ | with_reducible refine st_lst_t ?_ | with_reducible refine st_lst_l ?_
  | with_reducible refine st_sl_from ?_ | with_reducible refine st_sl_to ?_
  | with_reducible refine st_lx0 ?_ | with_reducible refine st_lx1 ?_ | with_reducible refine st_lx2 ?_ | with_reducible refine st_lx3 ?_
  | with_reducible refine st_mod (by walk_at "side") ?_ | with_reducible refine st_div (by walk_at "side") ?_ | with_reducible refine st_mul (by walk_at "side") ?_ | with_reducible refine st_mul' (by walk_at "side") ?_
  | with_reducible refine st_isi rfl ?_
  | (with_reducible refine And.intro (Nat.le_of_ble_eq_true rfl) ?_)
  | (refine And.intro (rfl : (_ : Nat) = _) ?_)
  | with_reducible refine st_dT (by walk_at "cond") ?_ | with_reducible refine st_dF (by walk_at "cond") ?_)
local macro_rules | `(tactic| walk_at "hd") => `(tactic| (with_reducible conv => whnf))
local macro_rules | `(tactic| walk_at "run") => `(tactic| ((with_reducible conv => whnf); repeat (walk_at "st"; (with_reducible conv => whnf))))
/-! ### fold -/
def sp_law_fold (x : D) (S : Sto) (Q : DK) : Prop := ∃ es : List Eff, (x = .tup (es.map efD) ∨ ∃ b, x = .ref b ∧ S b = some (.lst (es.map efD))) ∧ Es es ∧ Q (oD (fold es)) S
-- _law_fold : 0=effects 1=whole 2=effect
def rd_law_fold : DTS :=
    (dSeq (dAsg (dTup (dCons (dTup dNil) (dCons (dTup dNil) dNil))) (dTg (.nm 1)))
    (dSeq (dFor (iAnyD (dVar 0)) (dTg (.nm 2)) (dIf (dTest (dOp vIsNot (dVar 1) (dC .non))) (dAsg (dCall (a2 sp_law_pass) (dCons (dVar 1) (dCons (dVar 2) dNil))) (dTg (.nm 1))) dNext))
    (dRet (dVar 1))))
theorem fold_loop {es : List Eff} (he : Es es) {x : D} {kp : Sto → Prop} {S : Sto} {P : DK} (hk : kp S) (q : P (oD (fold es)) S) :
    forL kp (dTg (.nm 2)) (dIf (dTest (dOp vIsNot (dVar 1) (dC .non))) (dAsg (dCall (a2 sp_law_pass) (dCons (dVar 1) (dCons (dVar 2) dNil))) (dTg (.nm 1))) dNext) (es.map efD) { nx := dRet (dVar 1) (DEnds.of P), rt := (DEnds.of P).rt } [some x, some (oD (some ([], []))), none] S := by
  refine forL_inv (fun i δ S' => S' = S ∧ ∃ y, δ = [some x, some (oD (fold (es.take i))), y]) (fun _ _ _ z => by rw [z.1]; exact hk) _ 0 _ _ ⟨rfl, none, rfl⟩ ?_ ?_
  · rintro j d _ S1 hj ⟨rfl, y, rfl⟩ D2 hrt _ hnx _
    rw [List.getElem?_map] at hj
    cases g : es[j]? with
    | none => rw [g] at hj; cases hj
    | some e =>
      rw [g] at hj
      cases hj
      rw [Nat.zero_add]
      have st : fold (es.take (0 + j + 1)) = (fold (es.take j)).bind fun f => jn f e := by rw [Nat.zero_add, take_get g, fold_snoc]
      have sm := fold_take he j
      cases k : fold (es.take j) with
      | none =>
        rw [k] at st
        walk_at "run"
        exact hnx _ _ ⟨rfl, _, by rw [st]; rfl⟩
      | some f =>
        rw [k] at st
        walk_at "run"
        refine use_pass (sm f k) (B.sm (he.2 e (List.mem_of_getElem? g)) (by decide)) ?_
        walk_at "run"
        exact hnx _ _ ⟨rfl, _, by rw [st]; rfl⟩
  · rintro _ S1 ⟨rfl, y, rfl⟩
    walk_at "run"
    rw [Nat.zero_add, List.length_map, List.take_length]
    exact .of q
theorem rd_law_fold_ok : ∀ ds S P, (a1 sp_law_fold) ds S P → rd_law_fold (DEnds.of P) (dstart ["effects", "whole", "effect"] ds) S := by
  intro ds S P h
  rcases ds with _ | ⟨x, _ | ⟨z, ds⟩⟩ <;> first | exact (h : False).elim | skip
  obtain ⟨es, hx, he, q⟩ := (h : sp_law_fold x S P)
  unfold rd_law_fold
  walk_at "run"
  rcases hx with rfl | ⟨b, rfl, hb⟩
  · refine Or.inr ?_
    exact fold_loop he True.intro q
  · refine Or.inl ?_
    show (match itOf S (.ref b) with | some p => _ | none => False)
    have e : itOf S (.ref b) = some (fun S' => S' b = some (.lst (es.map efD)), es.map efD) := by
      simp only [itOf, hb]
    rw [e]
    exact fold_loop he hb q
theorem use_fold_t {es : List Eff} {S : Sto} {Q : DK} (he : Es es) (q : Q (oD (fold es)) S) : sp_law_fold (.tup (es.map efD)) S Q := ⟨es, .inl rfl, he, q⟩
theorem use_fold_r {es : List Eff} {b : Addr} {S : Sto} {Q : DK} (hb : S b = some (.lst (es.map efD))) (he : Es es) (q : Q (oD (fold es)) S) : sp_law_fold (.ref b) S Q := ⟨es, .inr ⟨b, rfl, hb⟩, he, q⟩
/-! ### net -/
def nr : List Int → List Int → Eff
  | x :: p, y :: q => if x = y then nr p q else ((x :: p).reverse, (y :: q).reverse)
  | p, q => (p.reverse, q.reverse)
theorem nr_cpl : ∀ p q : List Int, nr p q = ((p.drop (cpl p q)).reverse, (q.drop (cpl p q)).reverse)
  | [], q => by simp [nr, cpl]
  | x :: p, [] => by simp [nr, cpl]
  | x :: p, y :: q => by
    simp only [nr, cpl]
    by_cases e : x = y
    · rw [if_pos e, if_pos e, nr_cpl p q]
      rfl
    · rw [if_neg e, if_neg e]
      rfl
theorem nt_nr (e : Eff) : nt e = nr e.1.reverse e.2.reverse := by
  rw [nr_cpl]
  unfold nt
  rw [List.reverse_drop, List.reverse_drop]
  simp
theorem st_last {x : Int} {p : List Int} {S : Sto} {Q : DK} (h : Q (.int x) S) : vIx (.tup ((x :: p).reverse.map .int)) (.int (-1)) S Q := by
  rw [vIx_tup]
  have : atI ((x :: p).reverse.map D.int) (-1) = some (.int x) := by
    unfold atI ixN
    have hl : ((x :: p).reverse.map D.int).length = p.length + 1 := by simp
    rw [if_neg (by decide), if_pos (by rw [hl]; omega), show ((-1 : Int) + (((x :: p).reverse.map D.int).length : Int)).toNat = p.length by rw [hl]; omega]
    show ((x :: p).reverse.map D.int)[p.length]? = some (.int x)
    rw [List.getElem?_map, List.getElem?_reverse (by simp)]
    simp
  rw [this]
  exact h
theorem st_init {x : Int} {p : List Int} {S : Sto} {Q : DK} (h : Q (.tup (p.reverse.map .int)) S) : vSl (.tup ((x :: p).reverse.map .int)) none (some (-1)) S Q := by
  rw [vSl_tup, cut_map]
  have : cut (x :: p).reverse none (some (-1)) = p.reverse := by
    unfold cut
    rw [HT.sIx_none]
    have e : HT.sIx (x :: p).reverse.length (x :: p).reverse.length (some (-1)) = p.length := by
      show (if (-1 : Int) < 0 then ((-1 : Int) + ((x :: p).reverse.length : Int)).toNat else min (-1 : Int).toNat (x :: p).reverse.length) = p.length
      rw [if_pos (by decide), List.length_reverse, List.length_cons]
      omega
    rw [e]
    simp
  rw [this]
  exact h
def sp_law_net (x : D) (S : Sto) (Q : DK) : Prop := match asE x with
  | some e => Q (efD (nt e)) S
  | _ => False
-- _law_net : 0=effect 1=off 2=on
def rd_law_net : DTS :=
    (dSeq (dAsg (dVar 0) (dTg (.tp [1, 2])))
    (dSeq (dWhile (dAnd (dTest (dOp vGt (dCB vLen (dCons (dVar 1) dNil)) (dC (.int 0)))) (dAnd (dTest (dOp vGt (dCB vLen (dCons (dVar 2) dNil)) (dC (.int 0)))) (dTest (dOp vEq (dOp vIx (dVar 1) (dUn vNeg (dC (.int 1)))) (dOp vIx (dVar 2) (dUn vNeg (dC (.int 1)))))))) (dSeq (dAsg (dSl vSl (dVar 1) dNoPart (dPart (dUn vNeg (dC (.int 1))))) (dTg (.nm 1)))
    (dAsg (dSl vSl (dVar 2) dNoPart (dPart (dUn vNeg (dC (.int 1))))) (dTg (.nm 2)))))
    (dRet (dTup (dCons (dVar 1) (dCons (dVar 2) dNil))))))
theorem rd_law_net_ok : ∀ ds S P, (a1 sp_law_net) ds S P → rd_law_net (DEnds.of P) (dstart ["effect", "off", "on"] ds) S := by
  intro ds S P h
  rcases ds with _ | ⟨x, _ | ⟨z, ds⟩⟩ <;> first | exact (h : False).elim | skip
  simp only [a1, sp_law_net] at h
  split at h
  · rename_i e e1
    rw [asE_eq e1]
    obtain ⟨p0, q0⟩ := e
    rw [nt_nr] at h
    unfold rd_law_net
    walk_at "run"
    have fin : Fin_ P (efD (nr p0.reverse q0.reverse)) S := .of h
    refine ⟨p0.length + 1, whileN_inv (fun n δ S' => S' = S ∧ ∃ p q : List Int, n = p.length ∧ nr p q = nr p0.reverse q0.reverse ∧ δ = [some (efD (p0, q0)), some (.tup (p.reverse.map .int)), some (.tup (q.reverse.map .int))]) ?_ _ _ _ ⟨rfl, p0.reverse, q0.reverse, by simp, rfl, by simp⟩⟩
    rintro n _ S1 ⟨rfl, p, q, rfl, er, rfl⟩ D2 hrt _ hnx _
    rcases p with _ | ⟨x, p⟩
    · walk_at "run"
      rw [← er, show nr [] q = ([], q.reverse) by cases q <;> rfl] at fin
      exact fin
    · rcases q with _ | ⟨y, q⟩
      · walk_at "run"
        rw [← er, show nr (x :: p) [] = ((x :: p).reverse, []) from rfl] at fin
        exact fin
      · walk_at "run"
        refine st_last ?_
        walk_at "run"
        refine st_last ?_
        by_cases e : x = y
        · subst e
          walk_at "run"
          refine st_init ?_
          walk_at "run"
          refine st_init ?_
          walk_at "run"
          exact hnx _ _ _ rfl ⟨rfl, p, q, rfl, by rw [← er]; simp [nr], rfl⟩
        · walk_at "run"
          rw [← er] at fin
          simp only [nr, if_neg e] at fin
          exact fin
  · exact h.elim
/-! ### after, stays, goes -/
def stD (p : List Int) (e : Eff) : D := if cpl e.1 p = e.1.length then .tup [.str "told", .tup ((e.2 ++ p.drop e.1.length).map .int)] else .tup [.str "jam", .int (cpl e.1 p : Nat)]
theorem use_after {p : List Int} {e : Eff} {S : Sto} {Q : DK} {E : DXK} (h1 : Sm p) (h2 : SmE e) (q1 : cpl e.1 p = e.1.length → Q (.tup ((e.2 ++ p.drop e.1.length).map .int)) S) (q2 : cpl e.1 p ≠ e.1.length → E "Jam" [("place", .int (cpl e.1 p : Nat))] S) : sp_after (.tup (p.map .int)) (efD e) S Q E := by
  simp only [sp_after, efD, asE_ef, asP_pl]
  exact ⟨h1, h2, q1, q2⟩
def sp_law_after (x y : D) (S : Sto) (Q : DK) : Prop := match asP x, asE y with
  | some p, some e => Sm p ∧ SmE e ∧ Q (stD p e) S
  | _, _ => False
-- _law_after : 0=pile 1=effect 2=e
def rd_law_after : DTS :=
    (dTry subT (fun QX => (dRet (dTup (dCons (dC (.str "told")) (dCons (dCallX (x2 sp_after) QX (dCons (dVar 0) (dCons (dVar 1) dNil))) dNil))))) (("Jam", some 2, fun a fs => (dRet (dTup (dCons (dC (.str "jam")) (dCons (dXf a fs "place" (dVar 2)) dNil))))) :: (("PileError", none, fun a fs => (dRet (dTup (dCons (dC (.str "other")) (dCons (dC (.int 0)) dNil))))) :: [])) dNoX)
theorem rd_law_after_ok : ∀ ds S P, (a2 sp_law_after) ds S P → rd_law_after (DEnds.of P) (dstart ["pile", "effect", "e"] ds) S := by
  intro ds S P h
  rcases ds with _ | ⟨x, _ | ⟨y, _ | ⟨z, ds⟩⟩⟩ <;> first | exact (h : False).elim | skip
  simp only [a2, sp_law_after] at h
  split at h
  · rename_i p e e1 e2
    obtain ⟨h1, h2, q⟩ := h
    rw [asE_eq e2, asP_eq e1]
    unfold rd_law_after
    unfold stD at q
    walk_at "run"
    refine use_after h1 h2 (fun c => ?_) fun c => ?_
    · rw [if_pos c] at q
      walk_at "run"
      exact .of q
    · rw [if_neg c] at q
      refine st_caught rfl fun a _ => ?_
      walk_at "run"
      refine st_xf rfl ?_
      walk_at "run"
      exact .of q
  · exact h.elim
theorem use_law_after {p : List Int} {e : Eff} {S : Sto} {Q : DK} (h1 : Sm p) (h2 : SmE e) (q : Q (stD p e) S) : sp_law_after (.tup (p.map .int)) (efD e) S Q := by
  simp only [sp_law_after, efD, asE_ef, asP_pl]
  exact ⟨h1, h2, q⟩
def sp_law_stays (x y : D) (S : Sto) (Q : DK) : Prop := match asP x, asE y with
  | some p, some e => Sm p ∧ SmE e ∧ Q (stD p e) S
  | _, _ => False
-- _law_stays : 0=pile 1=effect 2=at
def rd_law_stays : DTS :=
    (dSeq (dFor (iRange1 (dCB vLen (dCons (dOp vIx (dVar 1) (dC (.int 0))) dNil))) (dTg (.nm 2)) (dIf (dOr (dTest (dOp vGe (dVar 2) (dCB vLen (dCons (dVar 0) dNil)))) (dTest (dOp vNe (dOp vIx (dVar 0) (dVar 2)) (dOp vIx (dOp vIx (dVar 1) (dC (.int 0))) (dVar 2))))) (dRet (dTup (dCons (dC (.str "jam")) (dCons (dVar 2) dNil)))) dNext))
    (dRet (dTup (dCons (dC (.str "told")) (dCons (dOp vAdd (dOp vIx (dVar 1) (dC (.int 1))) (dSl vSl (dVar 0) (dPart (dCB vLen (dCons (dOp vIx (dVar 1) (dC (.int 0))) dNil))) dNoPart)) dNil)))))
theorem rd_law_stays_ok : ∀ ds S P, (a2 sp_law_stays) ds S P → rd_law_stays (DEnds.of P) (dstart ["pile", "effect", "at"] ds) S := by
  intro ds S P h
  rcases ds with _ | ⟨x, _ | ⟨y, _ | ⟨z, ds⟩⟩⟩ <;> first | exact (h : False).elim | skip
  simp only [a2, sp_law_stays] at h
  split at h
  · rename_i p e e1 e2
    obtain ⟨h1, ⟨h2, h3⟩, q⟩ := h
    unfold Sm at h1 h2 h3
    rw [asE_eq e2, asP_eq e1]
    unfold rd_law_stays
    have fin : Fin_ P (stD p e) S := .of q
    unfold stD at fin
    obtain ⟨l1, l2⟩ := cpl_le e.1 p
    walk_at "run"
    refine ⟨by omega, by omega, ?_⟩
    refine forL_inv (fun i δ S' => S' = S ∧ i ≤ cpl e.1 p ∧ ∃ x, δ = [some (.tup (p.map .int)), some (efD e), x]) (fun _ _ _ _ => True.intro) _ 0 _ _ ⟨rfl, Nat.zero_le _, none, rfl⟩ ?_ ?_
    · rintro j d _ S1 hj ⟨rfl, hc, x, rfl⟩ D2 hrt _ hnx _
      rw [Nat.zero_add] at hc
      have hjn : j < e.1.length := by
        have := (List.getElem?_eq_some_iff.mp hj).1
        simp [rngD] at this
        exact this
      have ed : d = .int (j : Nat) := by
        simp only [rngD, List.getElem?_map, Int.toNat_natCast] at hj
        rw [List.getElem?_range hjn] at hj
        simp at hj
        exact hj.symm
      subst ed
      have hst := cpl_step e.1 p j hc
      have out : cpl e.1 p = j → Fin_ P (.tup [.str "jam", .int (j : Nat)]) S1 := fun em => by
        rw [if_neg (by omega), em] at fin
        exact fin
      by_cases c2 : j < p.length
      · walk_at "run"
        refine st_ixm (List.getElem?_eq_getElem c2) ?_
        walk_at "run"
        refine st_ixm (List.getElem?_eq_getElem hjn) ?_
        rw [List.getElem?_eq_getElem c2, List.getElem?_eq_getElem hjn] at hst
        by_cases c4 : p[j] = e.1[j]
        · walk_at "run"
          have : j < cpl e.1 p := hst.mpr ⟨hjn, c2, by rw [c4]⟩
          exact hnx _ _ ⟨rfl, by omega, _, rfl⟩
        · walk_at "run"
          have em : cpl e.1 p = j := by
            have : ¬ j < cpl e.1 p := fun z => c4 (by have := (hst.mp z).2.2; simpa using this.symm)
            omega
          show D2.rt _ _
          rw [hrt]
          exact out em
      · walk_at "run"
        show D2.rt _ _
        rw [hrt]
        exact out (by omega)
    · rintro _ S1 ⟨rfl, hc, x, rfl⟩
      have em : cpl e.1 p = e.1.length := by
        simp only [rngD, List.length_map, List.length_range, Int.toNat_natCast, Nat.zero_add] at hc
        omega
      rw [if_pos em] at fin
      walk_at "run"
      exact fin
  · exact h.elim
theorem use_stays {p : List Int} {e : Eff} {S : Sto} {Q : DK} (h1 : Sm p) (h2 : SmE e) (q : Q (stD p e) S) : sp_law_stays (.tup (p.map .int)) (efD e) S Q := by
  simp only [sp_law_stays, efD, asE_ef, asP_pl]
  exact ⟨h1, h2, q⟩
theorem use_goes_through {p : List Int} {e : Eff} {S : Sto} {Q : DK} (h : Q (.bl (decide (p.take e.1.length = e.1))) S) : sp_goes_through (.tup (p.map .int)) (efD e) S Q := by
  simp only [sp_goes_through, efD, asE_ef, asP_pl]
  exact h
def SmP (p : List Int) : Prop := p.length ≤ 50000
def sp_law_goes (x y : D) (S : Sto) (Q : DK) : Prop := match asP x, asE y with
  | some p, some e => SmP p ∧ SmP e.1 ∧ SmP e.2 ∧ Q (.bl true) S
  | _, _ => False
-- _law_goes : 0=pile 1=effect 2=due 3=told
def rd_law_goes : DTS :=
    (dSeq (dAsg (dCall (a2 sp_law_stays) (dCons (dVar 0) (dCons (dVar 1) dNil))) (dTg (.nm 2)))
    (dSeq (dAsg (dCall (a2 sp_law_after) (dCons (dVar 0) (dCons (dVar 1) dNil))) (dTg (.nm 3)))
    (dRet (dAndV (dOp vEq (dOp vIx (dVar 3) (dC (.int 0))) (dOp vIx (dVar 2) (dC (.int 0)))) (dAndV (dCall (a2 sp_law_same) (dCons (dOp vIx (dVar 3) (dC (.int 1))) (dCons (dOp vIx (dVar 2) (dC (.int 1))) dNil))) (dCall (a2 sp_law_same) (dCons (dCall (a2 sp_goes_through) (dCons (dVar 0) (dCons (dVar 1) dNil))) (dCons (dOp vEq (dOp vIx (dVar 2) (dC (.int 0))) (dC (.str "told"))) dNil))))))))
theorem rd_law_goes_ok : ∀ ds S P, (a2 sp_law_goes) ds S P → rd_law_goes (DEnds.of P) (dstart ["pile", "effect", "due", "told"] ds) S := by
  intro ds S P h
  rcases ds with _ | ⟨x, _ | ⟨y, _ | ⟨z, ds⟩⟩⟩ <;> first | exact (h : False).elim | skip
  simp only [a2, sp_law_goes] at h
  split at h
  · rename_i p e e1 e2
    obtain ⟨h1, h2, h3, q⟩ := h
    unfold SmP at h1 h2 h3
    rw [asE_eq e2, asP_eq e1]
    have sp : Sm p := by unfold Sm; omega
    have se : SmE e := ⟨by unfold Sm; omega, by unfold Sm; omega⟩
    unfold rd_law_goes
    walk_at "run"
    refine use_stays sp se ?_
    walk_at "run"
    refine use_law_after sp se ?_
    have ca := cpl_all e.1 p
    unfold stD
    by_cases c : cpl e.1 p = e.1.length
    · rw [if_pos c]
      walk_at "run"
      refine use_same rfl ?_ ?_
      · exact due_p (by unfold Sm; simp only [List.length_append, List.length_drop]; omega)
      walk_at "run"
      refine use_goes_through ?_
      walk_at "run"
      refine use_same (by rw [decide_eq_true (ca.mpr c)]; rfl) rfl ?_
      exact .of q
    · rw [if_neg c]
      walk_at "run"
      refine use_same rfl ?_ ?_
      · rfl
      walk_at "run"
      refine use_goes_through ?_
      walk_at "run"
      refine use_same (by rw [decide_eq_false (fun z => c (ca.mp z))]; rfl) rfl ?_
      exact .of q
  · exact h.elim
theorem use_goes {p : List Int} {e : Eff} {S : Sto} {Q : DK} (h1 : SmP p) (h2 : SmP e.1) (h3 : SmP e.2) (q : Q (.bl true) S) : sp_law_goes (.tup (p.map .int)) (.tup [.tup (e.1.map .int), .tup (e.2.map .int)]) S Q := by
  simp only [sp_law_goes, asE_ef, asP_pl]
  exact ⟨h1, h2, h3, q⟩
end L3

set_option Elab.async false
set_option maxRecDepth 100000
set_option linter.all false
set_option maxHeartbeats 4000000
namespace L3
open PySem L2
local macro_rules | `(tactic| walk_at "rd") => `(tactic| try simp only [dSeq, dAsg, dOp, dUn, dVar, dC, dCons, dNil, dTup, dLst, dLstM, dTest, dChain, dAnd, dOr, dNot, dAndV, dOrV, dNotV, dIfE, dCB, dCall, dSl, dPart, dNoPart, dIf, dRet, dRetN, dNext, dDrop, dTg, setAll, slot, dset, dwipe, dAug,
  a0, a1, a2, a3, a4, a5, a6, dLc, iTupD, iRange1, iRange2, dYes, dLM, dgSub, DEnds.of, dstart,
  vAt_some, vAtL_lst, vIx_tup, vIx_lst, vIx_ro, vIx_ref, vSl_tup, vSl_lst, vSl_ro, vSl_ref, vSlL_lst, vLen_tup, vLen_lst, vLen_ro, vLen_ref, vLenL_lst, vLenL_dK, vAdd_int, vAdd_tup, vAdd_lst, vAdd_ref, vAddL_lst, vSub_int, vLt_int, vLe_int, vGt_int, vGe_int, vMod_int, vDiv_int, vPow_int, vShl_int, vMul_int, vMul_tup, vMul_lst,
  vEq_int, vEq_str, vEq_bl, vEq_tup, vEq_lst, vNe_int, vNe_str, vNe_bl, vNe_tup, isN_non, isN_bl, isN_int, isN_str, isN_tup, isN_lst, isN_ref, vIs_non, vIsNot_non, vNeg_int, vInt_int, vInt_bl, vBool_int, vBool_bl, vAbs_int, vMin2_int, vMax2_int, vTuple_tup, vTuple_lst, vTuple_ref, vTupleL_lst, vList_tup, vList_lst,
  vAllO_some, vAll_x, vAny_x, seqOf_lst, vIsi_x, vIadd_int, vAppL_lst, vAppend_ref, vSetN_some, vSetO_lst, vSet_ref, isSeq_ref, ex_lst, all1,
  isiT_int_int, isiT_int_bool, isiT_int_tuple, isiT_int_str, isiT_int_list, isiT_bl_int, isiT_bl_bool, isiT_bl_tuple, isiT_bl_str, isiT_bl_list, isiT_non_int, isiT_non_bool, isiT_non_tuple, isiT_non_str, isiT_non_list, isiT_str_int, isiT_str_bool, isiT_str_tuple, isiT_str_str, isiT_str_list, isiT_tup_int, isiT_tup_bool, isiT_tup_tuple, isiT_tup_str, isiT_tup_list, isiT_lst_int, isiT_lst_bool, isiT_lst_tuple, isiT_lst_str, isiT_lst_list,
  Option.map_some, Option.bind_some, List.map_cons, List.map_nil, List.length_cons, List.length_nil, List.cons_append, List.nil_append, List.replicate, List.set, List.append_nil, atI_0, atI_1, atI_2, atI_3, atI_4, atI_5, List.length_map, Nat.zero_add, Nat.reduceAdd, Nat.reduceSub, Nat.reduceLeDiff, true_and, and_true, Bool.false_eq_true, if_true, if_false, decide_eq_true_eq, reduceIte, ite_true, ite_false,
  Bool.not_true, Bool.not_false, List.length_append, cut_from, cut_to, sup_same, sup_sup, Option.some.injEq, exists_eq_left', exists_eq_left])
local macro_rules | `(tactic| walk_at "cond") => `(tactic| first | omega | (simp only [List.length_append, List.length_cons, List.length_nil, List.length_take, List.length_drop, List.length_map, List.length_reverse]; omega) | rfl | decide)
local macro_rules | `(tactic| walk_at "side") => `(tactic| first | assumption | omega | (simp only [List.length_append, List.length_cons, List.length_nil, List.length_take, List.length_drop, List.length_map, List.length_reverse, sizeLine_val]; omega) | decide)
local macro_rules | `(tactic| walk_at "st") => `(tactic| first
  | with_reducible refine st_ix0 ?_ | with_reducible refine st_ix1 ?_ | with_reducible refine st_ix2 ?_ | with_reducible refine st_ix3 ?_ | with_reducible refine st_ix4 ?_
  | with_reducible refine st_add_pp (by walk_at "side") ?_ | with_reducible refine st_add_p1 (by walk_at "side") ?_ | with_reducible refine st_add_1p (by walk_at "side") ?_
  | with_reducible refine st_add ?_ | with_reducible refine st_sub ?_ | with_reducible refine st_iadd ?_ | with_reducible refine st_neg ?_
  | with_reducible refine st_len_p ?_ | with_reducible refine st_len_lp ?_ | with_reducible refine st_len_rp ?_ | with_reducible refine st_len_t ?_ | with_reducible refine st_len_l ?_
  | with_reducible refine st_lm0 ?_ | with_reducible refine st_ltail ?_ | with_reducible refine st_add_ll (by walk_at "side") ?_
  | with_reducible refine st_add_t (by walk_at "side") ?_ | with_reducible refine st_add_l (by walk_at "side") ?_ | with_reducible refine st_add_s (by walk_at "side") ?_
  | with_reducible refine st_iteT ?_ | with_reducible refine st_iteF ?_ | with_reducible refine st_not ?_
  | with_reducible refine st_lt ?_ | with_reducible refine st_le ?_ | with_reducible refine st_gt ?_ | with_reducible refine st_ge ?_ | with_reducible refine st_eqi ?_ | with_reducible refine st_nei ?_ | with_reducible refine st_eqs ?_ | with_reducible refine st_nes ?_ | with_reducible refine st_eqb ?_
  | with_reducible refine st_isn_non ?_ | with_reducible refine st_isn_int ?_ | with_reducible refine st_isn_tup ?_ | with_reducible refine st_isn_str ?_ | with_reducible refine st_isn_bl ?_
  | with_reducible refine st_isnt_non ?_ | with_reducible refine st_isnt_int ?_ | with_reducible refine st_isnt_tup ?_ | with_reducible refine st_isnt_str ?_
  | with_reducible refine st_int ?_ | with_reducible refine st_intb ?_ | with_reducible refine st_abs ?_ | with_reducible refine st_min2 ?_ | with_reducible refine st_max2 ?_
  | with_reducible refine st_tup_l ?_ | with_reducible refine st_tup_t ?_ | with_reducible refine st_lst_t ?_ | with_reducible refine st_lst_l ?_
  | with_reducible refine st_sl_from ?_ | with_reducible refine st_sl_to ?_
  | with_reducible refine st_lx0 ?_ | with_reducible refine st_lx1 ?_ | with_reducible refine st_lx2 ?_ | with_reducible refine st_lx3 ?_
  | with_reducible refine st_mod (by walk_at "side") ?_ | with_reducible refine st_div (by walk_at "side") ?_ | with_reducible refine st_mul (by walk_at "side") ?_ | with_reducible refine st_mul' (by walk_at "side") ?_
  | with_reducible refine st_isi rfl ?_
  | (with_reducible refine And.intro (Nat.le_of_ble_eq_true rfl) ?_)
  | (refine And.intro (rfl : (_ : Nat) = _) ?_)
  | with_reducible refine st_dT (by walk_at "cond") ?_ | with_reducible refine st_dF (by walk_at "cond") ?_)
local macro_rules | `(tactic| walk_at "hd") => `(tactic| (with_reducible conv => whnf))
local macro_rules | `(tactic| walk_at "run") => `(tactic| ((with_reducible conv => whnf); repeat (walk_at "st"; (with_reducible conv => whnf))))
/-! ### the cup -/
def sp_law_cup (script : D) (S : Sto) (Q : DK) : Prop := ∃ ns : List Int, script = .ro (ns.map .int) ∧ ns.length ≤ 63 ∧ ∀ b so, S b = none → Ok so → cnt so = 0 → Q (.ref b) (sup S b so)
-- _law_cup : 0=script 1=total 2=shaken 3=cell 4=size 5=turn 6=part
def rd_law_cup : DTS :=
    (dSeq (dAsg (dC (.int 17)) (dTg (.nm 1)))
    (dSeq (dAsg (dLstM dNil) (dTg (.nm 2)))
    (dSeq (dFor (iSeq (dSl vSl (dVar 0) dNoPart (dPart (dC (.int 70))))) (dTg (.nm 3)) (dSeq (dAsg (dIfE (dTest (dOp vGe (dVar 3) (dC (.int 0)))) (dCB vInt (dCons (dVar 3) dNil)) (dOp vSub (dC (.int 5)) (dOp vMul (dC (.int 3)) (dCB vInt (dCons (dVar 3) dNil))))) (dTg (.nm 4)))
    (dSeq (dAsg (dOp vMod (dVar 4) (dOp vShl (dC (.int 1)) (dC (.int 120)))) (dTg (.nm 4)))
    (dSeq (dAsg (dOp vMod (dCB vInt (dCons (dOp vAdd (dOp vAdd (dOp vMul (dVar 1) (dC (.int 127))) (dOp vMod (dVar 4) (dC (.int 50021)))) (dC (.int 3))) dNil)) (dC (.int 1000003))) (dTg (.nm 1)))
    (dFor (iRange1 (dC (.int 8))) (dTg (.nm 5)) (dSeq (dDrop (dLM vAppend (dVar 2) (dCons (dOp vMod (dCB vInt (dCons (dVar 4) dNil)) (dC (.int 32771))) dNil)))
    (dAsg (dOp vDiv (dVar 4) (dC (.int 32771))) (dTg (.nm 4)))))))))
    (dRet (dLstM (dCons (dVar 1) (dCons (dC (.int 0)) (dCons (dOp vAdd (dLc (iSeq (dVar 2)) (dTg (.nm 6)) (dTest (dOp vGt (dVar 6) (dC (.int 0)))) (dVar 6) [6]) (dLst (dCons (dC (.int 11)) dNil))) dNil))))))))
theorem st_append {A : Addr} {d : D} {xs : List D} {S : Sto} {Q : DK} (hS : S A = some (.lst xs)) (h1 : xs.length < sizeLine) (h : Q .non (sup S A (.lst (xs ++ [d])))) : vAppend (.ref A) [d] S Q := by
  rw [vAppend_ref, hS]
  exact ⟨h1, h⟩
theorem st_sl_r {xs : List D} {lo hi : Option Int} {S : Sto} {Q : DK} (h : Q (.lst (cut xs lo hi)) S) : vSl (.ro xs) lo hi S Q := h
theorem st_shl {i j : Int} {S : Sto} {Q : DK} (h1 : CPow i j) (h : Q (.int (i * 2 ^ j.toNat)) S) : vShl (.int i) (.int j) S Q := ⟨h1, h⟩
theorem map_snoc (p : List Int) (y : Int) : p.map D.int ++ [.int y] = (p ++ [y]).map .int := by simp
/-- a comprehension that leaves out -/
theorem lcL_filter {te : DTE} {tt : DTT} {vs : List Nat} {δ : DSt} {i : Nat} {kp : Sto → Prop} {S : Sto} {Q : DK} (f : Int → Bool) (hk : kp S) : ∀ (ns acc : List Int), acc.length + ns.length ≤ 100000 →
    (∀ n, ∀ P : Bool → Sto → Prop, P (f n) S → tt (dset (dwipe δ vs) i (some (.int n))) S P) → (∀ n, ∀ P : DK, P (.int n) S → te (dset (dwipe δ vs) i (some (.int n))) S P) → Q (.lst ((acc ++ ns.filter f).map .int)) S →
    lcL kp (dTg (.nm i)) tt te vs δ (ns.map .int) (acc.map .int) S Q
  | [], acc, _, _, _, q => ⟨hk, by simpa using q⟩
  | n :: ns, acc, hz, ht, he, q => by
    simp only [List.length_cons] at hz
    refine ⟨hk, by rw [List.length_map, sizeLine_val]; omega, ht n _ ?_⟩
    cases e : f n with
    | true =>
      show (if true = true then te _ S _ else _)
      rw [if_pos rfl]
      refine he n _ ?_
      rw [map_snoc]
      refine lcL_filter f hk ns (acc ++ [n]) (by simp only [List.length_append, List.length_cons, List.length_nil]; omega) ht he ?_
      simpa [List.filter_cons, e] using q
    | false =>
      show (if false = true then _ else lcL _ _ _ _ _ _ _ _ _ _)
      rw [if_neg Bool.false_ne_true]
      refine lcL_filter f hk ns acc (by omega) ht he ?_
      simpa [List.filter_cons, e] using q
theorem cup_turns {p : Addr} {S : Sto} {D2 : DEnds} {x0 c u : Option D} {t : Int} (figs : List Int) (size : Int) (l0 : 0 ≤ size) (hs : figs.length ≤ 1000) (hx : ∀ x ∈ figs, 0 ≤ x ∧ x < 32771)
    (done : ∀ (figs' : List Int) (sz : Int) (o : Option D), figs'.length ≤ figs.length + 8 → (∀ x ∈ figs', 0 ≤ x ∧ x < 32771) → D2.nx [x0, some (.int t), some (.ref p), c, some (.int sz), o, none] (sup S p (.lst (figs'.map .int)))) :
    forL (fun _ => True) (dTg (.nm 5)) (dSeq (dDrop (dLM vAppend (dVar 2) (dCons (dOp vMod (dCB vInt (dCons (dVar 4) dNil)) (dC (.int 32771))) dNil))) (dAsg (dOp vDiv (dVar 4) (dC (.int 32771))) (dTg (.nm 4)))) (rngD 0 (Int.toNat 8)) D2
      [x0, some (.int t), some (.ref p), c, some (.int size), u, none] (sup S p (.lst (figs.map .int))) := by
  refine forL_inv (fun i δ S' => ∃ (figs' : List Int) (sz : Int) (o : Option D), S' = sup S p (.lst (figs'.map .int)) ∧ 0 ≤ sz ∧ figs'.length ≤ figs.length + i ∧ (∀ x ∈ figs', 0 ≤ x ∧ x < 32771) ∧ δ = [x0, some (.int t), some (.ref p), c, some (.int sz), o, none]) (fun _ _ _ _ => True.intro) _ 0 _ _ ⟨figs, size, u, rfl, l0, Nat.le_refl _, hx, rfl⟩ ?_ ?_
  · rintro j d _ _ hj ⟨figs', sz, o, rfl, s0, hl, hx', rfl⟩ D3 hrt _ hnx _
    have hj8 : j < 8 := (List.getElem?_eq_some_iff.mp hj).1
    walk_at "run"
    rw [isSeq_ref]
    refine ⟨⟨_, sup_same⟩, ?_⟩
    walk_at "run"
    refine st_append sup_same ?_ ?_
    · rw [List.length_map, sizeLine_val]
      omega
    walk_at "run"
    rw [map_snoc, sup_sup]
    refine hnx _ _ ⟨figs' ++ [sz % 32771], _, _, rfl, Int.ediv_nonneg s0 (by decide), by simp only [List.length_append, List.length_cons, List.length_nil]; omega, fun x h => ?_, rfl⟩
    rcases List.mem_append.mp h with h | h
    · exact hx' x h
    · simp at h
      subst h
      exact ⟨Int.emod_nonneg _ (by decide), Int.emod_lt_of_pos _ (by decide)⟩
  · rintro _ _ ⟨figs', sz, o, rfl, s0, hl, hx', rfl⟩
    exact done figs' sz o (by simpa [rngD] using hl) hx'
theorem rd_law_cup_ok : ∀ ds S P, (a1 sp_law_cup) ds S P → rd_law_cup (DEnds.of P) (dstart ["script", "total", "shaken", "cell", "size", "turn", "part"] ds) S := by
  intro ds S P h
  rcases ds with _ | ⟨x, _ | ⟨y, ds⟩⟩ <;> first | exact (h : False).elim | skip
  obtain ⟨ns, rfl, hl, q⟩ := (h : sp_law_cup x S P)
  unfold rd_law_cup
  walk_at "run"
  intro p hp
  walk_at "run"
  refine st_sl_r ?_
  walk_at "run"
  rw [cut_map]
  have hcl : (cut ns none (some 70)).length ≤ 63 := by
    rw [show (70 : Int) = ((70 : Nat) : Int) from rfl, cut_to, List.length_take]
    omega
  generalize cut ns none (some 70) = cells at hcl ⊢
  refine forL_inv (fun i δ S' => ∃ (figs : List Int) (t : Int) (c l u : Option D), S' = sup S p (.lst (figs.map .int)) ∧ figs.length ≤ 8 * i ∧ (∀ x ∈ figs, 0 ≤ x ∧ x < 32771) ∧ 0 ≤ t ∧ t < 1000003 ∧ δ = [some (.ro (ns.map .int)), some (.int t), some (.ref p), c, l, u, none]) (fun _ _ _ _ => True.intro) _ 0 _ _ ⟨[], 17, none, none, none, rfl, by simp, (fun x hx => by cases hx), by omega, by omega, rfl⟩ ?_ ?_
  · rintro j d _ _ hj ⟨figs, t, c, l, u, rfl, hf, hx, t0, t1, rfl⟩ D2 hrt _ hnx _
    rw [List.getElem?_map] at hj
    cases e : cells[j]? with
    | none => rw [e] at hj; cases hj
    | some n =>
    have hj63 : j < 63 := by
      have := (List.getElem?_eq_some_iff.mp e).1
      omega
    rw [e] at hj
    cases hj
    have m0 : ∀ z : Int, 0 ≤ (t * 127 + z % 50021 + 3) % 1000003 := fun z => Int.emod_nonneg _ (by decide)
    have m1 : ∀ z : Int, (t * 127 + z % 50021 + 3) % 1000003 < 1000003 := fun z => Int.emod_lt_of_pos _ (by decide)
    have l0 : ∀ z : Int, 0 ≤ z % (1 * 2 ^ Int.toNat 120) := fun z => Int.emod_nonneg _ (by decide)
    have b0 : ∀ z : Int, 0 ≤ z % 50021 ∧ z % 50021 < 50021 := fun z => ⟨Int.emod_nonneg _ (by decide), Int.emod_lt_of_pos _ (by decide)⟩
    by_cases c0 : 0 ≤ n
    · walk_at "run"
      refine st_shl (by unfold CPow; decide) ?_
      walk_at "run"
      refine ⟨by decide, by decide, ?_⟩
      refine cup_turns figs _ (l0 _) (by omega) hx fun figs' sz o hl' hx' => ?_
      exact hnx _ _ ⟨figs', _, _, _, _, rfl, by omega, hx', m0 _, m1 _, rfl⟩
    · walk_at "run"
      refine st_shl (by unfold CPow; decide) ?_
      walk_at "run"
      refine ⟨by decide, by decide, ?_⟩
      refine cup_turns figs _ (l0 _) (by omega) hx fun figs' sz o hl' hx' => ?_
      exact hnx _ _ ⟨figs', _, _, _, _, rfl, by omega, hx', m0 _, m1 _, rfl⟩
  · rintro _ _ ⟨figs, t, c, l, u, rfl, hf, hx, t0, t1, rfl⟩
    have hf2 : figs.length ≤ 504 := by
      simp only [List.length_map] at hf
      omega
    walk_at "run"
    have e : itOf (sup S p (.lst (figs.map .int))) (.ref p) = some (fun S' => S' p = some (.lst (figs.map .int)), figs.map .int) := by
      simp only [itOf, sup_same]
    rw [e]
    refine lcL_filter (fun n => decide (0 < n)) sup_same figs [] (by simp only [List.length_nil]; omega) (fun n P h => ?_) (fun n P h => ?_) ?_
    · walk_at "run"
      exact h
    · exact h
    have hl2 : ([] ++ figs.filter fun n => decide (0 < n)).length ≤ 504 := Nat.le_trans (List.length_filter_le _ _) hf2
    have hx2 : ∀ x ∈ ([] ++ figs.filter fun n => decide (0 < n)), 0 ≤ x ∧ x < 32771 := fun x h => hx x (List.mem_filter.mp h).1
    generalize ([] ++ figs.filter fun n => decide (0 < n)) = part at hl2 hx2 ⊢
    walk_at "run"
    refine fun b hb => ⟨.ref b, sup S b (.lst [.int t, .int 0, .lst ((part ++ [11]).map .int)]), fun a o h => ?_, ?_, ?_⟩
    · by_cases e : a = b
      · subst e
        rw [sup_same] at h ⊢
        rw [← h]
        simp
      · rw [sup_ne e] at h ⊢
        by_cases e2 : a = p
        · subst e2
          rw [hp] at h
          cases h
        · rw [sup_ne e2]
          exact h
    · exact .refl _
    · refine q b _ ?_ ⟨t, 0, part ++ [11], rfl, by omega, by omega, by omega, by simp, fun x h => ?_⟩ rfl
      · by_cases e : b = p
        · subst e
          rw [sup_same] at hb
          cases hb
        · rw [sup_ne e] at hb
          exact hb
      · rcases List.mem_append.mp h with h | h
        · have := hx2 x h
          omega
        · simp at h
          omega
theorem use_cup {ns : List Int} {S : Sto} {Q : DK} (h : ns.length ≤ 63) (q : ∀ b so, S b = none → Ok so → cnt so = 0 → Q (.ref b) (sup S b so)) : sp_law_cup (.ro (ns.map .int)) S Q := ⟨ns, rfl, h, q⟩
end L3

set_option Elab.async false
set_option maxRecDepth 100000
set_option linter.all false
set_option maxHeartbeats 4000000
namespace L3
open PySem L2
local macro_rules | `(tactic| walk_at "rd") => `(tactic| try simp only [dSeq, dAsg, dOp, dUn, dVar, dC, dCons, dNil, dTup, dLst, dLstM, dTest, dChain, dAnd, dOr, dNot, dAndV, dOrV, dNotV, dIfE, dCB, dCall, dSl, dPart, dNoPart, dIf, dRet, dRetN, dNext, dDrop, dTg, setAll, slot, dset, dwipe, dAug,
  a0, a1, a2, a3, a4, a5, a6, dLc, iTupD, iRange1, iRange2, dYes, dLM, dgSub, DEnds.of, dstart,
  vAt_some, vAtL_lst, vIx_tup, vIx_lst, vIx_ro, vIx_ref, vSl_tup, vSl_lst, vSl_ro, vSl_ref, vSlL_lst, vLen_tup, vLen_lst, vLen_ro, vLen_ref, vLenL_lst, vLenL_dK, vAdd_int, vAdd_tup, vAdd_lst, vAdd_ref, vAddL_lst, vSub_int, vLt_int, vLe_int, vGt_int, vGe_int, vMod_int, vDiv_int, vPow_int, vShl_int, vMul_int, vMul_tup, vMul_lst,
  vEq_int, vEq_str, vEq_bl, vEq_tup, vEq_lst, vNe_int, vNe_str, vNe_bl, vNe_tup, isN_non, isN_bl, isN_int, isN_str, isN_tup, isN_lst, isN_ref, vIs_non, vIsNot_non, vNeg_int, vInt_int, vInt_bl, vBool_int, vBool_bl, vAbs_int, vMin2_int, vMax2_int, vTuple_tup, vTuple_lst, vTuple_ref, vTupleL_lst, vList_tup, vList_lst,
  vAllO_some, vAll_x, vAny_x, seqOf_lst, vIsi_x, vIadd_int, vAppL_lst, vAppend_ref, vSetN_some, vSetO_lst, vSet_ref, isSeq_ref, ex_lst, all1,
  isiT_int_int, isiT_int_bool, isiT_int_tuple, isiT_int_str, isiT_int_list, isiT_bl_int, isiT_bl_bool, isiT_bl_tuple, isiT_bl_str, isiT_bl_list, isiT_non_int, isiT_non_bool, isiT_non_tuple, isiT_non_str, isiT_non_list, isiT_str_int, isiT_str_bool, isiT_str_tuple, isiT_str_str, isiT_str_list, isiT_tup_int, isiT_tup_bool, isiT_tup_tuple, isiT_tup_str, isiT_tup_list, isiT_lst_int, isiT_lst_bool, isiT_lst_tuple, isiT_lst_str, isiT_lst_list,
  Option.map_some, Option.bind_some, List.map_cons, List.map_nil, List.length_cons, List.length_nil, List.cons_append, List.nil_append, List.replicate, List.set, List.append_nil, atI_0, atI_1, atI_2, atI_3, atI_4, atI_5, List.length_map, Nat.zero_add, Nat.reduceAdd, Nat.reduceSub, Nat.reduceLeDiff, true_and, and_true, Bool.false_eq_true, if_true, if_false, decide_eq_true_eq, reduceIte, ite_true, ite_false,
  Bool.not_true, Bool.not_false, List.length_append, cut_from, cut_to, sup_same, sup_sup, Option.some.injEq, exists_eq_left', exists_eq_left])
local macro_rules | `(tactic| walk_at "cond") => `(tactic| first | omega | (simp only [List.length_append, List.length_cons, List.length_nil, List.length_take, List.length_drop, List.length_map, List.length_reverse]; omega) | rfl | decide)
local macro_rules | `(tactic| walk_at "side") => `(tactic| first | assumption | omega | (simp only [List.length_append, List.length_cons, List.length_nil, List.length_take, List.length_drop, List.length_map, List.length_reverse, sizeLine_val]; omega) | decide)
local macro_rules | `(tactic| walk_at "st") => `(tactic| first
  | with_reducible refine st_ix0 ?_ | with_reducible refine st_ix1 ?_ | with_reducible refine st_ix2 ?_ | with_reducible refine st_ix3 ?_ | with_reducible refine st_ix4 ?_
  | with_reducible refine st_add_pp (by walk_at "side") ?_ | with_reducible refine st_add_p1 (by walk_at "side") ?_ | with_reducible refine st_add_1p (by walk_at "side") ?_
  | with_reducible refine st_add ?_ | with_reducible refine st_sub ?_ | with_reducible refine st_iadd ?_ | with_reducible refine st_neg ?_
  | with_reducible refine st_len_p ?_ | with_reducible refine st_len_lp ?_ | with_reducible refine st_len_rp ?_ | with_reducible refine st_len_t ?_ | with_reducible refine st_len_l ?_
  | with_reducible refine st_lm0 ?_ | with_reducible refine st_ltail ?_ | with_reducible refine st_add_ll (by walk_at "side") ?_
  | with_reducible refine st_add_t (by walk_at "side") ?_ | with_reducible refine st_add_l (by walk_at "side") ?_ | with_reducible refine st_add_s (by walk_at "side") ?_
  | with_reducible refine st_iteT ?_ | with_reducible refine st_iteF ?_ | with_reducible refine st_not ?_
  | with_reducible refine st_lt ?_ | with_reducible refine st_le ?_ | with_reducible refine st_gt ?_ | with_reducible refine st_ge ?_ | with_reducible refine st_eqi ?_ | with_reducible refine st_nei ?_ | with_reducible refine st_eqs ?_ | with_reducible refine st_nes ?_ | with_reducible refine st_eqb ?_
  | with_reducible refine st_isn_non ?_ | with_reducible refine st_isn_int ?_ | with_reducible refine st_isn_tup ?_ | with_reducible refine st_isn_str ?_ | with_reducible refine st_isn_bl ?_
  | with_reducible refine st_isnt_non ?_ | with_reducible refine st_isnt_int ?_ | with_reducible refine st_isnt_tup ?_ | with_reducible refine st_isnt_str ?_
  | with_reducible refine st_int ?_ | with_reducible refine st_intb ?_ | with_reducible refine st_abs ?_ | with_reducible refine st_min2 ?_ | with_reducible refine st_max2 ?_
  | with_reducible refine st_tup_l ?_ | with_reducible refine st_tup_t ?_ | with_reducible refine st_lst_t ?_ | with_reducible refine st_lst_l ?_
  | with_reducible refine st_sl_from ?_ | with_reducible refine st_sl_to ?_
  | with_reducible refine st_lx0 ?_ | with_reducible refine st_lx1 ?_ | with_reducible refine st_lx2 ?_ | with_reducible refine st_lx3 ?_
  | with_reducible refine st_mod (by walk_at "side") ?_ | with_reducible refine st_div (by walk_at "side") ?_ | with_reducible refine st_mul (by walk_at "side") ?_ | with_reducible refine st_mul' (by walk_at "side") ?_
  | with_reducible refine st_isi rfl ?_
  | (with_reducible refine And.intro (Nat.le_of_ble_eq_true rfl) ?_)
  | (refine And.intro (rfl : (_ : Nat) = _) ?_)
  | with_reducible refine st_dT (by walk_at "cond") ?_ | with_reducible refine st_dF (by walk_at "cond") ?_)
local macro_rules | `(tactic| walk_at "hd") => `(tactic| (with_reducible conv => whnf))
local macro_rules | `(tactic| walk_at "run") => `(tactic| ((with_reducible conv => whnf); repeat (walk_at "st"; (with_reducible conv => whnf))))
/-! ### pairs -/
theorem st_sl_toZ' {p : List Int} {k : Int} {S : Sto} {Q : DK} (h0 : 0 ≤ k) (h : Q (.tup ((p.take k.toNat).map .int)) S) : vSl (.tup (p.map .int)) none (some k) S Q := by
  obtain ⟨n, rfl⟩ := Int.eq_ofNat_of_zero_le h0
  exact st_sl_to h
theorem fold_two (a b : Eff) : fold [a, b] = jn a b := by
  obtain ⟨p, q⟩ := a
  simp [fold, jn]
def sp_law_pairs (bowl most high : D) (S : Sto) (Q : DK) : Prop := match bowl, most, high with
  | .ref b, .int m, .int h => ∃ so, S b = some so ∧ Ok so ∧ cnt so ≤ 200000 ∧ 0 ≤ m ∧ m ≤ 90 ∧ 2 ≤ h ∧ ∀ so', Ok so' → cnt so' ≤ cnt so + 40000 → Q (.bl true) (sup S b so')
  | _, _, _ => False
-- _law_pairs : 0=cup 1=most 2=high 3=first 4=less 5=seconds 6=second 7=due 8=rest 9=pile 10=wanted 11=shorter
def rd_law_pairs : DTS :=
    (dSeq (dAsg (dTup (dCons (dCall (a3 sp_law_kinds) (dCons (dVar 0) (dCons (dVar 1) (dCons (dVar 2) dNil)))) (dCons (dOp vAdd (dTup (dCons (dCall (a2 sp_law_dice) (dCons (dVar 0) (dCons (dVar 2) dNil))) dNil)) (dCall (a3 sp_law_kinds) (dCons (dVar 0) (dCons (dVar 1) (dCons (dVar 2) dNil))))) dNil))) (dTg (.nm 3)))
    (dSeq (dAsg (dSl vSl (dOp vIx (dVar 3) (dC (.int 1))) dNoPart (dPart (dCall (a2 sp_law_dice) (dCons (dVar 0) (dCons (dOp vAdd (dCB vLen (dCons (dOp vIx (dVar 3) (dC (.int 1))) dNil)) (dC (.int 1))) dNil))))) (dTg (.nm 4)))
    (dSeq (dAsg (dLst (dCons (dTup (dCons (dVar 4) (dCons (dCall (a3 sp_law_kinds) (dCons (dVar 0) (dCons (dVar 1) (dCons (dVar 2) dNil)))) dNil))) (dCons (dTup (dCons (dOp vAdd (dOp vIx (dVar 3) (dC (.int 1))) (dCall (a3 sp_law_kinds) (dCons (dVar 0) (dCons (dVar 1) (dCons (dVar 2) dNil))))) (dCons (dCall (a3 sp_law_kinds) (dCons (dVar 0) (dCons (dVar 1) (dCons (dVar 2) dNil)))) dNil))) dNil))) (dTg (.nm 5)))
    (dSeq (dAsg (dOp vAdd (dVar 5) (dLst (dCons (dTup (dCons (dOp vAdd (dCall (a3 sp_law_spoilt) (dCons (dVar 0) (dCons (dOp vIx (dVar 3) (dC (.int 1))) (dCons (dVar 2) dNil)))) (dCall (a3 sp_law_kinds) (dCons (dVar 0) (dCons (dC (.int 2)) (dCons (dVar 2) dNil))))) (dCons (dCall (a3 sp_law_kinds) (dCons (dVar 0) (dCons (dVar 1) (dCons (dVar 2) dNil)))) dNil))) dNil))) (dTg (.nm 5)))
    (dSeq (dAsg (dOp vAdd (dVar 5) (dLst (dCons (dTup (dCons (dCall (a3 sp_law_kinds) (dCons (dVar 0) (dCons (dC (.int 3)) (dCons (dVar 2) dNil)))) (dCons (dOp vIx (dVar 3) (dC (.int 0))) dNil))) dNil))) (dTg (.nm 5)))
    (dSeq (dFor (iSeq (dVar 5)) (dTg (.nm 6)) (dSeq (dAsg (dCall (a2 sp_law_pass) (dCons (dVar 3) (dCons (dVar 6) dNil))) (dTg (.nm 7)))
    (dSeq (dIf (dOr (dNot (dTest (dCall (a2 sp_law_same) (dCons (dCall (a2 sp_joined) (dCons (dVar 3) (dCons (dVar 6) dNil))) (dCons (dVar 7) dNil))))) (dNot (dTest (dCall (a2 sp_law_same) (dCons (dCall (a1 sp_all_joined) (dCons (dTup (dCons (dVar 3) (dCons (dVar 6) dNil))) dNil)) (dCons (dVar 7) dNil)))))) (dRet (dC (.bl false))) dNext)
    (dSeq (dAsg (dCall (a3 sp_law_kinds) (dCons (dVar 0) (dCons (dC (.int 4)) (dCons (dVar 2) dNil)))) (dTg (.nm 8)))
    (dSeq (dAsg (dOp vAdd (dOp vAdd (dOp vIx (dVar 3) (dC (.int 0))) (dSl vSl (dOp vIx (dVar 6) (dC (.int 0))) (dPart (dCB vLen (dCons (dOp vIx (dVar 3) (dC (.int 1))) dNil))) dNoPart)) (dVar 8)) (dTg (.nm 9)))
    (dSeq (dIf (dOr (dNot (dTest (dCall (a2 sp_law_goes) (dCons (dVar 9) (dCons (dVar 3) dNil))))) (dNot (dTest (dCall (a2 sp_law_goes) (dCons (dOp vAdd (dOp vIx (dVar 3) (dC (.int 1))) (dSl vSl (dVar 9) (dPart (dCB vLen (dCons (dOp vIx (dVar 3) (dC (.int 0))) dNil))) dNoPart)) (dCons (dVar 6) dNil)))))) (dRet (dC (.bl false))) dNext)
    (dIf (dAnd (dTest (dOp vIsNot (dVar 7) (dC .non))) (dOr (dNot (dTest (dCall (a2 sp_law_goes) (dCons (dVar 9) (dCons (dVar 7) dNil))))) (dNot (dTest (dCall (a2 sp_law_goes) (dCons (dSl vSl (dVar 9) dNoPart (dPart (dCall (a2 sp_law_dice) (dCons (dVar 0) (dCons (dOp vAdd (dCB vLen (dCons (dVar 9) dNil)) (dC (.int 1))) dNil))))) (dCons (dVar 7) dNil))))))) (dRet (dC (.bl false))) dNext)))))))
    (dSeq (dAsg (dOp vAdd (dOp vIx (dVar 3) (dC (.int 1))) (dCall (a3 sp_law_kinds) (dCons (dVar 0) (dCons (dC (.int 3)) (dCons (dVar 2) dNil))))) (dTg (.nm 10)))
    (dSeq (dAsg (dSl vSl (dVar 10) dNoPart (dPart (dCall (a2 sp_law_dice) (dCons (dVar 0) (dCons (dCB vLen (dCons (dVar 10) dNil)) dNil))))) (dTg (.nm 11)))
    (dRet (dAndV (dCall (a2 sp_law_goes) (dCons (dCall (a3 sp_law_spoilt) (dCons (dVar 0) (dCons (dVar 10) (dCons (dVar 2) dNil)))) (dCons (dTup (dCons (dVar 10) (dCons (dTup dNil) dNil))) dNil))) (dAndV (dCall (a2 sp_law_goes) (dCons (dVar 11) (dCons (dTup (dCons (dVar 10) (dCons (dTup (dCons (dC (.int 1)) dNil)) dNil))) dNil))) (dCall (a2 sp_law_goes) (dCons (dOp vAdd (dVar 10) (dVar 11)) (dCons (dTup (dCons (dVar 10) (dCons (dVar 11) dNil))) dNil))))))))))))))
abbrev pairsBody : DTS := (dSeq (dAsg (dCall (a2 sp_law_pass) (dCons (dVar 3) (dCons (dVar 6) dNil))) (dTg (.nm 7)))
    (dSeq (dIf (dOr (dNot (dTest (dCall (a2 sp_law_same) (dCons (dCall (a2 sp_joined) (dCons (dVar 3) (dCons (dVar 6) dNil))) (dCons (dVar 7) dNil))))) (dNot (dTest (dCall (a2 sp_law_same) (dCons (dCall (a1 sp_all_joined) (dCons (dTup (dCons (dVar 3) (dCons (dVar 6) dNil))) dNil)) (dCons (dVar 7) dNil)))))) (dRet (dC (.bl false))) dNext)
    (dSeq (dAsg (dCall (a3 sp_law_kinds) (dCons (dVar 0) (dCons (dC (.int 4)) (dCons (dVar 2) dNil)))) (dTg (.nm 8)))
    (dSeq (dAsg (dOp vAdd (dOp vAdd (dOp vIx (dVar 3) (dC (.int 0))) (dSl vSl (dOp vIx (dVar 6) (dC (.int 0))) (dPart (dCB vLen (dCons (dOp vIx (dVar 3) (dC (.int 1))) dNil))) dNoPart)) (dVar 8)) (dTg (.nm 9)))
    (dSeq (dIf (dOr (dNot (dTest (dCall (a2 sp_law_goes) (dCons (dVar 9) (dCons (dVar 3) dNil))))) (dNot (dTest (dCall (a2 sp_law_goes) (dCons (dOp vAdd (dOp vIx (dVar 3) (dC (.int 1))) (dSl vSl (dVar 9) (dPart (dCB vLen (dCons (dOp vIx (dVar 3) (dC (.int 0))) dNil))) dNoPart)) (dCons (dVar 6) dNil)))))) (dRet (dC (.bl false))) dNext)
    (dIf (dAnd (dTest (dOp vIsNot (dVar 7) (dC .non))) (dOr (dNot (dTest (dCall (a2 sp_law_goes) (dCons (dVar 9) (dCons (dVar 7) dNil))))) (dNot (dTest (dCall (a2 sp_law_goes) (dCons (dSl vSl (dVar 9) dNoPart (dPart (dCall (a2 sp_law_dice) (dCons (dVar 0) (dCons (dOp vAdd (dCB vLen (dCons (dVar 9) dNil)) (dC (.int 1))) dNil))))) (dCons (dVar 7) dNil))))))) (dRet (dC (.bl false))) dNext))))))
theorem jn_small {n k : Nat} {a b c : Eff} (ha : B n a) (hb : B k b) (h : jn a b = some c) (hn : n + k ≤ 50000) : SmP c.1 ∧ SmP c.2 := by
  have := jn_B ha hb h
  exact ⟨Nat.le_trans this.1 hn, Nat.le_trans this.2 hn⟩
theorem pairs_loop {b : Addr} {S : Sto} {p1 f2 : List Int} {mm h' : Int} {x4 x5 o6 o7 o8 o9 : Option D} {D' : DEnds} (l1 : p1.length ≤ 200) (l2 : f2.length ≤ 200) (hh : 2 ≤ h') (es : List Eff) (he : ∀ e ∈ es, B 200 e) (hes : es.length ≤ 10) (so : SO) (ok : Ok so) (c : cnt so ≤ 400000)
    (q : ∀ so' o6 o7 o8 o9, Ok so' → cnt so' ≤ cnt so + 20000 → D'.nx [some (.ref b), some (.int mm), some (.int h'), some (efD (p1, f2)), x4, x5, o6, o7, o8, o9, none, none] (sup S b so')) :
    forL (fun _ => True) (dTg (.nm 6)) pairsBody (es.map efD) D' [some (.ref b), some (.int mm), some (.int h'), some (efD (p1, f2)), x4, x5, o6, o7, o8, o9, none, none] (sup S b so) := by
  refine forL_inv (fun i δ S' => ∃ so' o6 o7 o8 o9, S' = sup S b so' ∧ Ok so' ∧ cnt so' ≤ cnt so + 1010 * i ∧ δ = [some (.ref b), some (.int mm), some (.int h'), some (efD (p1, f2)), x4, x5, o6, o7, o8, o9, none, none]) (fun _ _ _ _ => True.intro) _ 0 _ _ ⟨so, o6, o7, o8, o9, rfl, ok, by omega, rfl⟩ ?_ ?_
  · rintro j d _ _ hj ⟨so1, o6, o7, o8, o9, rfl, ok1, c1, rfl⟩ D2 hrt _ hnx _
    rw [List.getElem?_map] at hj
    cases g : es[j]? with
    | none => rw [g] at hj; cases hj
    | some e =>
    have hj10 : j < 10 := Nat.lt_of_lt_of_le (List.getElem?_eq_some_iff.mp g).1 hes
    rw [g] at hj
    cases hj
    have be := he e (List.mem_of_getElem? g)
    have bf : B 200 (p1, f2) := ⟨l1, l2⟩
    have sj : ∀ f, jn (p1, f2) e = some f → SmE f := fun f hf => (jn_B bf be hf).sm (by decide)
    have sg : ∀ f, jn (p1, f2) e = some f → SmP f.1 ∧ SmP f.2 := fun f hf => jn_small bf be hf (by decide)
    obtain ⟨e1, e2⟩ := be
    have es2 : Es [(p1, f2), e] := ⟨by simp, fun x hx => by
      simp only [List.mem_cons, List.not_mem_nil, or_false] at hx
      rcases hx with rfl | rfl
      · exact bf.mono (by decide)
      · exact B.mono ⟨e1, e2⟩ (by decide)⟩
    walk_at "run"
    refine use_pass (a := (p1, f2)) (b := e) (bf.sm (by decide)) (B.sm ⟨e1, e2⟩ (by decide)) ?_
    walk_at "run"
    refine use_joined (a := (p1, f2)) (b := e) (bf.sm (by decide)) (B.sm ⟨e1, e2⟩ (by decide)) ?_
    walk_at "run"
    refine use_same rfl ?_ ?_
    · exact due_o sj
    walk_at "run"
    refine use_all_joined (es := [(p1, f2), e]) es2 ?_
    rw [fold_two]
    walk_at "run"
    refine use_same rfl ?_ ?_
    · exact due_o sj
    walk_at "run"
    refine use_kinds sup_same ok1 (by omega) (by omega) (by omega) (by omega) fun so2 r ok2 c2 rl rb => ?_
    have rl4 : r.length ≤ 4 := by omega
    walk_at "run"
    have dl : (e.1.drop f2.length).length ≤ 200 := by rw [List.length_drop]; omega
    refine use_goes (e := (p1, f2)) ?_ ?_ ?_ ?_
    · unfold SmP; simp only [List.length_append]; omega
    · unfold SmP; show p1.length ≤ _; omega
    · unfold SmP; show f2.length ≤ _; omega
    walk_at "run"
    refine use_goes (e := e) ?_ ?_ ?_ ?_
    · unfold SmP; simp only [List.length_append, List.length_drop]; omega
    · unfold SmP; omega
    · unfold SmP; omega
    cases k : jn (p1, f2) e with
    | none =>
      walk_at "run"
      rw [sup_sup]
      exact hnx _ _ ⟨so2, _, _, _, _, rfl, ok2, by omega, rfl⟩
    | some f =>
      walk_at "run"
      refine use_goes (e := f) ?_ (sg f k).1 (sg f k).2 ?_
      · unfold SmP; simp only [List.length_append]; omega
      walk_at "run"
      refine use_dice sup_same ok2 (by omega) (by omega) fun so3 n ok3 c3 n0 n1 => ?_
      walk_at "run"
      refine st_sl_toZ' n0 ?_
      walk_at "run"
      refine use_goes (e := f) ?_ (sg f k).1 (sg f k).2 ?_
      · unfold SmP; simp only [List.length_take, List.length_append]; omega
      walk_at "run"
      rw [sup_sup, sup_sup]
      exact hnx _ _ ⟨so3, _, _, _, _, rfl, ok3, by omega, rfl⟩
  · rintro _ _ ⟨so1, o6, o7, o8, o9, rfl, ok1, c1, rfl⟩
    rw [List.length_map, Nat.zero_add] at c1
    exact q so1 o6 o7 o8 o9 ok1 (by omega)
theorem rd_law_pairs_ok : ∀ ds S P, (a3 sp_law_pairs) ds S P → rd_law_pairs (DEnds.of P) (dstart ["cup", "most", "high", "first", "less", "seconds", "second", "due", "rest", "pile", "wanted", "shorter"] ds) S := by
  intro ds S P h
  rcases ds with _ | ⟨x, _ | ⟨y, _ | ⟨z, _ | ⟨w, ds⟩⟩⟩⟩ <;> first | exact (h : False).elim | skip
  simp only [a3, sp_law_pairs] at h
  split at h
  · rename_i b m h'
    obtain ⟨so, hS, ok, hc, m0, m1, hh, q⟩ := h
    unfold rd_law_pairs
    rw [← sup_self hS]
    walk_at "run"
    refine use_kinds sup_same ok (by omega) (by omega) (by omega) (by omega) fun so1 p1 ok1 c1 pl1 pb1 => ?_
    walk_at "run"
    refine use_dice sup_same ok1 (by omega) (by omega) fun so2 n2 ok2 c2 n20 n21 => ?_
    walk_at "run"
    refine use_kinds sup_same ok2 (by omega) (by omega) (by omega) (by omega) fun so3 p2 ok3 c3 pl2 pb2 => ?_
    walk_at "run"
    have bf : InB h' (n2 :: p2) := fun x hx => by
      rcases List.mem_cons.mp hx with rfl | hx
      · exact ⟨n20, n21⟩
      · exact pb2 x hx
    have lf : (n2 :: p2).length ≤ 91 := by simp only [List.length_cons]; omega
    have lf0 : 0 < (n2 :: p2).length := by simp
    generalize n2 :: p2 = f2 at bf lf lf0 ⊢
    refine use_dice sup_same ok3 (by omega) (by omega) fun so4 n4 ok4 c4 n40 n41 => ?_
    walk_at "run"
    refine st_sl_toZ' n40 ?_
    walk_at "run"
    refine use_kinds sup_same ok4 (by omega) (by omega) (by omega) (by omega) fun so5 k1 ok5 c5 kl1 kb1 => ?_
    walk_at "run"
    refine use_kinds sup_same ok5 (by omega) (by omega) (by omega) (by omega) fun so6 k2 ok6 c6 kl2 kb2 => ?_
    walk_at "run"
    refine use_kinds sup_same ok6 (by omega) (by omega) (by omega) (by omega) fun so7 k3 ok7 c7 kl3 kb3 => ?_
    walk_at "run"
    refine use_spoilt sup_same ok7 (by omega) lf0 (by omega) hh bf fun so8 r ok8 c8 rl rb rne => ?_
    walk_at "run"
    refine use_kinds sup_same ok8 (by omega) (by omega) (by omega) (by omega) fun so9 k4 ok9 c9 kl4 kb4 => ?_
    walk_at "run"
    refine use_kinds sup_same ok9 (by omega) (by omega) (by omega) (by omega) fun so10 k5 ok10 c10 kl5 kb5 => ?_
    walk_at "run"
    refine use_kinds sup_same ok10 (by omega) (by omega) (by omega) (by omega) fun so11 k6 ok11 c11 kl6 kb6 => ?_
    walk_at "run"
    have lr : r.length ≤ 91 := by omega
    have mE : ∀ x : Nat, (x : Int) ≤ m → x ≤ 90 := fun x hx => by omega
    have z1 := mE _ pl1
    have z2 := mE _ kl1
    have z3 := mE _ kl2
    have z4 := mE _ kl3
    have z5 := mE _ kl5
    have z6 : k4.length ≤ 2 := by omega
    have z7 : k6.length ≤ 3 := by omega
    simp only [sup_sup]
    refine pairs_loop (p1 := p1) (f2 := f2) (by omega) (by omega) hh [(f2.take n4.toNat, k1), (f2 ++ k2, k3), (r ++ k4, k5), (k6, p1)] ?_ (by simp) so11 ok11 (by omega) fun so12 o6 o7 o8 o9 ok12 c12 => ?_
    · intro e he
      simp only [List.mem_cons, List.not_mem_nil, or_false] at he
      rcases he with rfl | rfl | rfl | rfl
      · exact ⟨by simp only [List.length_take]; omega, by show k1.length ≤ _; omega⟩
      · exact ⟨by simp only [List.length_append]; omega, by show k3.length ≤ _; omega⟩
      · exact ⟨by simp only [List.length_append]; omega, by show k5.length ≤ _; omega⟩
      · exact ⟨by show k6.length ≤ _; omega, by show p1.length ≤ _; omega⟩
    walk_at "run"
    refine use_kinds sup_same ok12 (by omega) (by omega) (by omega) (by omega) fun so13 k7 ok13 c13 kl7 kb7 => ?_
    have z8 : k7.length ≤ 3 := by omega
    walk_at "run"
    have wb : InB h' (f2 ++ k7) := fun x hx => by
      rcases List.mem_append.mp hx with hx | hx
      · exact bf x hx
      · exact kb7 x hx
    have wl : (f2 ++ k7).length ≤ 94 := by simp only [List.length_append]; omega
    have wl0 : 0 < (f2 ++ k7).length := by simp only [List.length_append]; omega
    generalize f2 ++ k7 = wt at wb wl wl0 ⊢
    refine use_dice sup_same ok13 (by omega) (by omega) fun so14 n14 ok14 c14 n140 n141 => ?_
    walk_at "run"
    refine st_sl_toZ' n140 ?_
    have tl : (wt.take n14.toNat).length ≤ 94 := by simp only [List.length_take]; omega
    walk_at "run"
    refine use_spoilt sup_same ok14 (by omega) wl0 (by omega) hh wb fun so15 r2 ok15 c15 rl2 rb2 rne2 => ?_
    walk_at "run"
    refine use_goes (e := (wt, [])) ?_ ?_ ?_ ?_
    · unfold SmP; omega
    · unfold SmP; show wt.length ≤ _; omega
    · exact Nat.zero_le _
    walk_at "run"
    refine use_goes (e := (wt, [1])) ?_ ?_ ?_ ?_
    · unfold SmP; omega
    · unfold SmP; show wt.length ≤ _; omega
    · exact (by decide : 1 ≤ 50000)
    walk_at "run"
    refine use_goes (e := (wt, wt.take n14.toNat)) ?_ ?_ ?_ ?_
    · unfold SmP; simp only [List.length_append]; omega
    · unfold SmP; show wt.length ≤ _; omega
    · unfold SmP; show (wt.take n14.toNat).length ≤ _; omega
    refine .of ?_
    simp only [sup_sup]
    exact q _ ok15 (by omega)
  · exact h.elim
theorem use_pairs {b : Addr} {m h : Int} {S : Sto} {Q : DK} {so : SO} (hS : S b = some so) (ok : Ok so) (c : cnt so ≤ 200000) (m0 : 0 ≤ m) (m1 : m ≤ 90) (h0 : 2 ≤ h) (q : ∀ so', Ok so' → cnt so' ≤ cnt so + 40000 → Q (.bl true) (sup S b so')) : sp_law_pairs (.ref b) (.int m) (.int h) S Q := ⟨so, hS, ok, c, m0, m1, h0, q⟩
end L3

set_option Elab.async false
set_option maxRecDepth 100000
set_option linter.all false
set_option maxHeartbeats 4000000
namespace L3
open PySem L2
local macro_rules | `(tactic| walk_at "rd") => `(tactic| try simp only [dSeq, dAsg, dOp, dUn, dVar, dC, dCons, dNil, dTup, dLst, dLstM, dTest, dChain, dAnd, dOr, dNot, dAndV, dOrV, dNotV, dIfE, dCB, dCall, dSl, dPart, dNoPart, dIf, dRet, dRetN, dNext, dDrop, dTg, setAll, slot, dset, dwipe, dAug,
  a0, a1, a2, a3, a4, a5, a6, dLc, iTupD, iRange1, iRange2, dYes, dLM, dgSub, DEnds.of, dstart,
  vAt_some, vAtL_lst, vIx_tup, vIx_lst, vIx_ro, vIx_ref, vSl_tup, vSl_lst, vSl_ro, vSl_ref, vSlL_lst, vLen_tup, vLen_lst, vLen_ro, vLen_ref, vLenL_lst, vLenL_dK, vAdd_int, vAdd_tup, vAdd_lst, vAdd_ref, vAddL_lst, vSub_int, vLt_int, vLe_int, vGt_int, vGe_int, vMod_int, vDiv_int, vPow_int, vShl_int, vMul_int, vMul_tup, vMul_lst,
  vEq_int, vEq_str, vEq_bl, vEq_tup, vEq_lst, vNe_int, vNe_str, vNe_bl, vNe_tup, isN_non, isN_bl, isN_int, isN_str, isN_tup, isN_lst, isN_ref, vIs_non, vIsNot_non, vNeg_int, vInt_int, vInt_bl, vBool_int, vBool_bl, vAbs_int, vMin2_int, vMax2_int, vTuple_tup, vTuple_lst, vTuple_ref, vTupleL_lst, vList_tup, vList_lst,
  vAllO_some, vAll_x, vAny_x, seqOf_lst, vIsi_x, vIadd_int, vAppL_lst, vAppend_ref, vSetN_some, vSetO_lst, vSet_ref, isSeq_ref, ex_lst, all1,
  isiT_int_int, isiT_int_bool, isiT_int_tuple, isiT_int_str, isiT_int_list, isiT_bl_int, isiT_bl_bool, isiT_bl_tuple, isiT_bl_str, isiT_bl_list, isiT_non_int, isiT_non_bool, isiT_non_tuple, isiT_non_str, isiT_non_list, isiT_str_int, isiT_str_bool, isiT_str_tuple, isiT_str_str, isiT_str_list, isiT_tup_int, isiT_tup_bool, isiT_tup_tuple, isiT_tup_str, isiT_tup_list, isiT_lst_int, isiT_lst_bool, isiT_lst_tuple, isiT_lst_str, isiT_lst_list,
  Option.map_some, Option.bind_some, List.map_cons, List.map_nil, List.length_cons, List.length_nil, List.cons_append, List.nil_append, List.replicate, List.set, List.append_nil, atI_0, atI_1, atI_2, atI_3, atI_4, atI_5, List.length_map, Nat.zero_add, Nat.reduceAdd, Nat.reduceSub, Nat.reduceLeDiff, true_and, and_true, Bool.false_eq_true, if_true, if_false, decide_eq_true_eq, reduceIte, ite_true, ite_false,
  Bool.not_true, Bool.not_false, List.length_append, cut_from, cut_to, sup_same, sup_sup, Option.some.injEq, exists_eq_left', exists_eq_left])
local macro_rules | `(tactic| walk_at "cond") => `(tactic| first | omega | (simp only [List.length_append, List.length_cons, List.length_nil, List.length_take, List.length_drop, List.length_map, List.length_reverse]; omega) | rfl | decide)
local macro_rules | `(tactic| walk_at "side") => `(tactic| first | assumption | omega | (simp only [List.length_append, List.length_cons, List.length_nil, List.length_take, List.length_drop, List.length_map, List.length_reverse, sizeLine_val]; omega) | decide)
local macro_rules | `(tactic| walk_at "st") => `(tactic| first
  | with_reducible refine st_ix0 ?_ | with_reducible refine st_ix1 ?_ | with_reducible refine st_ix2 ?_ | with_reducible refine st_ix3 ?_ | with_reducible refine st_ix4 ?_
  | with_reducible refine st_add_pp (by walk_at "side") ?_ | with_reducible refine st_add_p1 (by walk_at "side") ?_ | with_reducible refine st_add_1p (by walk_at "side") ?_
  | with_reducible refine st_add ?_ | with_reducible refine st_sub ?_ | with_reducible refine st_iadd ?_ | with_reducible refine st_neg ?_
  | with_reducible refine st_len_p ?_ | with_reducible refine st_len_lp ?_ | with_reducible refine st_len_rp ?_ | with_reducible refine st_len_t ?_ | with_reducible refine st_len_l ?_
  | with_reducible refine st_lm0 ?_ | with_reducible refine st_ltail ?_ | with_reducible refine st_add_ll (by walk_at "side") ?_
  | with_reducible refine st_add_t (by walk_at "side") ?_ | with_reducible refine st_add_l (by walk_at "side") ?_ | with_reducible refine st_add_s (by walk_at "side") ?_
  | with_reducible refine st_iteT ?_ | with_reducible refine st_iteF ?_ | with_reducible refine st_not ?_
  | with_reducible refine st_lt ?_ | with_reducible refine st_le ?_ | with_reducible refine st_gt ?_ | with_reducible refine st_ge ?_ | with_reducible refine st_eqi ?_ | with_reducible refine st_nei ?_ | with_reducible refine st_eqs ?_ | with_reducible refine st_nes ?_ | with_reducible refine st_eqb ?_
  | with_reducible refine st_isn_non ?_ | with_reducible refine st_isn_int ?_ | with_reducible refine st_isn_tup ?_ | with_reducible refine st_isn_str ?_ | with_reducible refine st_isn_bl ?_
  | with_reducible refine st_isnt_non ?_ | with_reducible refine st_isnt_int ?_ | with_reducible refine st_isnt_tup ?_ | with_reducible refine st_isnt_str ?_
  | with_reducible refine st_int ?_ | with_reducible refine st_intb ?_ | with_reducible refine st_abs ?_ | with_reducible refine st_min2 ?_ | with_reducible refine st_max2 ?_
  | with_reducible refine st_tup_l ?_ | with_reducible refine st_tup_t ?_ | with_reducible refine st_lst_t ?_ | with_reducible refine st_lst_l ?_
  | with_reducible refine st_sl_from ?_ | with_reducible refine st_sl_to ?_
  | with_reducible refine st_lx0 ?_ | with_reducible refine st_lx1 ?_ | with_reducible refine st_lx2 ?_ | with_reducible refine st_lx3 ?_
  | with_reducible refine st_mod (by walk_at "side") ?_ | with_reducible refine st_div (by walk_at "side") ?_ | with_reducible refine st_mul (by walk_at "side") ?_ | with_reducible refine st_mul' (by walk_at "side") ?_
  | with_reducible refine st_isi rfl ?_
  | (with_reducible refine And.intro (Nat.le_of_ble_eq_true rfl) ?_)
  | (refine And.intro (rfl : (_ : Nat) = _) ?_)
  | with_reducible refine st_dT (by walk_at "cond") ?_ | with_reducible refine st_dF (by walk_at "cond") ?_)
local macro_rules | `(tactic| walk_at "hd") => `(tactic| (with_reducible conv => whnf))
local macro_rules | `(tactic| walk_at "run") => `(tactic| ((with_reducible conv => whnf); repeat (walk_at "st"; (with_reducible conv => whnf))))
/-! ### alikes: the mathematics -/
theorem cpl_app : ∀ (e p q : List Int), cpl (e ++ p) (e ++ q) = e.length + cpl p q
  | [], p, q => by simp
  | a :: e, p, q => by simp [cpl, cpl_app e p q]; omega
theorem nt_app (n : Eff) (s : List Int) : nt (n.1 ++ s, n.2 ++ s) = nt n := by
  unfold nt
  simp only [List.reverse_append, cpl_app, List.length_reverse, List.length_append]
  have h := cpl_le n.1.reverse n.2.reverse
  rw [List.length_reverse, List.length_reverse] at h
  rw [show n.1.length + s.length - (s.length + cpl n.1.reverse n.2.reverse) = n.1.length - cpl n.1.reverse n.2.reverse by omega, show n.2.length + s.length - (s.length + cpl n.1.reverse n.2.reverse) = n.2.length - cpl n.1.reverse n.2.reverse by omega,
    List.take_append_of_le_length (by omega), List.take_append_of_le_length (by omega)]
theorem cpl_drop : ∀ p q : List Int, cpl (p.drop (cpl p q)) (q.drop (cpl p q)) = 0
  | [], q => by simp [cpl]
  | a :: p, [] => by simp [cpl]
  | a :: p, b :: q => by
    by_cases e : a = b
    · simp only [cpl, if_pos e, List.drop_succ_cons]
      exact cpl_drop p q
    · simp [cpl, e]
theorem nt_nt (e : Eff) : nt (nt e) = nt e := by
  have h : cpl (nt e).1.reverse (nt e).2.reverse = 0 := by
    rw [nt_nr, nr_cpl]
    simp only [List.reverse_reverse]
    exact cpl_drop _ _
  generalize nt e = n at h ⊢
  unfold nt
  rw [h]
  simp
theorem nt_self (s : List Int) : nt (s, s) = ([], []) := by
  have h : nt ([], []) = ([], []) := rfl
  have := nt_app ([], []) s
  rw [h] at this
  exact this
theorem nt_eq {e : Eff} (h : (nt e).1 = (nt e).2) : nt e = ([], []) := by
  have z := nt_nt e
  generalize nt e = n at h z
  obtain ⟨p, q⟩ := n
  have h : p = q := h
  subst h
  rw [nt_self] at z
  exact z.symm
theorem ext_self (a : Eff) : isExt a a = true := by simp [isExt]
theorem ext_more (p q r : List Int) : isExt (p ++ r, q ++ r) (p, q) = true := by simp [isExt]
theorem ext_len {a b : Eff} (h : isExt a b = true) : b.1.length ≤ a.1.length ∧ b.2.length ≤ a.2.length ∧ a.1.length - b.1.length = a.2.length - b.2.length := by
  have e := of_decide_eq_true h
  have e1 := congrArg (fun t => t.1.length) e
  have e2 := congrArg (fun t => t.2.length) e
  simp only [List.length_append, List.length_drop] at e1 e2
  omega
theorem not_ext_len {a b : Eff} (h : ¬ (b.1.length ≤ a.1.length ∧ b.2.length ≤ a.2.length ∧ a.1.length - b.1.length = a.2.length - b.2.length)) : isExt a b = false := by
  cases e : isExt a b with
  | false => rfl
  | true => exact absurd (ext_len e) h
theorem not_ext_tail {p q r s : List Int} (h : r ≠ s) : isExt (p ++ r, q ++ s) (p, q) = false := by
  apply decide_eq_false
  intro e
  have e2 := congrArg Prod.snd e
  simp only [List.drop_left] at e2
  exact h (List.append_cancel_left e2).symm
theorem not_ext_eq {a b : Eff} (hl : a.1.length = b.1.length) (h : a ≠ b) : isExt a b = false := by
  apply decide_eq_false
  intro e
  rw [List.drop_of_length_le (by omega)] at e
  simp only [List.append_nil] at e
  exact h (by rw [e])
theorem not_ext_inner {p q x y x' y' : List Int} (h : ∀ z, x ≠ x' ++ z) : isExt (p ++ x, q ++ y) (p ++ x', q ++ y') = false := by
  apply decide_eq_false
  intro e
  have e2 := congrArg Prod.fst e
  simp only [List.append_assoc] at e2
  exact h _ (List.append_cancel_left e2)
theorem use_extended {a : Eff} {p : List Int} {S : Sto} {Q : DK} (ha : SmE a) (hp : Sm p) (q : Q (efD (a.1 ++ p, a.2 ++ p)) S) : sp_extended (.tup [.tup (a.1.map .int), .tup (a.2.map .int)]) (.tup (p.map .int)) S Q := by
  simp only [sp_extended, asE_ef, asP_pl]
  exact ⟨ha, hp, q⟩
theorem use_net_effect {a n : Eff} {S : Sto} {Q : DK} (e : nt a = n) (q : Q (efD n) S) : sp_net_effect (.tup [.tup (a.1.map .int), .tup (a.2.map .int)]) S Q := by
  simp only [sp_net_effect, asE_ef]
  rw [e]
  exact q
theorem use_net {a : Eff} {S : Sto} {Q : DK} (q : Q (efD (nt a)) S) : sp_law_net (.tup [.tup (a.1.map .int), .tup (a.2.map .int)]) S Q := by
  simp only [sp_law_net, asE_ef]
  exact q
theorem use_alike {a b : Eff} {c : Bool} {S : Sto} {Q : DK} (ha : SmE a) (hb : SmE b) (e : (isExt a b || isExt b a) = c) (q : Q (.bl c) S) : sp_are_alike (.tup [.tup (a.1.map .int), .tup (a.2.map .int)]) (.tup [.tup (b.1.map .int), .tup (b.2.map .int)]) S Q := by
  simp only [sp_are_alike, asE_ef]
  exact ⟨ha, hb, by rw [e]; exact q⟩
theorem use_height {a : Eff} {S : Sto} {Q : DK} (q : Q (.int ((a.2.length : Int) - a.1.length)) S) : sp_height (.tup [.tup (a.1.map .int), .tup (a.2.map .int)]) S Q := by
  simp only [sp_height, asE_ef]
  exact q
def sp_law_alikes (bowl most high : D) (S : Sto) (Q : DK) : Prop := match bowl, most, high with
  | .ref b, .int m, .int h => ∃ so, S b = some so ∧ Ok so ∧ cnt so ≤ 300000 ∧ 0 ≤ m ∧ m ≤ 90 ∧ 2 ≤ h ∧ ∀ so', Ok so' → cnt so' ≤ cnt so + 20000 → Q (.bl true) (sup S b so')
  | _, _, _ => False
-- _law_alikes : 0=cup 1=most 2=high 3=net 4=some 5=more 6=other 7=one 8=two 9=three 10=alike 11=wrong 12=longer 13=heights 14=tall
def rd_law_alikes : DTS :=
    (dSeq (dAsg (dCall (a1 sp_law_net) (dCons (dTup (dCons (dCall (a3 sp_law_kinds) (dCons (dVar 0) (dCons (dVar 1) (dCons (dVar 2) dNil)))) (dCons (dCall (a3 sp_law_kinds) (dCons (dVar 0) (dCons (dVar 1) (dCons (dVar 2) dNil)))) dNil))) dNil)) (dTg (.nm 3)))
    (dSeq (dAsg (dOp vAdd (dTup (dCons (dCall (a2 sp_law_dice) (dCons (dVar 0) (dCons (dVar 2) dNil))) dNil)) (dCall (a3 sp_law_kinds) (dCons (dVar 0) (dCons (dVar 1) (dCons (dVar 2) dNil))))) (dTg (.nm 4)))
    (dSeq (dAsg (dOp vAdd (dVar 4) (dCall (a3 sp_law_kinds) (dCons (dVar 0) (dCons (dC (.int 3)) (dCons (dVar 2) dNil))))) (dTg (.nm 5)))
    (dSeq (dAsg (dOp vAdd (dCall (a3 sp_law_spoilt) (dCons (dVar 0) (dCons (dVar 4) (dCons (dVar 2) dNil)))) (dCall (a3 sp_law_kinds) (dCons (dVar 0) (dCons (dC (.int 2)) (dCons (dVar 2) dNil))))) (dTg (.nm 6)))
    (dSeq (dAsg (dTup (dCons (dOp vAdd (dOp vIx (dVar 3) (dC (.int 0))) (dVar 4)) (dCons (dOp vAdd (dOp vIx (dVar 3) (dC (.int 1))) (dVar 4)) dNil))) (dTg (.nm 7)))
    (dSeq (dAsg (dTup (dCons (dOp vAdd (dOp vIx (dVar 3) (dC (.int 0))) (dVar 5)) (dCons (dOp vAdd (dOp vIx (dVar 3) (dC (.int 1))) (dVar 5)) dNil))) (dTg (.nm 8)))
    (dSeq (dAsg (dTup (dCons (dOp vAdd (dOp vIx (dVar 3) (dC (.int 0))) (dVar 6)) (dCons (dOp vAdd (dOp vIx (dVar 3) (dC (.int 1))) (dVar 6)) dNil))) (dTg (.nm 9)))
    (dSeq (dIf (dNot (dTest (dCall (a2 sp_law_same) (dCons (dTup (dCons (dCall (a2 sp_extended) (dCons (dVar 3) (dCons (dVar 4) dNil))) (dCons (dCall (a2 sp_extended) (dCons (dVar 7) (dCons (dSl vSl (dVar 5) (dPart (dCB vLen (dCons (dVar 4) dNil))) dNoPart) dNil))) (dCons (dCall (a2 sp_extended) (dCons (dVar 8) (dCons (dTup dNil) dNil))) dNil)))) (dCons (dTup (dCons (dVar 7) (dCons (dVar 8) (dCons (dVar 8) dNil)))) dNil))))) (dRet (dC (.bl false))) dNext)
    (dSeq (dIf (dNot (dTest (dCall (a2 sp_law_same) (dCons (dTup (dCons (dCall (a1 sp_net_effect) (dCons (dVar 7) dNil)) (dCons (dCall (a1 sp_net_effect) (dCons (dVar 9) dNil)) (dCons (dCall (a1 sp_net_effect) (dCons (dVar 3) dNil)) (dCons (dCall (a1 sp_net_effect) (dCons (dTup (dCons (dVar 4) (dCons (dVar 4) dNil))) dNil)) dNil))))) (dCons (dTup (dCons (dVar 3) (dCons (dVar 3) (dCons (dVar 3) (dCons (dTup (dCons (dTup dNil) (dCons (dTup dNil) dNil))) dNil))))) dNil))))) (dRet (dC (.bl false))) dNext)
    (dSeq (dAsg (dTup (dCons (dCall (a2 sp_are_alike) (dCons (dVar 7) (dCons (dVar 8) dNil))) (dCons (dCall (a2 sp_are_alike) (dCons (dVar 8) (dCons (dVar 7) dNil))) (dCons (dCall (a2 sp_are_alike) (dCons (dVar 3) (dCons (dVar 8) dNil))) (dCons (dCall (a2 sp_are_alike) (dCons (dVar 9) (dCons (dVar 9) dNil))) (dCons (dCall (a2 sp_are_alike) (dCons (dVar 7) (dCons (dVar 9) dNil))) (dCons (dCall (a2 sp_are_alike) (dCons (dVar 9) (dCons (dVar 8) dNil))) dNil))))))) (dTg (.nm 10)))
    (dSeq (dIf (dNot (dTest (dCall (a2 sp_law_same) (dCons (dVar 10) (dCons (dTup (dCons (dC (.bl true)) (dCons (dC (.bl true)) (dCons (dC (.bl true)) (dCons (dC (.bl true)) (dCons (dC (.bl false)) (dCons (dC (.bl false)) dNil))))))) dNil))))) (dRet (dC (.bl false))) dNext)
    (dSeq (dAsg (dTup (dCons (dOp vAdd (dOp vIx (dVar 3) (dC (.int 0))) (dVar 4)) (dCons (dOp vAdd (dOp vIx (dVar 3) (dC (.int 1))) (dCall (a3 sp_law_spoilt) (dCons (dVar 0) (dCons (dVar 4) (dCons (dVar 2) dNil))))) dNil))) (dTg (.nm 11)))
    (dSeq (dAsg (dTup (dCons (dOp vIx (dVar 3) (dC (.int 0))) (dCons (dOp vAdd (dOp vIx (dVar 3) (dC (.int 1))) (dVar 4)) dNil))) (dTg (.nm 12)))
    (dSeq (dIf (dNot (dTest (dCall (a2 sp_law_same) (dCons (dTup (dCons (dCall (a2 sp_are_alike) (dCons (dVar 3) (dCons (dVar 11) dNil))) (dCons (dCall (a2 sp_are_alike) (dCons (dVar 11) (dCons (dVar 7) dNil))) (dCons (dCall (a2 sp_are_alike) (dCons (dVar 12) (dCons (dVar 3) dNil))) (dCons (dCall (a2 sp_are_alike) (dCons (dTup (dCons (dOp vAdd (dOp vIx (dVar 3) (dC (.int 1))) (dVar 4)) (dCons (dOp vAdd (dOp vIx (dVar 3) (dC (.int 0))) (dVar 4)) dNil))) (dCons (dVar 7) dNil))) dNil))))) (dCons (dTup (dCons (dC (.bl false)) (dCons (dC (.bl false)) (dCons (dC (.bl false)) (dCons (dOp vEq (dVar 3) (dTup (dCons (dTup dNil) (dCons (dTup dNil) dNil)))) dNil))))) dNil))))) (dRet (dC (.bl false))) dNext)
    (dSeq (dAsg (dTup (dCons (dCall (a1 sp_height) (dCons (dVar 7) dNil)) (dCons (dCall (a1 sp_height) (dCons (dVar 3) dNil)) (dCons (dCall (a1 sp_height) (dCons (dVar 12) dNil)) (dCons (dCall (a1 sp_height) (dCons (dTup (dCons (dVar 4) (dCons (dTup dNil) dNil))) dNil)) dNil))))) (dTg (.nm 13)))
    (dSeq (dAsg (dOp vSub (dCB vLen (dCons (dOp vIx (dVar 3) (dC (.int 1))) dNil)) (dCB vLen (dCons (dOp vIx (dVar 3) (dC (.int 0))) dNil))) (dTg (.nm 14)))
    (dRet (dCall (a2 sp_law_same) (dCons (dVar 13) (dCons (dTup (dCons (dVar 14) (dCons (dVar 14) (dCons (dOp vAdd (dVar 14) (dCB vLen (dCons (dVar 4) dNil))) (dCons (dOp vSub (dC (.int 0)) (dCB vLen (dCons (dVar 4) dNil))) dNil))))) dNil))))))))))))))))))))
theorem nt_len (e : Eff) : (nt e).1.length ≤ e.1.length ∧ (nt e).2.length ≤ e.2.length := by
  unfold nt
  simp only [List.length_take]
  omega
theorem rd_law_alikes_ok : ∀ ds S P, (a3 sp_law_alikes) ds S P → rd_law_alikes (DEnds.of P) (dstart ["cup", "most", "high", "net", "some", "more", "other", "one", "two", "three", "alike", "wrong", "longer", "heights", "tall"] ds) S := by
  intro ds S P h
  rcases ds with _ | ⟨x, _ | ⟨y, _ | ⟨z, _ | ⟨w, ds⟩⟩⟩⟩ <;> first | exact (h : False).elim | skip
  simp only [a3, sp_law_alikes] at h
  split at h
  · rename_i b m h'
    obtain ⟨so, hS, ok, hc, m0, m1, hh, q⟩ := h
    unfold rd_law_alikes
    rw [← sup_self hS]
    walk_at "run"
    refine use_kinds sup_same ok (by omega) (by omega) (by omega) (by omega) fun so1 p1 ok1 c1 pl1 pb1 => ?_
    walk_at "run"
    refine use_kinds sup_same ok1 (by omega) (by omega) (by omega) (by omega) fun so2 p2 ok2 c2 pl2 pb2 => ?_
    walk_at "run"
    refine use_net (a := (p1, p2)) ?_
    have nl := nt_len (p1, p2)
    have nn := nt_nt (p1, p2)
    have ne := @nt_eq (p1, p2)
    generalize nt (p1, p2) = n at nl nn ne ⊢
    obtain ⟨n1, n2⟩ := n
    have nl1 : n1.length ≤ 90 := by have : n1.length ≤ p1.length := nl.1; omega
    have nl2 : n2.length ≤ 90 := by have : n2.length ≤ p2.length := nl.2; omega
    walk_at "run"
    refine use_dice sup_same ok2 (by omega) (by omega) fun so3 s0 ok3 c3 s00 s01 => ?_
    walk_at "run"
    refine use_kinds sup_same ok3 (by omega) (by omega) (by omega) (by omega) fun so4 s1 ok4 c4 sl1 sb1 => ?_
    walk_at "run"
    have bs : InB h' (s0 :: s1) := fun x hx => by
      rcases List.mem_cons.mp hx with rfl | hx
      · exact ⟨s00, s01⟩
      · exact sb1 x hx
    have ls : (s0 :: s1).length ≤ 91 := by simp only [List.length_cons]; omega
    have ls0 : 0 < (s0 :: s1).length := by simp
    generalize s0 :: s1 = s at bs ls ls0 ⊢
    refine use_kinds sup_same ok4 (by omega) (by omega) (by omega) (by omega) fun so5 t ok5 c5 tl tb => ?_
    have tl3 : t.length ≤ 3 := by omega
    walk_at "run"
    refine use_spoilt sup_same ok5 (by omega) ls0 (by omega) hh bs fun so6 r ok6 c6 rl rb rne => ?_
    walk_at "run"
    refine use_kinds sup_same ok6 (by omega) (by omega) (by omega) (by omega) fun so7 u ok7 c7 ul ub => ?_
    have ul2 : u.length ≤ 2 := by omega
    walk_at "run"
    have A1 : SmE (n1, n2) := ⟨by unfold Sm; show n1.length ≤ _; omega, by unfold Sm; show n2.length ≤ _; omega⟩
    have A2 : SmE (n1 ++ s, n2 ++ s) := ⟨by unfold Sm; simp only [List.length_append]; omega, by unfold Sm; simp only [List.length_append]; omega⟩
    have A3 : SmE (n1 ++ (s ++ t), n2 ++ (s ++ t)) := ⟨by unfold Sm; simp only [List.length_append]; omega, by unfold Sm; simp only [List.length_append]; omega⟩
    have A4 : SmE (n1 ++ (r ++ u), n2 ++ (r ++ u)) := ⟨by unfold Sm; simp only [List.length_append]; omega, by unfold Sm; simp only [List.length_append]; omega⟩
    have B1 : Sm s := by unfold Sm; omega
    have B2 : Sm t := by unfold Sm; omega
    refine use_extended (a := (n1, n2)) A1 B1 ?_
    walk_at "run"
    rw [List.drop_left]
    refine use_extended (a := (n1 ++ s, n2 ++ s)) A2 B2 ?_
    walk_at "run"
    refine use_extended (a := (n1 ++ (s ++ t), n2 ++ (s ++ t))) (p := []) A3 (Nat.zero_le _) ?_
    walk_at "run"
    refine use_same (by simp only [List.append_assoc, List.append_nil]) ?_ ?_
    · show (dueOk 5 (efD (n1 ++ s, n2 ++ s)) && (dueOk 5 (efD (n1 ++ (s ++ t), n2 ++ (s ++ t))) && (dueOk 5 (efD (n1 ++ (s ++ t), n2 ++ (s ++ t))) && dueOks 5 [])) && decide (3 ≤ 1000000)) = true
      rw [due_e A2, due_e A3]
      rfl
    walk_at "run"
    refine use_net_effect (a := (n1 ++ s, n2 ++ s)) (n := (n1, n2)) ((nt_app (n1, n2) s).trans nn) ?_
    walk_at "run"
    refine use_net_effect (a := (n1 ++ (r ++ u), n2 ++ (r ++ u))) (n := (n1, n2)) ((nt_app (n1, n2) (r ++ u)).trans nn) ?_
    walk_at "run"
    refine use_net_effect (a := (n1, n2)) (n := (n1, n2)) nn ?_
    walk_at "run"
    refine use_net_effect (a := (s, s)) (n := ([], [])) (nt_self s) ?_
    walk_at "run"
    refine use_same rfl ?_ ?_
    · show (dueOk 5 (efD (n1, n2)) && (dueOk 5 (efD (n1, n2)) && (dueOk 5 (efD (n1, n2)) && (dueOk 5 (efD ([], [])) && dueOks 5 []))) && decide (4 ≤ 1000000)) = true
      rw [due_e A1]
      rfl
    walk_at "run"
    have x1 : ∀ z, s ≠ (r ++ u) ++ z := fun z e => rne (u ++ z) [] (by rw [List.append_nil, ← List.append_assoc]; exact e.symm)
    have x2 : ∀ z, (r ++ u) ≠ s ++ z := fun z e => rne u z e
    have x3 : ∀ z, (r ++ u) ≠ (s ++ t) ++ z := fun z e => rne u (t ++ z) (by rw [← List.append_assoc]; exact e)
    have x4 : ∀ z, (s ++ t) ≠ (r ++ u) ++ z := fun z e => rne (u ++ z) t (by rw [← List.append_assoc]; exact e.symm)
    refine use_alike (a := (n1 ++ s, n2 ++ s)) (b := (n1 ++ (s ++ t), n2 ++ (s ++ t))) (c := true) A2 A3 (by rw [← List.append_assoc, ← List.append_assoc, ext_more, Bool.or_true]) ?_
    walk_at "run"
    refine use_alike (a := (n1 ++ (s ++ t), n2 ++ (s ++ t))) (b := (n1 ++ s, n2 ++ s)) (c := true) A3 A2 (by rw [← List.append_assoc, ← List.append_assoc, ext_more, Bool.true_or]) ?_
    walk_at "run"
    refine use_alike (a := (n1, n2)) (b := (n1 ++ (s ++ t), n2 ++ (s ++ t))) (c := true) A1 A3 (by rw [ext_more, Bool.or_true]) ?_
    walk_at "run"
    refine use_alike (a := (n1 ++ (r ++ u), n2 ++ (r ++ u))) (b := (n1 ++ (r ++ u), n2 ++ (r ++ u))) (c := true) A4 A4 (by rw [ext_self, Bool.or_true]) ?_
    walk_at "run"
    refine use_alike (a := (n1 ++ s, n2 ++ s)) (b := (n1 ++ (r ++ u), n2 ++ (r ++ u))) (c := false) A2 A4 (by rw [not_ext_inner x1, not_ext_inner x2]; rfl) ?_
    walk_at "run"
    refine use_alike (a := (n1 ++ (r ++ u), n2 ++ (r ++ u))) (b := (n1 ++ (s ++ t), n2 ++ (s ++ t))) (c := false) A4 A3 (by rw [not_ext_inner x3, not_ext_inner x4]; rfl) ?_
    walk_at "run"
    refine use_same rfl ?_ ?_
    · rfl
    walk_at "run"
    refine use_spoilt sup_same ok7 (by omega) ls0 (by omega) hh bs fun so8 v ok8 c8 vl vb vne => ?_
    walk_at "run"
    have A5 : SmE (n1 ++ s, n2 ++ v) := ⟨by unfold Sm; simp only [List.length_append]; omega, by unfold Sm; simp only [List.length_append]; omega⟩
    have A6 : SmE (n1, n2 ++ s) := ⟨by unfold Sm; show n1.length ≤ _; omega, by unfold Sm; simp only [List.length_append]; omega⟩
    have A7 : SmE (n2 ++ s, n1 ++ s) := ⟨by unfold Sm; simp only [List.length_append]; omega, by unfold Sm; simp only [List.length_append]; omega⟩
    have vs : s ≠ v := fun e => vne [] [] (by rw [e])
    have w1 : isExt (n1, n2) (n1 ++ s, n2 ++ v) = false := not_ext_len (by simp only [List.length_append]; omega)
    have w2 : isExt (n1 ++ s, n2 ++ v) (n1, n2) = false := not_ext_tail vs
    have w3 : isExt (n1 ++ s, n2 ++ v) (n1 ++ s, n2 ++ s) = false := not_ext_eq rfl (fun e => vs (List.append_cancel_left (congrArg Prod.snd e)).symm)
    have w4 : isExt (n1 ++ s, n2 ++ s) (n1 ++ s, n2 ++ v) = false := not_ext_eq rfl (fun e => vs (List.append_cancel_left (congrArg Prod.snd e)))
    have w5 : isExt (n1, n2 ++ s) (n1, n2) = false := not_ext_len (by simp only [List.length_append]; omega)
    have w6 : isExt (n1, n2) (n1, n2 ++ s) = false := not_ext_len (by simp only [List.length_append]; omega)
    have w7 : (isExt (n2 ++ s, n1 ++ s) (n1 ++ s, n2 ++ s) || isExt (n1 ++ s, n2 ++ s) (n2 ++ s, n1 ++ s)) = decide (((n1, n2) : Eff) = ([], [])) := by
      by_cases c : n1 = n2
      · have z := ne c
        rw [decide_eq_true z]
        cases z
        rw [ext_self]
        rfl
      · have z : ¬ ((n1, n2) : Eff) = ([], []) := fun z => c (by cases z; rfl)
        rw [decide_eq_false z]
        have k1 : isExt (n2 ++ s, n1 ++ s) (n1 ++ s, n2 ++ s) = false := by
          by_cases l : n2.length = n1.length
          · exact not_ext_eq (by simp only [List.length_append]; omega) (fun e => c (List.append_cancel_right (congrArg Prod.fst e)).symm)
          · exact not_ext_len (by simp only [List.length_append]; omega)
        have k2 : isExt (n1 ++ s, n2 ++ s) (n2 ++ s, n1 ++ s) = false := by
          by_cases l : n2.length = n1.length
          · exact not_ext_eq (by simp only [List.length_append]; omega) (fun e => c (List.append_cancel_right (congrArg Prod.fst e)))
          · exact not_ext_len (by simp only [List.length_append]; omega)
        rw [k1, k2]
        rfl
    refine use_alike (a := (n1, n2)) (b := (n1 ++ s, n2 ++ v)) (c := false) A1 A5 (by rw [w1, w2]; rfl) ?_
    walk_at "run"
    refine use_alike (a := (n1 ++ s, n2 ++ v)) (b := (n1 ++ s, n2 ++ s)) (c := false) A5 A2 (by rw [w3, w4]; rfl) ?_
    walk_at "run"
    refine use_alike (a := (n1, n2 ++ s)) (b := (n1, n2)) (c := false) A6 A1 (by rw [w5, w6]; rfl) ?_
    walk_at "run"
    refine use_alike (a := (n2 ++ s, n1 ++ s)) (b := (n1 ++ s, n2 ++ s)) A7 A2 w7 ?_
    walk_at "run"
    refine st_eq_ee (c := []) (d := []) ?_
    walk_at "run"
    refine use_same rfl ?_ ?_
    · rfl
    walk_at "run"
    refine use_height (a := (n1 ++ s, n2 ++ s)) ?_
    walk_at "run"
    refine use_height (a := (n1, n2)) ?_
    walk_at "run"
    refine use_height (a := (n1, n2 ++ s)) ?_
    walk_at "run"
    refine use_height (a := (s, [])) ?_
    walk_at "run"
    refine use_same ?_ ?_ ?_
    · dsimp only
      simp only [List.length_append, List.length_nil, D.tup.injEq, List.cons.injEq, D.int.injEq, and_true]
      exact ⟨by omega, trivial, by omega, by omega⟩
    · rfl
    refine .of ?_
    simp only [sup_sup]
    exact q _ ok8 (by omega)
  · exact h.elim
theorem use_alikes {b : Addr} {m h : Int} {S : Sto} {Q : DK} {so : SO} (hS : S b = some so) (ok : Ok so) (c : cnt so ≤ 300000) (m0 : 0 ≤ m) (m1 : m ≤ 90) (h0 : 2 ≤ h) (q : ∀ so', Ok so' → cnt so' ≤ cnt so + 20000 → Q (.bl true) (sup S b so')) : sp_law_alikes (.ref b) (.int m) (.int h) S Q := ⟨so, hS, ok, c, m0, m1, h0, q⟩
end L3

set_option Elab.async false
set_option maxRecDepth 100000
set_option linter.all false
set_option maxHeartbeats 4000000
namespace L3
open PySem L2
local macro_rules | `(tactic| walk_at "rd") => `(tactic| try simp only [dSeq, dAsg, dOp, dUn, dVar, dC, dCons, dNil, dTup, dLst, dLstM, dTest, dChain, dAnd, dOr, dNot, dAndV, dOrV, dNotV, dIfE, dCB, dCall, dSl, dPart, dNoPart, dIf, dRet, dRetN, dNext, dDrop, dTg, setAll, slot, dset, dwipe, dAug,
  a0, a1, a2, a3, a4, a5, a6, dLc, iTupD, iRange1, iRange2, dYes, dLM, dgSub, DEnds.of, dstart,
  vAt_some, vAtL_lst, vIx_tup, vIx_lst, vIx_ro, vIx_ref, vSl_tup, vSl_lst, vSl_ro, vSl_ref, vSlL_lst, vLen_tup, vLen_lst, vLen_ro, vLen_ref, vLenL_lst, vLenL_dK, vAdd_int, vAdd_tup, vAdd_lst, vAdd_ref, vAddL_lst, vSub_int, vLt_int, vLe_int, vGt_int, vGe_int, vMod_int, vDiv_int, vPow_int, vShl_int, vMul_int, vMul_tup, vMul_lst,
  vEq_int, vEq_str, vEq_bl, vEq_tup, vEq_lst, vNe_int, vNe_str, vNe_bl, vNe_tup, isN_non, isN_bl, isN_int, isN_str, isN_tup, isN_lst, isN_ref, vIs_non, vIsNot_non, vNeg_int, vInt_int, vInt_bl, vBool_int, vBool_bl, vAbs_int, vMin2_int, vMax2_int, vTuple_tup, vTuple_lst, vTuple_ref, vTupleL_lst, vList_tup, vList_lst,
  vAllO_some, vAll_x, vAny_x, seqOf_lst, vIsi_x, vIadd_int, vAppL_lst, vAppend_ref, vSetN_some, vSetO_lst, vSet_ref, isSeq_ref, ex_lst, all1,
  isiT_int_int, isiT_int_bool, isiT_int_tuple, isiT_int_str, isiT_int_list, isiT_bl_int, isiT_bl_bool, isiT_bl_tuple, isiT_bl_str, isiT_bl_list, isiT_non_int, isiT_non_bool, isiT_non_tuple, isiT_non_str, isiT_non_list, isiT_str_int, isiT_str_bool, isiT_str_tuple, isiT_str_str, isiT_str_list, isiT_tup_int, isiT_tup_bool, isiT_tup_tuple, isiT_tup_str, isiT_tup_list, isiT_lst_int, isiT_lst_bool, isiT_lst_tuple, isiT_lst_str, isiT_lst_list,
  Option.map_some, Option.bind_some, List.map_cons, List.map_nil, List.length_cons, List.length_nil, List.cons_append, List.nil_append, List.replicate, List.set, List.append_nil, atI_0, atI_1, atI_2, atI_3, atI_4, atI_5, List.length_map, Nat.zero_add, Nat.reduceAdd, Nat.reduceSub, Nat.reduceLeDiff, true_and, and_true, Bool.false_eq_true, if_true, if_false, decide_eq_true_eq, reduceIte, ite_true, ite_false,
  Bool.not_true, Bool.not_false, List.length_append, cut_from, cut_to, sup_same, sup_sup, Option.some.injEq, exists_eq_left', exists_eq_left])
local macro_rules | `(tactic| walk_at "cond") => `(tactic| first | omega | (simp only [List.length_append, List.length_cons, List.length_nil, List.length_take, List.length_drop, List.length_map, List.length_reverse]; omega) | rfl | decide)
local macro_rules | `(tactic| walk_at "side") => `(tactic| first | assumption | omega | (simp only [List.length_append, List.length_cons, List.length_nil, List.length_take, List.length_drop, List.length_map, List.length_reverse, sizeLine_val]; omega) | decide)
local macro_rules | `(tactic| walk_at "st") => `(tactic| first
  | with_reducible refine st_ix0 ?_ | with_reducible refine st_ix1 ?_ | with_reducible refine st_ix2 ?_ | with_reducible refine st_ix3 ?_ | with_reducible refine st_ix4 ?_
  | with_reducible refine st_add_pp (by walk_at "side") ?_ | with_reducible refine st_add_p1 (by walk_at "side") ?_ | with_reducible refine st_add_1p (by walk_at "side") ?_
  | with_reducible refine st_add ?_ | with_reducible refine st_sub ?_ | with_reducible refine st_iadd ?_ | with_reducible refine st_neg ?_
  | with_reducible refine st_len_p ?_ | with_reducible refine st_len_lp ?_ | with_reducible refine st_len_rp ?_ | with_reducible refine st_len_t ?_ | with_reducible refine st_len_l ?_
  | with_reducible refine st_lm0 ?_ | with_reducible refine st_ltail ?_ | with_reducible refine st_add_ll (by walk_at "side") ?_
  | with_reducible refine st_add_t (by walk_at "side") ?_ | with_reducible refine st_add_l (by walk_at "side") ?_ | with_reducible refine st_add_s (by walk_at "side") ?_
  | with_reducible refine st_iteT ?_ | with_reducible refine st_iteF ?_ | with_reducible refine st_not ?_
  | with_reducible refine st_lt ?_ | with_reducible refine st_le ?_ | with_reducible refine st_gt ?_ | with_reducible refine st_ge ?_ | with_reducible refine st_eqi ?_ | with_reducible refine st_nei ?_ | with_reducible refine st_eqs ?_ | with_reducible refine st_nes ?_ | with_reducible refine st_eqb ?_
  | with_reducible refine st_isn_non ?_ | with_reducible refine st_isn_int ?_ | with_reducible refine st_isn_tup ?_ | with_reducible refine st_isn_str ?_ | with_reducible refine st_isn_bl ?_
  | with_reducible refine st_isnt_non ?_ | with_reducible refine st_isnt_int ?_ | with_reducible refine st_isnt_tup ?_ | with_reducible refine st_isnt_str ?_
  | with_reducible refine st_int ?_ | with_reducible refine st_intb ?_ | with_reducible refine st_abs ?_ | with_reducible refine st_min2 ?_ | with_reducible refine st_max2 ?_
  | with_reducible refine st_tup_l ?_ | with_reducible refine st_tup_t ?_ | with_reducible refine st_lst_t ?_ | with_reducible refine st_lst_l ?_
  | with_reducible refine st_sl_from ?_ | with_reducible refine st_sl_to ?_
  | with_reducible refine st_lx0 ?_ | with_reducible refine st_lx1 ?_ | with_reducible refine st_lx2 ?_ | with_reducible refine st_lx3 ?_
  | with_reducible refine st_mod (by walk_at "side") ?_ | with_reducible refine st_div (by walk_at "side") ?_ | with_reducible refine st_mul (by walk_at "side") ?_ | with_reducible refine st_mul' (by walk_at "side") ?_
  | with_reducible refine st_isi rfl ?_
  | (with_reducible refine And.intro (Nat.le_of_ble_eq_true rfl) ?_)
  | (refine And.intro (rfl : (_ : Nat) = _) ?_)
  | with_reducible refine st_dT (by walk_at "cond") ?_ | with_reducible refine st_dF (by walk_at "cond") ?_)
local macro_rules | `(tactic| walk_at "hd") => `(tactic| (with_reducible conv => whnf))
local macro_rules | `(tactic| walk_at "run") => `(tactic| ((with_reducible conv => whnf); repeat (walk_at "st"; (with_reducible conv => whnf))))
def sp_law_rows (bowl high : D) (S : Sto) (Q : DK) : Prop := match bowl, high with
  | .ref b, .int h => ∃ so, S b = some so ∧ Ok so ∧ cnt so ≤ 250000 ∧ 2 ≤ h ∧ ∀ so', Ok so' → cnt so' ≤ cnt so + 40000 → Q (.bl true) (sup S b so')
  | _, _ => False
theorem use_rows {b : Addr} {h : Int} {S : Sto} {Q : DK} {so : SO} (hS : S b = some so) (ok : Ok so) (c : cnt so ≤ 250000) (h0 : 2 ≤ h) (q : ∀ so', Ok so' → cnt so' ≤ cnt so + 40000 → Q (.bl true) (sup S b so')) : sp_law_rows (.ref b) (.int h) S Q := ⟨so, hS, ok, c, h0, q⟩
theorem st_pick {R : D → Prop} {xs : List D} {n : Int} {S : Sto} {Q : DK} (h0 : 0 ≤ n) (h1 : n < xs.length) (hp : ∀ x ∈ xs, R x) (h : ∀ x, R x → Q x S) : vIx (.tup xs) (.int n) S Q := by
  rw [vIx_tup, atI_int h0, List.getElem?_eq_getElem (by omega)]
  exact h _ (hp _ (List.getElem_mem _))
-- law : 0=script 1=cup 2=high
def rd_law : DTS :=
    (dSeq (dAsg (dCall (a1 sp_law_cup) (dCons (dVar 0) dNil)) (dTg (.nm 1)))
    (dSeq (dAsg (dOp vIx (dTup (dCons (dC (.int 2)) (dCons (dC (.int 3)) (dCons (dC (.int 24)) dNil)))) (dCall (a2 sp_law_dice) (dCons (dVar 1) (dCons (dC (.int 3)) dNil)))) (dTg (.nm 2)))
    (dSeq (dIf (dOr (dNot (dTest (dCall (a3 sp_law_pairs) (dCons (dVar 1) (dCons (dC (.int 5)) (dCons (dVar 2) dNil)))))) (dOr (dNot (dTest (dCall (a2 sp_law_rows) (dCons (dVar 1) (dCons (dVar 2) dNil))))) (dNot (dTest (dCall (a3 sp_law_alikes) (dCons (dVar 1) (dCons (dC (.int 4)) (dCons (dVar 2) dNil)))))))) (dRet (dC (.bl false))) dNext)
    (dSeq (dIf (dTest (dOp vGt (dCall (a2 sp_law_dice) (dCons (dVar 1) (dCons (dC (.int 13)) dNil))) (dC (.int 0)))) (dRet (dC (.bl true))) dNext)
    (dRet (dAndV (dCall (a3 sp_law_pairs) (dCons (dVar 1) (dCons (dC (.int 90)) (dCons (dVar 2) dNil)))) (dCall (a3 sp_law_alikes) (dCons (dVar 1) (dCons (dC (.int 90)) (dCons (dVar 2) dNil))))))))))
theorem rd_law_ok : ∀ ds S P, spTrue ds S P → rd_law (DEnds.of P) (dstart ["script", "cup", "high"] ds) S := by
  rintro ds S P ⟨ns, rfl, hl, q⟩
  unfold rd_law
  walk_at "run"
  refine use_cup hl fun b so hb ok c => ?_
  walk_at "run"
  refine use_dice sup_same ok (by omega) (by omega) fun so1 n1 ok1 c1 n10 n11 => ?_
  refine st_pick (R := fun x => ∃ i, x = .int i ∧ 2 ≤ i) n10 n11 ?_ fun t ⟨i, e, i2⟩ => ?_
  · intro x hx
    simp only [List.mem_cons, List.not_mem_nil, or_false] at hx
    rcases hx with rfl | rfl | rfl
    · exact ⟨_, rfl, by omega⟩
    · exact ⟨_, rfl, by omega⟩
    · exact ⟨_, rfl, by omega⟩
  subst e
  walk_at "run"
  refine use_pairs sup_same ok1 (by omega) (by omega) (by omega) i2 fun so2 ok2 c2 => ?_
  walk_at "run"
  refine use_rows sup_same ok2 (by omega) i2 fun so3 ok3 c3 => ?_
  walk_at "run"
  refine use_alikes sup_same ok3 (by omega) (by omega) (by omega) i2 fun so4 ok4 c4 => ?_
  walk_at "run"
  refine use_dice sup_same ok4 (by omega) (by omega) fun so5 n5 ok5 c5 n50 n51 => ?_
  walk_at "run"
  by_cases c6 : 0 < n5
  · walk_at "run"
    exact .of (q _)
  · walk_at "run"
    refine use_pairs sup_same ok5 (by omega) (by omega) (by omega) i2 fun so6 ok6 c6 => ?_
    walk_at "run"
    refine use_alikes sup_same ok6 (by omega) (by omega) (by omega) i2 fun so7 ok7 c7 => ?_
    exact .of (q _)
end L3

set_option Elab.async false
set_option maxRecDepth 100000
set_option linter.all false
set_option maxHeartbeats 4000000
namespace L3
open PySem L2
local macro_rules | `(tactic| walk_at "rd") => `(tactic| try simp only [dSeq, dAsg, dOp, dUn, dVar, dC, dCons, dNil, dTup, dLst, dLstM, dTest, dChain, dAnd, dOr, dNot, dAndV, dOrV, dNotV, dIfE, dCB, dCall, dSl, dPart, dNoPart, dIf, dRet, dRetN, dNext, dDrop, dTg, setAll, slot, dset, dwipe, dAug,
  a0, a1, a2, a3, a4, a5, a6, dLc, iTupD, iRange1, iRange2, dYes, dLM, dgSub, DEnds.of, dstart,
  vAt_some, vAtL_lst, vIx_tup, vIx_lst, vIx_ro, vIx_ref, vSl_tup, vSl_lst, vSl_ro, vSl_ref, vSlL_lst, vLen_tup, vLen_lst, vLen_ro, vLen_ref, vLenL_lst, vLenL_dK, vAdd_int, vAdd_tup, vAdd_lst, vAdd_ref, vAddL_lst, vSub_int, vLt_int, vLe_int, vGt_int, vGe_int, vMod_int, vDiv_int, vPow_int, vShl_int, vMul_int, vMul_tup, vMul_lst,
  vEq_int, vEq_str, vEq_bl, vEq_tup, vEq_lst, vNe_int, vNe_str, vNe_bl, vNe_tup, isN_non, isN_bl, isN_int, isN_str, isN_tup, isN_lst, isN_ref, vIs_non, vIsNot_non, vNeg_int, vInt_int, vInt_bl, vBool_int, vBool_bl, vAbs_int, vMin2_int, vMax2_int, vTuple_tup, vTuple_lst, vTuple_ref, vTupleL_lst, vList_tup, vList_lst,
  vAllO_some, vAll_x, vAny_x, seqOf_lst, vIsi_x, vIadd_int, vAppL_lst, vAppend_ref, vSetN_some, vSetO_lst, vSet_ref, isSeq_ref, ex_lst, all1,
  isiT_int_int, isiT_int_bool, isiT_int_tuple, isiT_int_str, isiT_int_list, isiT_bl_int, isiT_bl_bool, isiT_bl_tuple, isiT_bl_str, isiT_bl_list, isiT_non_int, isiT_non_bool, isiT_non_tuple, isiT_non_str, isiT_non_list, isiT_str_int, isiT_str_bool, isiT_str_tuple, isiT_str_str, isiT_str_list, isiT_tup_int, isiT_tup_bool, isiT_tup_tuple, isiT_tup_str, isiT_tup_list, isiT_lst_int, isiT_lst_bool, isiT_lst_tuple, isiT_lst_str, isiT_lst_list,
  Option.map_some, Option.bind_some, List.map_cons, List.map_nil, List.length_cons, List.length_nil, List.cons_append, List.nil_append, List.replicate, List.set, List.append_nil, atI_0, atI_1, atI_2, atI_3, atI_4, atI_5, List.length_map, Nat.zero_add, Nat.reduceAdd, Nat.reduceSub, Nat.reduceLeDiff, true_and, and_true, Bool.false_eq_true, if_true, if_false, decide_eq_true_eq, reduceIte, ite_true, ite_false,
  Bool.not_true, Bool.not_false, List.length_append, cut_from, cut_to, sup_same, sup_sup, Option.some.injEq, exists_eq_left', exists_eq_left])
local macro_rules | `(tactic| walk_at "cond") => `(tactic| first | omega | (simp only [List.length_append, List.length_cons, List.length_nil, List.length_take, List.length_drop, List.length_map, List.length_reverse]; omega) | rfl | decide)
local macro_rules | `(tactic| walk_at "side") => `(tactic| first | assumption | omega | (simp only [List.length_append, List.length_cons, List.length_nil, List.length_take, List.length_drop, List.length_map, List.length_reverse, sizeLine_val]; omega) | decide)
local macro_rules | `(tactic| walk_at "st") => `(tactic| first
  | with_reducible refine st_ix0 ?_ | with_reducible refine st_ix1 ?_ | with_reducible refine st_ix2 ?_ | with_reducible refine st_ix3 ?_ | with_reducible refine st_ix4 ?_
  | with_reducible refine st_add_pp (by walk_at "side") ?_ | with_reducible refine st_add_p1 (by walk_at "side") ?_ | with_reducible refine st_add_1p (by walk_at "side") ?_
  | with_reducible refine st_add ?_ | with_reducible refine st_sub ?_ | with_reducible refine st_iadd ?_ | with_reducible refine st_neg ?_
  | with_reducible refine st_len_p ?_ | with_reducible refine st_len_lp ?_ | with_reducible refine st_len_rp ?_ | with_reducible refine st_len_t ?_ | with_reducible refine st_len_l ?_
  | with_reducible refine st_lm0 ?_ | with_reducible refine st_ltail ?_ | with_reducible refine st_add_ll (by walk_at "side") ?_
  | with_reducible refine st_add_t (by walk_at "side") ?_ | with_reducible refine st_add_l (by walk_at "side") ?_ | with_reducible refine st_add_s (by walk_at "side") ?_
  | with_reducible refine st_iteT ?_ | with_reducible refine st_iteF ?_ | with_reducible refine st_not ?_
  | with_reducible refine st_lt ?_ | with_reducible refine st_le ?_ | with_reducible refine st_gt ?_ | with_reducible refine st_ge ?_ | with_reducible refine st_eqi ?_ | with_reducible refine st_nei ?_ | with_reducible refine st_eqs ?_ | with_reducible refine st_nes ?_ | with_reducible refine st_eqb ?_
  | with_reducible refine st_isn_non ?_ | with_reducible refine st_isn_int ?_ | with_reducible refine st_isn_tup ?_ | with_reducible refine st_isn_str ?_ | with_reducible refine st_isn_bl ?_
  | with_reducible refine st_isnt_non ?_ | with_reducible refine st_isnt_int ?_ | with_reducible refine st_isnt_tup ?_ | with_reducible refine st_isnt_str ?_
  | with_reducible refine st_int ?_ | with_reducible refine st_intb ?_ | with_reducible refine st_abs ?_ | with_reducible refine st_min2 ?_ | with_reducible refine st_max2 ?_
  | with_reducible refine st_tup_l ?_ | with_reducible refine st_tup_t ?_ | with_reducible refine st_lst_t ?_ | with_reducible refine st_lst_l ?_
  | with_reducible refine st_sl_from ?_ | with_reducible refine st_sl_to ?_
  | with_reducible refine st_lx0 ?_ | with_reducible refine st_lx1 ?_ | with_reducible refine st_lx2 ?_ | with_reducible refine st_lx3 ?_
  | with_reducible refine st_mod (by walk_at "side") ?_ | with_reducible refine st_div (by walk_at "side") ?_ | with_reducible refine st_mul (by walk_at "side") ?_ | with_reducible refine st_mul' (by walk_at "side") ?_
  | with_reducible refine st_isi rfl ?_
  | (with_reducible refine And.intro (Nat.le_of_ble_eq_true rfl) ?_)
  | (refine And.intro (rfl : (_ : Nat) = _) ?_)
  | with_reducible refine st_dT (by walk_at "cond") ?_ | with_reducible refine st_dF (by walk_at "cond") ?_)
local macro_rules | `(tactic| walk_at "hd") => `(tactic| (with_reducible conv => whnf))
local macro_rules | `(tactic| walk_at "run") => `(tactic| ((with_reducible conv => whnf); repeat (walk_at "st"; (with_reducible conv => whnf))))
/-! ### joining is associative: what an effect does to a pile -/
def ap (e : Eff) (p : List Int) : Option (List Int) := if p.take e.1.length = e.1 then some (e.2 ++ p.drop e.1.length) else none
theorem ap_self (e : Eff) : ap e e.1 = some e.2 := by
  unfold ap
  rw [List.take_length, if_pos rfl, List.drop_length, List.append_nil]
theorem pre_iff {p q : List Int} : p.take q.length = q ↔ ∃ z, p = q ++ z := by
  constructor
  · intro h
    refine ⟨p.drop q.length, ?_⟩
    have := (List.take_append_drop q.length p).symm
    rwa [h] at this
  · rintro ⟨z, rfl⟩
    simp
theorem ap_some {e : Eff} {p r : List Int} : ap e p = some r ↔ ∃ z, p = e.1 ++ z ∧ r = e.2 ++ z := by
  unfold ap
  constructor
  · intro h
    split at h
    · rename_i c
      obtain ⟨z, rfl⟩ := pre_iff.mp c
      cases h
      exact ⟨z, rfl, by simp⟩
    · cases h
  · rintro ⟨z, rfl, rfl⟩
    rw [if_pos (by simp)]
    simp
theorem ap_jn (a b : Eff) (p : List Int) : (ap a p).bind (ap b) = (jn a b).bind fun c => ap c p := by
  obtain ⟨a1, a2⟩ := a
  obtain ⟨b1, b2⟩ := b
  apply Option.ext
  intro r
  have L : (ap (a1, a2) p).bind (ap (b1, b2)) = some r ↔ ∃ z w, p = a1 ++ z ∧ a2 ++ z = b1 ++ w ∧ r = b2 ++ w := by
    rw [Option.bind_eq_some_iff]
    constructor
    · rintro ⟨m, h1, h2⟩
      obtain ⟨z, rfl, rfl⟩ := ap_some.mp h1
      obtain ⟨w, h3, rfl⟩ := ap_some.mp h2
      exact ⟨z, w, rfl, h3, rfl⟩
    · rintro ⟨z, w, rfl, h3, rfl⟩
      exact ⟨a2 ++ z, ap_some.mpr ⟨z, rfl, rfl⟩, ap_some.mpr ⟨w, h3, rfl⟩⟩
  show (ap (a1, a2) p).bind (ap (b1, b2)) = some r ↔ _
  rw [L, Option.bind_eq_some_iff]
  unfold jn
  by_cases c1 : b1.take a2.length = a2
  · obtain ⟨k, rfl⟩ := pre_iff.mp c1
    simp only [List.take_left, if_true, List.drop_left, Option.some.injEq, exists_eq_left']
    rw [ap_some]
    constructor
    · rintro ⟨z, w, rfl, h, rfl⟩
      rw [List.append_assoc] at h
      have := List.append_cancel_left h
      subst this
      exact ⟨w, by rw [List.append_assoc], rfl⟩
    · rintro ⟨w, rfl, rfl⟩
      exact ⟨k ++ w, w, by rw [List.append_assoc], by rw [List.append_assoc], rfl⟩
  · rw [if_neg c1]
    by_cases c2 : a2.take b1.length = b1
    · obtain ⟨k, rfl⟩ := pre_iff.mp c2
      simp only [List.take_left, if_true, List.drop_left, Option.some.injEq, exists_eq_left']
      rw [ap_some]
      constructor
      · rintro ⟨z, w, rfl, h, rfl⟩
        rw [List.append_assoc] at h
        have := List.append_cancel_left h
        subst this
        exact ⟨z, rfl, by rw [List.append_assoc]⟩
      · rintro ⟨z, rfl, rfl⟩
        exact ⟨z, k ++ z, rfl, by rw [List.append_assoc], by rw [List.append_assoc]⟩
    · rw [if_neg c2]
      constructor
      · rintro ⟨z, w, rfl, h, rfl⟩
        exfalso
        rcases Nat.le_total a2.length b1.length with l | l
        · apply c1
          have := congrArg (List.take a2.length) h
          rw [List.take_left, List.take_append_of_le_length l] at this
          exact this.symm
        · apply c2
          have := congrArg (List.take b1.length) h
          rw [List.take_left, List.take_append_of_le_length l] at this
          exact this
      · rintro ⟨c, h, _⟩
        cases h
theorem ap_ext {a b : Eff} (h : ∀ p, ap a p = ap b p) : a = b := by
  obtain ⟨z, h1, h2⟩ := ap_some.mp ((h a.1).symm.trans (ap_self a))
  obtain ⟨w, h3, h4⟩ := ap_some.mp ((h b.1).trans (ap_self b))
  have : z = [] := by
    have l1 := congrArg List.length h1
    have l2 := congrArg List.length h3
    simp only [List.length_append] at l1 l2
    exact List.length_eq_zero_iff.mp (by omega)
  subst this
  rw [List.append_nil] at h1 h2
  exact Prod.ext h1 h2
theorem jn_assoc (a b c : Eff) : (jn a b).bind (fun d => jn d c) = (jn b c).bind (fun d => jn a d) := by
  have key : ∀ p, ((jn a b).bind fun d => jn d c).bind (fun e => ap e p) = ((jn b c).bind fun d => jn a d).bind (fun e => ap e p) := fun p => by
    have e1 : ((jn a b).bind fun d => jn d c).bind (fun e => ap e p) = ((ap a p).bind (ap b)).bind (ap c) := by
      rw [ap_jn, Option.bind_assoc, Option.bind_assoc]
      congr 1
      funext d
      exact (ap_jn d c p).symm
    have e2 : ((jn b c).bind fun d => jn a d).bind (fun e => ap e p) = ((ap a p).bind (ap b)).bind (ap c) := by
      rw [Option.bind_assoc, Option.bind_assoc]
      cases k : ap a p with
      | none =>
        cases z : jn b c with
        | none => rfl
        | some d =>
          have := ap_jn a d p
          rw [k] at this
          exact this.symm
      | some m =>
        show _ = (ap b m).bind (ap c)
        rw [ap_jn]
        cases z : jn b c with
        | none => rfl
        | some d =>
          have := ap_jn a d p
          rw [k] at this
          exact this.symm
    rw [e1, e2]
  cases x : (jn a b).bind fun d => jn d c with
  | none =>
    cases y : (jn b c).bind fun d => jn a d with
    | none => rfl
    | some f =>
      have := key f.1
      rw [x, y] at this
      have h : ap f f.1 = none := this.symm
      rw [ap_self] at h
      cases h
  | some e =>
    cases y : (jn b c).bind fun d => jn a d with
    | none =>
      have := key e.1
      rw [x, y] at this
      have h : ap e e.1 = none := this
      rw [ap_self] at h
      cases h
    | some f =>
      congr 1
      refine ap_ext fun p => ?_
      have := key p
      rw [x, y] at this
      exact this
theorem jn_one (e : Eff) : jn ([], []) e = some e := by
  obtain ⟨p, q⟩ := e
  simp [jn]
/-- a fold from any effect -/
def foldFrom (o : Option Eff) (es : List Eff) : Option Eff := es.foldl (fun o e => o.bind fun f => jn f e) o
theorem foldFrom_none : ∀ es : List Eff, foldFrom none es = none
  | [] => rfl
  | e :: es => foldFrom_none es
theorem foldFrom_jn : ∀ (es : List Eff) (a : Eff) (o : Option Eff), foldFrom (o.bind fun b => jn a b) es = (foldFrom o es).bind fun b => jn a b
  | [], a, o => rfl
  | e :: es, a, o => by
    show foldFrom ((o.bind fun b => jn a b).bind fun f => jn f e) es = (foldFrom (o.bind fun f => jn f e) es).bind fun b => jn a b
    rw [← foldFrom_jn es a (o.bind fun f => jn f e)]
    congr 1
    cases o with
    | none => rfl
    | some b => exact jn_assoc a b e
theorem fold_app (xs ys : List Eff) (a b : Eff) (ha : fold xs = some a) (hb : fold ys = some b) : fold (xs ++ ys) = jn a b := by
  have h1 : fold (xs ++ ys) = foldFrom (fold xs) ys := by unfold fold foldFrom; rw [List.foldl_append]
  rw [h1, ha]
  have h2 := foldFrom_jn ys a (some ([], []))
  have h3 : foldFrom (some ([], [])) ys = some b := hb
  rw [h3] at h2
  have h4 : ((some (([], []) : Eff)).bind fun b => jn a b) = some a := by
    obtain ⟨p, q⟩ := a
    cases q <;> simp [jn]
  rw [h4] at h2
  exact h2
end L3

set_option Elab.async false
set_option maxRecDepth 100000
set_option linter.all false
set_option maxHeartbeats 4000000
namespace L3
open PySem L2
local macro_rules | `(tactic| walk_at "rd") => `(tactic| try simp only [dSeq, dAsg, dOp, dUn, dVar, dC, dCons, dNil, dTup, dLst, dLstM, dTest, dChain, dAnd, dOr, dNot, dAndV, dOrV, dNotV, dIfE, dCB, dCall, dSl, dPart, dNoPart, dIf, dRet, dRetN, dNext, dDrop, dTg, setAll, slot, dset, dwipe, dAug,
  a0, a1, a2, a3, a4, a5, a6, dLc, iTupD, iRange1, iRange2, dYes, dLM, dgSub, DEnds.of, dstart,
  vAt_some, vAtL_lst, vIx_tup, vIx_lst, vIx_ro, vIx_ref, vSl_tup, vSl_lst, vSl_ro, vSl_ref, vSlL_lst, vLen_tup, vLen_lst, vLen_ro, vLen_ref, vLenL_lst, vLenL_dK, vAdd_int, vAdd_tup, vAdd_lst, vAdd_ref, vAddL_lst, vSub_int, vLt_int, vLe_int, vGt_int, vGe_int, vMod_int, vDiv_int, vPow_int, vShl_int, vMul_int, vMul_tup, vMul_lst,
  vEq_int, vEq_str, vEq_bl, vEq_tup, vEq_lst, vNe_int, vNe_str, vNe_bl, vNe_tup, isN_non, isN_bl, isN_int, isN_str, isN_tup, isN_lst, isN_ref, vIs_non, vIsNot_non, vNeg_int, vInt_int, vInt_bl, vBool_int, vBool_bl, vAbs_int, vMin2_int, vMax2_int, vTuple_tup, vTuple_lst, vTuple_ref, vTupleL_lst, vList_tup, vList_lst,
  vAllO_some, vAll_x, vAny_x, seqOf_lst, vIsi_x, vIadd_int, vAppL_lst, vAppend_ref, vSetN_some, vSetO_lst, vSet_ref, isSeq_ref, ex_lst, all1,
  isiT_int_int, isiT_int_bool, isiT_int_tuple, isiT_int_str, isiT_int_list, isiT_bl_int, isiT_bl_bool, isiT_bl_tuple, isiT_bl_str, isiT_bl_list, isiT_non_int, isiT_non_bool, isiT_non_tuple, isiT_non_str, isiT_non_list, isiT_str_int, isiT_str_bool, isiT_str_tuple, isiT_str_str, isiT_str_list, isiT_tup_int, isiT_tup_bool, isiT_tup_tuple, isiT_tup_str, isiT_tup_list, isiT_lst_int, isiT_lst_bool, isiT_lst_tuple, isiT_lst_str, isiT_lst_list,
  Option.map_some, Option.bind_some, List.map_cons, List.map_nil, List.length_cons, List.length_nil, List.cons_append, List.nil_append, List.replicate, List.set, List.append_nil, atI_0, atI_1, atI_2, atI_3, atI_4, atI_5, List.length_map, Nat.zero_add, Nat.reduceAdd, Nat.reduceSub, Nat.reduceLeDiff, true_and, and_true, Bool.false_eq_true, if_true, if_false, decide_eq_true_eq, reduceIte, ite_true, ite_false,
  Bool.not_true, Bool.not_false, List.length_append, cut_from, cut_to, sup_same, sup_sup, Option.some.injEq, exists_eq_left', exists_eq_left])
local macro_rules | `(tactic| walk_at "cond") => `(tactic| first | omega | (simp only [List.length_append, List.length_cons, List.length_nil, List.length_take, List.length_drop, List.length_map, List.length_reverse]; omega) | rfl | decide)
local macro_rules | `(tactic| walk_at "side") => `(tactic| first | assumption | omega | (simp only [List.length_append, List.length_cons, List.length_nil, List.length_take, List.length_drop, List.length_map, List.length_reverse, sizeLine_val]; omega) | decide)
local macro_rules | `(tactic| walk_at "st") => `(tactic| first
  | with_reducible refine st_ix0 ?_ | with_reducible refine st_ix1 ?_ | with_reducible refine st_ix2 ?_ | with_reducible refine st_ix3 ?_ | with_reducible refine st_ix4 ?_
  | with_reducible refine st_add_pp (by walk_at "side") ?_ | with_reducible refine st_add_p1 (by walk_at "side") ?_ | with_reducible refine st_add_1p (by walk_at "side") ?_
  | with_reducible refine st_add ?_ | with_reducible refine st_sub ?_ | with_reducible refine st_iadd ?_ | with_reducible refine st_neg ?_
  | with_reducible refine st_len_p ?_ | with_reducible refine st_len_lp ?_ | with_reducible refine st_len_rp ?_ | with_reducible refine st_len_t ?_ | with_reducible refine st_len_l ?_
  | with_reducible refine st_lm0 ?_ | with_reducible refine st_ltail ?_ | with_reducible refine st_add_ll (by walk_at "side") ?_
  | with_reducible refine st_add_t (by walk_at "side") ?_ | with_reducible refine st_add_l (by walk_at "side") ?_ | with_reducible refine st_add_s (by walk_at "side") ?_
  | with_reducible refine st_iteT ?_ | with_reducible refine st_iteF ?_ | with_reducible refine st_not ?_
  | with_reducible refine st_lt ?_ | with_reducible refine st_le ?_ | with_reducible refine st_gt ?_ | with_reducible refine st_ge ?_ | with_reducible refine st_eqi ?_ | with_reducible refine st_nei ?_ | with_reducible refine st_eqs ?_ | with_reducible refine st_nes ?_ | with_reducible refine st_eqb ?_
  | with_reducible refine st_isn_non ?_ | with_reducible refine st_isn_int ?_ | with_reducible refine st_isn_tup ?_ | with_reducible refine st_isn_str ?_ | with_reducible refine st_isn_bl ?_
  | with_reducible refine st_isnt_non ?_ | with_reducible refine st_isnt_int ?_ | with_reducible refine st_isnt_tup ?_ | with_reducible refine st_isnt_str ?_
  | with_reducible refine st_int ?_ | with_reducible refine st_intb ?_ | with_reducible refine st_abs ?_ | with_reducible refine st_min2 ?_ | with_reducible refine st_max2 ?_
  | with_reducible refine st_tup_l ?_ | with_reducible refine st_tup_t ?_ | with_reducible refine st_lst_t ?_ | with_reducible refine st_lst_l ?_
  | with_reducible refine st_sl_from ?_ | with_reducible refine st_sl_to ?_
  | with_reducible refine st_lx0 ?_ | with_reducible refine st_lx1 ?_ | with_reducible refine st_lx2 ?_ | with_reducible refine st_lx3 ?_
  | with_reducible refine st_mod (by walk_at "side") ?_ | with_reducible refine st_div (by walk_at "side") ?_ | with_reducible refine st_mul (by walk_at "side") ?_ | with_reducible refine st_mul' (by walk_at "side") ?_
  | with_reducible refine st_isi rfl ?_
  | (with_reducible refine And.intro (Nat.le_of_ble_eq_true rfl) ?_)
  | (refine And.intro (rfl : (_ : Nat) = _) ?_)
  | with_reducible refine st_dT (by walk_at "cond") ?_ | with_reducible refine st_dF (by walk_at "cond") ?_)
local macro_rules | `(tactic| walk_at "hd") => `(tactic| (with_reducible conv => whnf))
local macro_rules | `(tactic| walk_at "run") => `(tactic| ((with_reducible conv => whnf); repeat (walk_at "st"; (with_reducible conv => whnf))))
theorem sup_over {S : Sto} {b p : Addr} {so so' r : SO} (h : p ≠ b) : sup (sup (sup S b so) p r) b so' = sup (sup S b so') p r := by
  funext a
  unfold sup
  by_cases e : a = b
  · subst e
    rw [if_pos rfl, if_neg (Ne.symm h), if_pos rfl]
  · rw [if_neg e]
    by_cases e2 : a = p
    · rw [if_pos e2, if_pos e2]
    · rw [if_neg e2, if_neg e2, if_neg e, if_neg e]
theorem sup_in {S : Sto} {b p : Addr} {so r : SO} (h : p ≠ b) : sup (sup S b so) p r b = some so := by rw [sup_ne (Ne.symm h), sup_same]
theorem st_add_rl {A : Addr} {xs ys : List D} {S : Sto} {Q : DK} (hS : S A = some (.lst xs)) (h1 : xs.length + ys.length ≤ sizeLine) (h : Q (.lst (xs ++ ys)) S) : vAdd (.ref A) (.lst ys) S Q := by
  simp only [vAdd, hS]
  exact ⟨h1, h⟩
theorem st_sl_tupto {es : List Eff} {k : Int} {S : Sto} {Q : DK} (h0 : 0 ≤ k) (h : Q (.tup ((es.take k.toNat).map efD)) S) : vSl (.tup (es.map efD)) none (some k) S Q := by
  obtain ⟨n, rfl⟩ := Int.eq_ofNat_of_zero_le h0
  rw [vSl_tup, cut_to, ← List.map_take]
  exact h
theorem st_sl_tupfrom {es : List Eff} {k : Int} {S : Sto} {Q : DK} (h0 : 0 ≤ k) (h : Q (.tup ((es.drop k.toNat).map efD)) S) : vSl (.tup (es.map efD)) (some k) none S Q := by
  obtain ⟨n, rfl⟩ := Int.eq_ofNat_of_zero_le h0
  rw [vSl_tup, cut_from, ← List.map_drop]
  exact h
/-- the row never jams -/
theorem jn_begins {f e : Eff} (h : e.1.take f.2.length = f.2 ∨ f.2.take e.1.length = e.1) : ∃ g, jn f e = some g := by
  unfold jn
  by_cases c : e.1.take f.2.length = f.2
  · exact ⟨_, if_pos c⟩
  · rw [if_neg c]
    rcases h with h | h
    · exact absurd h c
    · exact ⟨_, if_pos h⟩
-- _law_rows : 0=cup 1=high 2=row 3=turn 4=whole 5=off 6=last 7=more 8=effects 9=due 10=at 11=one 12=other
def rd_law_rows : DTS :=
    (dSeq (dAsg (dLstM dNil) (dTg (.nm 2)))
    (dSeq (dFor (iRange1 (dCall (a2 sp_law_dice) (dCons (dVar 0) (dCons (dC (.int 7)) dNil)))) (dTg (.nm 3)) (dSeq (dAsg (dCall (a1 sp_law_fold) (dCons (dVar 2) dNil)) (dTg (.nm 4)))
    (dSeq (dAsg (dSl vSl (dOp vIx (dVar 4) (dC (.int 1))) dNoPart (dPart (dCall (a2 sp_law_dice) (dCons (dVar 0) (dCons (dC (.int 4)) dNil))))) (dTg (.nm 5)))
    (dSeq (dIf (dTest (dOp vEq (dCB vLen (dCons (dVar 5) dNil)) (dCB vLen (dCons (dOp vIx (dVar 4) (dC (.int 1))) dNil)))) (dAsg (dOp vAdd (dVar 5) (dCall (a3 sp_law_kinds) (dCons (dVar 0) (dCons (dC (.int 2)) (dCons (dVar 1) dNil))))) (dTg (.nm 5))) dNext)
    (dDrop (dLM vAppend (dVar 2) (dCons (dTup (dCons (dVar 5) (dCons (dCall (a3 sp_law_kinds) (dCons (dVar 0) (dCons (dC (.int 3)) (dCons (dVar 1) dNil)))) dNil))) dNil)))))))
    (dSeq (dAsg (dTup (dCons (dCall (a3 sp_law_kinds) (dCons (dVar 0) (dCons (dC (.int 2)) (dCons (dVar 1) dNil)))) (dCons (dTup dNil) dNil))) (dTg (.nm 6)))
    (dSeq (dFor (iTupD (dTup (dCons (dLst dNil) (dCons (dLst (dCons (dVar 6) dNil)) (dCons (dLst (dCons (dVar 6) (dCons (dTup (dCons (dTup (dCons (dC (.int 0)) dNil)) (dCons (dTup (dCons (dC (.int 0)) (dCons (dC (.int 0)) dNil))) dNil))) dNil))) (dCons (dLst (dCons (dTup (dCons (dTup dNil) (dCons (dTup (dCons (dC (.int 1)) dNil)) dNil))) (dCons (dTup (dCons (dTup (dCons (dC (.int 0)) dNil)) (dCons (dTup dNil) dNil))) dNil))) dNil)))))) (dTg (.nm 7)) (dSeq (dAsg (dCB vTuple (dCons (dOp vAdd (dVar 2) (dVar 7)) dNil)) (dTg (.nm 8)))
    (dSeq (dAsg (dCall (a1 sp_law_fold) (dCons (dVar 8) dNil)) (dTg (.nm 9)))
    (dSeq (dIf (dNot (dTest (dCall (a2 sp_law_same) (dCons (dCall (a1 sp_all_joined) (dCons (dVar 8) dNil)) (dCons (dVar 9) dNil))))) (dRet (dC (.bl false))) dNext)
    (dSeq (dAsg (dCall (a2 sp_law_dice) (dCons (dVar 0) (dCons (dOp vAdd (dCB vLen (dCons (dVar 8) dNil)) (dC (.int 1))) dNil))) (dTg (.nm 10)))
    (dSeq (dAsg (dCall (a1 sp_all_joined) (dCons (dSl vSl (dVar 8) dNoPart (dPart (dVar 10))) dNil)) (dTg (.nm 11)))
    (dSeq (dAsg (dCall (a1 sp_law_fold) (dCons (dSl vSl (dVar 8) (dPart (dVar 10)) dNoPart) dNil)) (dTg (.nm 12)))
    (dIf (dOr (dNot (dTest (dCall (a2 sp_law_same) (dCons (dVar 11) (dCons (dCall (a1 sp_law_fold) (dCons (dSl vSl (dVar 8) dNoPart (dPart (dVar 10))) dNil)) dNil))))) (dAnd (dTest (dOp vIsNot (dVar 11) (dC .non))) (dAnd (dTest (dOp vIsNot (dVar 12) (dC .non))) (dNot (dTest (dCall (a2 sp_law_same) (dCons (dCall (a2 sp_joined) (dCons (dVar 11) (dCons (dVar 12) dNil))) (dCons (dVar 9) dNil)))))))) (dRet (dC (.bl false))) dNext))))))))
    (dRet (dC (.bl true)))))))
theorem rd_law_rows_ok : ∀ ds S P, (a2 sp_law_rows) ds S P → rd_law_rows (DEnds.of P) (dstart ["cup", "high", "row", "turn", "whole", "off", "last", "more", "effects", "due", "at", "one", "other"] ds) S := by
  intro ds S P h
  rcases ds with _ | ⟨x, _ | ⟨y, _ | ⟨z, ds⟩⟩⟩ <;> first | exact (h : False).elim | skip
  simp only [a2, sp_law_rows] at h
  split at h
  · rename_i b h'
    obtain ⟨so, hS, ok, hc, hh, q⟩ := h
    unfold rd_law_rows
    rw [← sup_self hS]
    walk_at "run"
    intro p hp
    walk_at "run"
    have hpb : p ≠ b := fun z => by
      subst z
      rw [sup_same] at hp
      cases hp
    refine use_dice (sup_in hpb) ok (by omega) (by omega) fun so1 n1 ok1 c1 n10 n11 => ?_
    rw [sup_over hpb]
    walk_at "run"
    refine ⟨by omega, by omega, ?_⟩
    have hn : (rngD 0 n1.toNat).length ≤ 6 := by
      simp only [rngD, List.length_map, List.length_range]
      omega
    refine forL_inv (fun i δ S' => ∃ (so' : SO) (es : List Eff) (f : Eff) (x3 x4 x5 : Option D), S' = sup (sup S b so') p (.lst (es.map efD)) ∧ Ok so' ∧ cnt so' ≤ cnt so1 + 2100 * i ∧ es.length = i ∧ (∀ e ∈ es, B 100 e) ∧ fold es = some f ∧
      δ = [some (.ref b), some (.int h'), some (.ref p), x3, x4, x5, none, none, none, none, none, none, none]) (fun _ _ _ _ => True.intro) _ 0 _ _ ⟨so1, [], ([], []), none, none, none, rfl, ok1, by omega, rfl, (fun e he => by cases he), rfl, rfl⟩ ?_ ?_
    · rintro j d _ _ hj ⟨so2, es, f, x3, x4, x5, rfl, ok2, c2, hl, hb, hf, rfl⟩ D2 hrt _ hnx _
      have hj6 : j < 6 := Nat.lt_of_lt_of_le (List.getElem?_eq_some_iff.mp hj).1 hn
      walk_at "run"
      refine use_fold_r (es := es) sup_same ⟨by omega, fun e he => (hb e he).mono (by decide)⟩ ?_
      rw [hf]
      walk_at "run"
      refine use_dice (sup_in hpb) ok2 (by omega) (by omega) fun so3 n3 ok3 c3 n30 n31 => ?_
      rw [sup_over hpb]
      walk_at "run"
      refine st_sl_toZ' n30 ?_
      have tk : (f.2.take n3.toNat).length ≤ 3 := by rw [List.length_take]; omega
      have add : ∀ (off k : List Int) (so4 : SO) (y3 y4 y5 : Option D), off.length ≤ 5 → k.length ≤ 3 → (off.take f.2.length = f.2 ∨ f.2.take off.length = off) → Ok so4 → cnt so4 ≤ cnt so2 + 2100 →
          D2.nx [some (.ref b), some (.int h'), some (.ref p), y3, y4, y5, none, none, none, none, none, none, none] (sup (sup S b so4) p (.lst ((es ++ [(off, k)]).map efD))) := fun off k so4 y3 y4 y5 l1 l2 hb2 ok4 c4 => by
        obtain ⟨g, hg⟩ := jn_begins (f := f) (e := (off, k)) hb2
        refine hnx _ _ ⟨so4, es ++ [(off, k)], g, _, _, _, rfl, ok4, by omega, by simp [hl], fun e he => ?_, by rw [fold_snoc, hf]; exact hg, rfl⟩
        rcases List.mem_append.mp he with he | he
        · exact hb e he
        · simp at he
          subst he
          exact ⟨by show off.length ≤ _; omega, by show k.length ≤ _; omega⟩
      walk_at "run"
      have app : ∀ (off k : List Int) (so4 : SO), (es.map efD ++ [.tup [.tup (off.map .int), .tup (k.map .int)]]) = (es ++ [(off, k)]).map efD := fun off k so4 => by simp
      by_cases c : (f.2.take n3.toNat).length = f.2.length
      · walk_at "run"
        refine use_kinds (sup_in hpb) ok3 (by omega) (by omega) (by omega) (by omega) fun so4 k1 ok4 c4 kl1 kb1 => ?_
        rw [sup_over hpb]
        walk_at "run"
        rw [isSeq_ref]
        refine ⟨⟨_, sup_same⟩, ?_⟩
        walk_at "run"
        refine use_kinds (sup_in hpb) ok4 (by omega) (by omega) (by omega) (by omega) fun so5 k2 ok5 c5 kl2 kb2 => ?_
        rw [sup_over hpb]
        walk_at "run"
        refine st_append sup_same (by rw [List.length_map, sizeLine_val]; omega) ?_
        walk_at "run"
        rw [sup_sup, app _ _ so5]
        refine add _ _ so5 _ _ _ (by simp only [List.length_append]; omega) (by omega) (.inl ?_) ok5 (by omega)
        have e : f.2.take n3.toNat = f.2 := List.take_of_length_le (by rw [List.length_take] at c; omega)
        rw [e]
        simp
      · walk_at "run"
        rw [isSeq_ref]
        refine ⟨⟨_, sup_same⟩, ?_⟩
        walk_at "run"
        refine use_kinds (sup_in hpb) ok3 (by omega) (by omega) (by omega) (by omega) fun so5 k2 ok5 c5 kl2 kb2 => ?_
        rw [sup_over hpb]
        walk_at "run"
        refine st_append sup_same (by rw [List.length_map, sizeLine_val]; omega) ?_
        walk_at "run"
        rw [sup_sup, app _ _ so5]
        refine add _ _ so5 _ _ _ (by omega) (by omega) (.inr ?_) ok5 (by omega)
        rw [List.length_take]
        simp [List.take_take]
    · rintro _ _ ⟨so2, es, f, x3, x4, x5, rfl, ok2, c2, hl, hb, hf, rfl⟩
      rw [Nat.zero_add] at hl c2
      walk_at "run"
      refine use_kinds (sup_in hpb) ok2 (by omega) (by omega) (by omega) (by omega) fun so3 k ok3 c3 kl kb => ?_
      rw [sup_over hpb]
      walk_at "run"
      have kl2 : k.length ≤ 2 := by omega
      have hes : es.length ≤ 6 := by omega
      refine forL_inv (fun i δ S' => ∃ (so' : SO) (y7 y8 y9 y10 y11 y12 : Option D), S' = sup (sup S b so') p (.lst (es.map efD)) ∧ Ok so' ∧ cnt so' ≤ cnt so3 + i ∧
        δ = [some (.ref b), some (.int h'), some (.ref p), x3, x4, x5, some (efD (k, [])), y7, y8, y9, y10, y11, y12]) (fun _ _ _ _ => True.intro) (([[], [(k, [])], [(k, []), ([0], [0, 0])], [([], [1]), ([0], [])]] : List (List Eff)).map fun ms => .lst (ms.map efD)) 0 _ _ ⟨so3, none, none, none, none, none, none, rfl, ok3, by omega, rfl⟩ ?_ ?_
      · rintro j d _ _ hj ⟨so4, y7, y8, y9, y10, y11, y12, rfl, ok4, c4, rfl⟩ D2 hrt _ hnx _
        rw [List.getElem?_map] at hj
        cases g : ([[], [(k, [])], [(k, []), ([0], [0, 0])], [([], [1]), ([0], [])]] : List (List Eff))[j]? with
        | none => rw [g] at hj; cases hj
        | some ms =>
        have hj4 : j < 4 := (List.getElem?_eq_some_iff.mp g).1
        rw [g] at hj
        cases hj
        have hm : ms.length ≤ 2 ∧ ∀ e ∈ ms, B 100 e := by
          have hmem := List.mem_of_getElem? g
          simp only [List.mem_cons, List.not_mem_nil, or_false] at hmem
          have kb100 : B 100 (k, []) := ⟨by show k.length ≤ _; omega, Nat.zero_le _⟩
          rcases hmem with rfl | rfl | rfl | rfl
          · exact ⟨by decide, fun e he => by cases he⟩
          · refine ⟨by simp, fun e he => ?_⟩
            simp only [List.mem_cons, List.not_mem_nil, or_false] at he
            subst he
            exact kb100
          · refine ⟨by simp, fun e he => ?_⟩
            simp only [List.mem_cons, List.not_mem_nil, or_false] at he
            rcases he with rfl | rfl
            · exact kb100
            · exact ⟨by decide, by decide⟩
          · refine ⟨by simp, fun e he => ?_⟩
            simp only [List.mem_cons, List.not_mem_nil, or_false] at he
            rcases he with rfl | rfl
            · exact ⟨by decide, by decide⟩
            · exact ⟨by decide, by decide⟩
        obtain ⟨hm1, hm2⟩ := hm
        walk_at "run"
        refine st_add_rl sup_same (by rw [List.length_map, List.length_map, sizeLine_val]; omega) ?_
        rw [← List.map_append]
        have hfl : (es ++ ms).length ≤ 8 := by rw [List.length_append]; omega
        have hfb : ∀ e ∈ es ++ ms, B 100 e := fun e he => by
          rcases List.mem_append.mp he with he | he
          · exact hb e he
          · exact hm2 e he
        have hE : ∀ n, Es ((es ++ ms).take n) := fun n => ⟨by rw [List.length_take]; omega, fun e he => (hfb e (List.mem_of_mem_take he)).mono (by decide)⟩
        have hD : ∀ n, Es ((es ++ ms).drop n) := fun n => ⟨by rw [List.length_drop]; omega, fun e he => (hfb e (List.mem_of_mem_drop he)).mono (by decide)⟩
        have hA : Es (es ++ ms) := ⟨by omega, fun e he => (hfb e he).mono (by decide)⟩
        have sA : ∀ f, fold (es ++ ms) = some f → SmE f := fun f hf => by
          have := fold_take hA (es ++ ms).length f
          rw [List.take_length] at this
          exact this hf
        generalize es ++ ms = fs at hfl hfb hE hD hA sA ⊢
        walk_at "run"
        refine use_fold_t hA ?_
        walk_at "run"
        refine use_all_joined hA ?_
        refine use_same rfl ?_ ?_
        · exact due_o sA
        walk_at "run"
        rw [List.length_map]
        refine use_dice (sup_in hpb) ok4 (by omega) (by omega) fun so5 n ok5 c5 n0 n1 => ?_
        rw [sup_over hpb]
        walk_at "run"
        refine st_sl_tupto n0 ?_
        refine use_all_joined (hE _) ?_
        walk_at "run"
        refine st_sl_tupfrom n0 ?_
        refine use_fold_t (hD _) ?_
        walk_at "run"
        refine st_sl_tupto n0 ?_
        refine use_fold_t (hE _) ?_
        refine use_same rfl ?_ ?_
        · exact due_o (fold_take hA _)
        have sd : ∀ f, fold (fs.drop n.toNat) = some f → SmE f := fun f hf => by
          have := fold_take (hD n.toNat) (fs.drop n.toNat).length f
          rw [List.take_length] at this
          exact this hf
        have st := fold_take hA n.toNat
        walk_at "run"
        cases g1 : fold (fs.take n.toNat) with
        | none =>
          walk_at "run"
          exact hnx _ _ ⟨so5, _, _, _, _, _, _, rfl, ok5, by omega, rfl⟩
        | some e1 =>
          walk_at "run"
          cases g2 : fold (fs.drop n.toNat) with
          | none =>
            walk_at "run"
            exact hnx _ _ ⟨so5, _, _, _, _, _, _, rfl, ok5, by omega, rfl⟩
          | some e2 =>
            walk_at "run"
            refine use_joined (st _ g1) (sd _ g2) ?_
            have hj2 := fold_app _ _ _ _ g1 g2
            rw [List.take_append_drop] at hj2
            rw [← hj2]
            refine use_same rfl ?_ ?_
            · exact due_o sA
            walk_at "run"
            exact hnx _ _ ⟨so5, _, _, _, _, _, _, rfl, ok5, by omega, rfl⟩
      · rintro _ _ ⟨so4, y7, y8, y9, y10, y11, y12, rfl, ok4, c4, rfl⟩
        walk_at "run"
        have l4 : ((([[], [(k, [])], [(k, []), ([0], [0, 0])], [([], [1]), ([0], [])]] : List (List Eff)).map fun ms => D.lst (ms.map efD)).length) = 4 := rfl
        rw [l4] at c4
        refine ⟨.bl true, sup S b so4, fun a o ha => ?_, .refl _, q _ ok4 (by omega)⟩
        have hap : a ≠ p := fun z => by
          subst z
          rw [sup_ne hpb] at ha
          rw [sup_ne hpb] at hp
          rw [hp] at ha
          cases ha
        rw [sup_ne hap]
        exact ha
  · exact h.elim
end L3

set_option Elab.async false
set_option maxRecDepth 100000
set_option linter.all false
set_option maxHeartbeats 4000000
namespace L3
set_option autoImplicit false
open PySem PySem.Spec PyProof.Rows L2
/-! the text by places -/
def topS (i : Nat) : Stmt := PySem.Challenge.pw_pilesfit_k01_effect_joins.main.body.getD i (.Pass ⟨0, 0, 0, 0⟩)
abbrev s_begins : Stmt := topS 2
abbrev N_begins : List Str := ["pile", "front"]
theorem sc_begins : FnScope N_begins ["pile", "front"] (defScope s_begins) := ⟨rfl, rfl, rfl, by decide +kernel, rfl, by decide +kernel, by decide +kernel⟩
abbrev s_joined : Stmt := topS 3
abbrev N_joined : List Str := ["one", "other", "off", "on", "wanted", "put"]
theorem sc_joined : FnScope N_joined ["one", "other"] (defScope s_joined) := ⟨rfl, rfl, rfl, by decide +kernel, rfl, by decide +kernel, by decide +kernel⟩
abbrev s_all_joined : Stmt := topS 4
abbrev N_all_joined : List Str := ["effects", "found", "effect"]
theorem sc_all_joined : FnScope N_all_joined ["effects"] (defScope s_all_joined) := ⟨rfl, rfl, rfl, by decide +kernel, rfl, by decide +kernel, by decide +kernel⟩
abbrev s_extended : Stmt := topS 5
abbrev N_extended : List Str := ["effect", "pile"]
theorem sc_extended : FnScope N_extended ["effect", "pile"] (defScope s_extended) := ⟨rfl, rfl, rfl, by decide +kernel, rfl, by decide +kernel, by decide +kernel⟩
abbrev s_net_effect : Stmt := topS 6
abbrev N_net_effect : List Str := ["effect", "off", "on", "many"]
theorem sc_net_effect : FnScope N_net_effect ["effect"] (defScope s_net_effect) := ⟨rfl, rfl, rfl, by decide +kernel, rfl, by decide +kernel, by decide +kernel⟩
abbrev s_goes_through : Stmt := topS 12
abbrev N_goes_through : List Str := ["pile", "effect"]
theorem sc_goes_through : FnScope N_goes_through ["pile", "effect"] (defScope s_goes_through) := ⟨rfl, rfl, rfl, by decide +kernel, rfl, by decide +kernel, by decide +kernel⟩
abbrev s_after : Stmt := topS 13
abbrev N_after : List Str := ["pile", "effect", "off", "on", "place"]
theorem sc_after : FnScope N_after ["pile", "effect"] (defScope s_after) := ⟨rfl, rfl, rfl, by decide +kernel, rfl, by decide +kernel, by decide +kernel⟩
abbrev s_height : Stmt := topS 14
abbrev N_height : List Str := ["effect"]
theorem sc_height : FnScope N_height ["effect"] (defScope s_height) := ⟨rfl, rfl, rfl, by decide +kernel, rfl, by decide +kernel, by decide +kernel⟩
abbrev s_is_extended : Stmt := topS 15
abbrev N_is_extended : List Str := ["one", "other", "many", "pile"]
theorem sc_is_extended : FnScope N_is_extended ["one", "other"] (defScope s_is_extended) := ⟨rfl, rfl, rfl, by decide +kernel, rfl, by decide +kernel, by decide +kernel⟩
abbrev s_are_alike : Stmt := topS 16
abbrev N_are_alike : List Str := ["one", "other"]
theorem sc_are_alike : FnScope N_are_alike ["one", "other"] (defScope s_are_alike) := ⟨rfl, rfl, rfl, by decide +kernel, rfl, by decide +kernel, by decide +kernel⟩
abbrev s_law_cup : Stmt := topS 18
abbrev N_law_cup : List Str := ["script", "total", "shaken", "cell", "size", "turn", "part"]
theorem sc_law_cup : FnScope N_law_cup ["script"] (defScope s_law_cup) := ⟨rfl, rfl, rfl, by decide +kernel, rfl, by decide +kernel, by decide +kernel⟩
abbrev s_law_dice : Stmt := topS 19
abbrev N_law_dice : List Str := ["cup", "sides", "part"]
theorem sc_law_dice : FnScope N_law_dice ["cup", "sides"] (defScope s_law_dice) := ⟨rfl, rfl, rfl, by decide +kernel, rfl, by decide +kernel, by decide +kernel⟩
abbrev s_law_same : Stmt := topS 20
abbrev N_law_same : List Str := ["told", "due", "at"]
theorem sc_law_same : FnScope N_law_same ["told", "due"] (defScope s_law_same) := ⟨rfl, rfl, rfl, by decide +kernel, rfl, by decide +kernel, by decide +kernel⟩
abbrev s_law_kinds : Stmt := topS 21
abbrev N_law_kinds : List Str := ["cup", "most", "high", "turn"]
theorem sc_law_kinds : FnScope N_law_kinds ["cup", "most", "high"] (defScope s_law_kinds) := ⟨rfl, rfl, rfl, by decide +kernel, rfl, by decide +kernel, by decide +kernel⟩
abbrev s_law_pass : Stmt := topS 22
abbrev N_law_pass : List Str := ["first", "second", "off", "on", "wanted"]
theorem sc_law_pass : FnScope N_law_pass ["first", "second"] (defScope s_law_pass) := ⟨rfl, rfl, rfl, by decide +kernel, rfl, by decide +kernel, by decide +kernel⟩
abbrev s_law_fold : Stmt := topS 23
abbrev N_law_fold : List Str := ["effects", "whole", "effect"]
theorem sc_law_fold : FnScope N_law_fold ["effects"] (defScope s_law_fold) := ⟨rfl, rfl, rfl, by decide +kernel, rfl, by decide +kernel, by decide +kernel⟩
abbrev s_law_net : Stmt := topS 24
abbrev N_law_net : List Str := ["effect", "off", "on"]
theorem sc_law_net : FnScope N_law_net ["effect"] (defScope s_law_net) := ⟨rfl, rfl, rfl, by decide +kernel, rfl, by decide +kernel, by decide +kernel⟩
abbrev s_law_after : Stmt := topS 25
abbrev N_law_after : List Str := ["pile", "effect", "e"]
theorem sc_law_after : FnScope N_law_after ["pile", "effect"] (defScope s_law_after) := ⟨rfl, rfl, rfl, by decide +kernel, rfl, by decide +kernel, by decide +kernel⟩
abbrev s_law_stays : Stmt := topS 26
abbrev N_law_stays : List Str := ["pile", "effect", "at"]
theorem sc_law_stays : FnScope N_law_stays ["pile", "effect"] (defScope s_law_stays) := ⟨rfl, rfl, rfl, by decide +kernel, rfl, by decide +kernel, by decide +kernel⟩
abbrev s_law_goes : Stmt := topS 27
abbrev N_law_goes : List Str := ["pile", "effect", "due", "told"]
theorem sc_law_goes : FnScope N_law_goes ["pile", "effect"] (defScope s_law_goes) := ⟨rfl, rfl, rfl, by decide +kernel, rfl, by decide +kernel, by decide +kernel⟩
abbrev s_law_spoilt : Stmt := topS 28
abbrev N_law_spoilt : List Str := ["cup", "pile", "high", "at"]
theorem sc_law_spoilt : FnScope N_law_spoilt ["cup", "pile", "high"] (defScope s_law_spoilt) := ⟨rfl, rfl, rfl, by decide +kernel, rfl, by decide +kernel, by decide +kernel⟩
abbrev s_law_pairs : Stmt := topS 29
abbrev N_law_pairs : List Str := ["cup", "most", "high", "first", "less", "seconds", "second", "due", "rest", "pile", "wanted", "shorter"]
theorem sc_law_pairs : FnScope N_law_pairs ["cup", "most", "high"] (defScope s_law_pairs) := ⟨rfl, rfl, rfl, by decide +kernel, rfl, by decide +kernel, by decide +kernel⟩
abbrev s_law_rows : Stmt := topS 30
abbrev N_law_rows : List Str := ["cup", "high", "row", "turn", "whole", "off", "last", "more", "effects", "due", "at", "one", "other"]
theorem sc_law_rows : FnScope N_law_rows ["cup", "high"] (defScope s_law_rows) := ⟨rfl, rfl, rfl, by decide +kernel, rfl, by decide +kernel, by decide +kernel⟩
abbrev s_law_alikes : Stmt := topS 31
abbrev N_law_alikes : List Str := ["cup", "most", "high", "net", "some", "more", "other", "one", "two", "three", "alike", "wrong", "longer", "heights", "tall"]
theorem sc_law_alikes : FnScope N_law_alikes ["cup", "most", "high"] (defScope s_law_alikes) := ⟨rfl, rfl, rfl, by decide +kernel, rfl, by decide +kernel, by decide +kernel⟩
abbrev s_law : Stmt := topS 32
abbrev N_law : List Str := ["script", "cup", "high"]
theorem sc_law : FnScope N_law ["script"] (defScope s_law) := ⟨rfl, rfl, rfl, by decide +kernel, rfl, by decide +kernel, by decide +kernel⟩
abbrev si_Jam : Stmt := (clsBody (topS 10)).getD 0 (.Pass ⟨0, 0, 0, 0⟩)
theorem sci_Jam : FnScope ["self", "place"] ["self", "place"] (defScope si_Jam) := ⟨rfl, rfl, rfl, by decide +kernel, rfl, by decide +kernel, by decide +kernel⟩
/-- what the top has written -/
structure Txt (K : PySem.W.Frag) (mg : Str → Option Value) where
  f_begins : Addr
  fd_begins : FuncData
  F_begins : Fun K "begins" "begins" s_begins f_begins fd_begins
  m_begins : mg "begins" = some (.ref f_begins)
  b_begins : Binds K fd_begins ["pile", "front"] []
  f_joined : Addr
  fd_joined : FuncData
  F_joined : Fun K "joined" "joined" s_joined f_joined fd_joined
  m_joined : mg "joined" = some (.ref f_joined)
  b_joined : Binds K fd_joined ["one", "other"] []
  f_all_joined : Addr
  fd_all_joined : FuncData
  F_all_joined : Fun K "all_joined" "all_joined" s_all_joined f_all_joined fd_all_joined
  m_all_joined : mg "all_joined" = some (.ref f_all_joined)
  b_all_joined : Binds K fd_all_joined ["effects"] []
  f_extended : Addr
  fd_extended : FuncData
  F_extended : Fun K "extended" "extended" s_extended f_extended fd_extended
  m_extended : mg "extended" = some (.ref f_extended)
  b_extended : Binds K fd_extended ["effect", "pile"] []
  f_net_effect : Addr
  fd_net_effect : FuncData
  F_net_effect : Fun K "net_effect" "net_effect" s_net_effect f_net_effect fd_net_effect
  m_net_effect : mg "net_effect" = some (.ref f_net_effect)
  b_net_effect : Binds K fd_net_effect ["effect"] []
  f_goes_through : Addr
  fd_goes_through : FuncData
  F_goes_through : Fun K "goes_through" "goes_through" s_goes_through f_goes_through fd_goes_through
  m_goes_through : mg "goes_through" = some (.ref f_goes_through)
  b_goes_through : Binds K fd_goes_through ["pile", "effect"] []
  f_after : Addr
  fd_after : FuncData
  F_after : Fun K "after" "after" s_after f_after fd_after
  m_after : mg "after" = some (.ref f_after)
  b_after : Binds K fd_after ["pile", "effect"] []
  f_height : Addr
  fd_height : FuncData
  F_height : Fun K "height" "height" s_height f_height fd_height
  m_height : mg "height" = some (.ref f_height)
  b_height : Binds K fd_height ["effect"] []
  f_is_extended : Addr
  fd_is_extended : FuncData
  F_is_extended : Fun K "is_extended" "is_extended" s_is_extended f_is_extended fd_is_extended
  m_is_extended : mg "is_extended" = some (.ref f_is_extended)
  b_is_extended : Binds K fd_is_extended ["one", "other"] []
  f_are_alike : Addr
  fd_are_alike : FuncData
  F_are_alike : Fun K "are_alike" "are_alike" s_are_alike f_are_alike fd_are_alike
  m_are_alike : mg "are_alike" = some (.ref f_are_alike)
  b_are_alike : Binds K fd_are_alike ["one", "other"] []
  f_law_cup : Addr
  fd_law_cup : FuncData
  F_law_cup : Fun K "_law_cup" "_law_cup" s_law_cup f_law_cup fd_law_cup
  m_law_cup : mg "_law_cup" = some (.ref f_law_cup)
  b_law_cup : Binds K fd_law_cup ["script"] []
  f_law_dice : Addr
  fd_law_dice : FuncData
  F_law_dice : Fun K "_law_dice" "_law_dice" s_law_dice f_law_dice fd_law_dice
  m_law_dice : mg "_law_dice" = some (.ref f_law_dice)
  b_law_dice : Binds K fd_law_dice ["cup", "sides"] []
  f_law_same : Addr
  fd_law_same : FuncData
  F_law_same : Fun K "_law_same" "_law_same" s_law_same f_law_same fd_law_same
  m_law_same : mg "_law_same" = some (.ref f_law_same)
  b_law_same : Binds K fd_law_same ["told", "due"] []
  f_law_kinds : Addr
  fd_law_kinds : FuncData
  F_law_kinds : Fun K "_law_kinds" "_law_kinds" s_law_kinds f_law_kinds fd_law_kinds
  m_law_kinds : mg "_law_kinds" = some (.ref f_law_kinds)
  b_law_kinds : Binds K fd_law_kinds ["cup", "most", "high"] []
  f_law_pass : Addr
  fd_law_pass : FuncData
  F_law_pass : Fun K "_law_pass" "_law_pass" s_law_pass f_law_pass fd_law_pass
  m_law_pass : mg "_law_pass" = some (.ref f_law_pass)
  b_law_pass : Binds K fd_law_pass ["first", "second"] []
  f_law_fold : Addr
  fd_law_fold : FuncData
  F_law_fold : Fun K "_law_fold" "_law_fold" s_law_fold f_law_fold fd_law_fold
  m_law_fold : mg "_law_fold" = some (.ref f_law_fold)
  b_law_fold : Binds K fd_law_fold ["effects"] []
  f_law_net : Addr
  fd_law_net : FuncData
  F_law_net : Fun K "_law_net" "_law_net" s_law_net f_law_net fd_law_net
  m_law_net : mg "_law_net" = some (.ref f_law_net)
  b_law_net : Binds K fd_law_net ["effect"] []
  f_law_after : Addr
  fd_law_after : FuncData
  F_law_after : Fun K "_law_after" "_law_after" s_law_after f_law_after fd_law_after
  m_law_after : mg "_law_after" = some (.ref f_law_after)
  b_law_after : Binds K fd_law_after ["pile", "effect"] []
  f_law_stays : Addr
  fd_law_stays : FuncData
  F_law_stays : Fun K "_law_stays" "_law_stays" s_law_stays f_law_stays fd_law_stays
  m_law_stays : mg "_law_stays" = some (.ref f_law_stays)
  b_law_stays : Binds K fd_law_stays ["pile", "effect"] []
  f_law_goes : Addr
  fd_law_goes : FuncData
  F_law_goes : Fun K "_law_goes" "_law_goes" s_law_goes f_law_goes fd_law_goes
  m_law_goes : mg "_law_goes" = some (.ref f_law_goes)
  b_law_goes : Binds K fd_law_goes ["pile", "effect"] []
  f_law_spoilt : Addr
  fd_law_spoilt : FuncData
  F_law_spoilt : Fun K "_law_spoilt" "_law_spoilt" s_law_spoilt f_law_spoilt fd_law_spoilt
  m_law_spoilt : mg "_law_spoilt" = some (.ref f_law_spoilt)
  b_law_spoilt : Binds K fd_law_spoilt ["cup", "pile", "high"] []
  f_law_pairs : Addr
  fd_law_pairs : FuncData
  F_law_pairs : Fun K "_law_pairs" "_law_pairs" s_law_pairs f_law_pairs fd_law_pairs
  m_law_pairs : mg "_law_pairs" = some (.ref f_law_pairs)
  b_law_pairs : Binds K fd_law_pairs ["cup", "most", "high"] []
  f_law_rows : Addr
  fd_law_rows : FuncData
  F_law_rows : Fun K "_law_rows" "_law_rows" s_law_rows f_law_rows fd_law_rows
  m_law_rows : mg "_law_rows" = some (.ref f_law_rows)
  b_law_rows : Binds K fd_law_rows ["cup", "high"] []
  f_law_alikes : Addr
  fd_law_alikes : FuncData
  F_law_alikes : Fun K "_law_alikes" "_law_alikes" s_law_alikes f_law_alikes fd_law_alikes
  m_law_alikes : mg "_law_alikes" = some (.ref f_law_alikes)
  b_law_alikes : Binds K fd_law_alikes ["cup", "most", "high"] []
  f_law : Addr
  fd_law : FuncData
  F_law : Fun K "law" "law" s_law f_law fd_law
  m_law : mg "law" = some (.ref f_law)
  b_law : Binds K fd_law ["script"] []
  z_bool : mg "bool" = none
  z_int : mg "int" = none
  z_isinstance : mg "isinstance" = none
  z_len : mg "len" = none
  z_list : mg "list" = none
  z_min : mg "min" = none
  z_range : mg "range" = none
  z_tuple : mg "tuple" = none
  u_NO_EFFECT : Value
  v_NO_EFFECT : mg "NO_EFFECT" = some u_NO_EFFECT
  k_NO_EFFECT : Known K c_NO_EFFECT u_NO_EFFECT
  C_Jam : Addr
  g_Jam : mg "Jam" = some (.ref C_Jam)
  C_PileError : Addr
  g_PileError : mg "PileError" = some (.ref C_PileError)
  o_Jam : OexC K C_Jam
  xf_Jam : XfC K C_Jam
  no_Jam_place : PySem.W.findIn K (.ref C_Jam) "place" = some none
  fi_Jam : Addr
  fdi_Jam : FuncData
  in_Jam : PySem.W.findIn K (.ref C_Jam) "__init__" = some (some (.ref fi_Jam))
  ti_Jam : PySem.W.typeIn K (.ref fi_Jam) = some (.type "function")
  Fi_Jam : Fun K "__init__" "Jam.__init__" si_Jam fi_Jam fdi_Jam
  bi_Jam : Binds K fdi_Jam ["self", "place"] []
  ex_Jam_PileError : PySem.W.exmOne K (.ref C_Jam) (.ref C_PileError) = some true
  ex_Jam_Jam : PySem.W.exmOne K (.ref C_Jam) (.ref C_Jam) = some true
def Txt.ct {K : PySem.W.Frag} {mg : Str → Option Value} (T : Txt K mg) : CTab := ctOf [("Jam", T.C_Jam), ("PileError", T.C_PileError)]
theorem Txt.so {K : PySem.W.Frag} {mg : Str → Option Value} (T : Txt K mg) : SubOk K T.ct subT := by
  refine .of _ ?_
  simp only [List.forall_mem_cons]
  exact ⟨T.ex_Jam_PileError, T.ex_Jam_Jam, fun _ h => by cases h⟩
section
variable {P : Program} {w : World} {K : PySem.W.Frag} {mg : Str → Option Value} {base : Heap}
theorem exc_Jam (T : Txt K mg) : ExcC P w K mg base T.ct "Jam" ["place"] := by
  have no : ∀ m ∈ (["place"] : List Str), PySem.W.findIn K (.ref (T.ct "Jam")) m = some none := by
    simp only [List.forall_mem_cons]
    exact ⟨T.no_Jam_place, fun _ h => by cases h⟩
  exact ⟨T.o_Jam, T.xf_Jam, T.g_Jam, no, T.fi_Jam, T.fdi_Jam, T.in_Jam, T.ti_Jam, T.bi_Jam, ini_ok T.o_Jam no T.Fi_Jam sci_Jam (by decide) (fun cdv A outer s H E => (pss_cons (ps_ost (pe_var (i := 0) rfl (.inl rfl)) (pe_var (i := 1) rfl (.inl rfl))) pss_nil))⟩
theorem dv_begins (T : Txt K mg) : ∀ (cdv : Value) (A : Around) (outer : List Env) (s : Shared) (H : Hp) (E : XK), Room 0 (A.deeper (envOfC "begins" (defScope s_begins) s.heap.objs.size T.f_begins cdv)) → DPSs (cxOf CX0 P w K mg base N_begins "begins" (defScope s_begins) T.f_begins cdv A outer s H E).nox (KG.top K) (defBody s_begins) rd_begins := by
    intro cdv A outer s H E hr
    unfold rd_begins
    exact (dpss_one (dps_ret (dpe_cmp (dop_eq hr.units) (dpe_slice dsl (dpe_var 0) dpo_none (dpo_some (dpe_callB dcall_len (by rfl) T.z_len boot_len (dpa_cons (dpe_var 1) dpa_nil)))) (dpe_var 1))))
theorem ok_begins (T : Txt K mg) : FnD P w K mg base 1 T.f_begins T.fd_begins ["pile", "front"] (a2 sp_begins) := FnD.mk T.F_begins sc_begins a2_len (dv_begins T) rd_begins_ok
theorem dv_joined (T : Txt K mg) : ∀ (cdv : Value) (A : Around) (outer : List Env) (s : Shared) (H : Hp) (E : XK), Room 1 (A.deeper (envOfC "joined" (defScope s_joined) s.heap.objs.size T.f_joined cdv)) → DPSs (cxOf CX0 P w K mg base N_joined "joined" (defScope s_joined) T.f_joined cdv A outer s H E).nox (KG.top K) (defBody s_joined) rd_joined := by
    intro cdv A outer s H E hr
    unfold rd_joined
    exact (dpss_cons (dps_asg (dpe_var 0) (dpg_tg (tg := .tp [2, 3]) (pg_tup rfl (pgs_cons (dpg_name 2 sc_joined.nd) (pgs_cons (dpg_name 3 sc_joined.nd) pgs_nil)))))
    (dpss_cons (dps_asg (dpe_var 1) (dpg_tg (tg := .tp [4, 5]) (pg_tup rfl (pgs_cons (dpg_name 4 sc_joined.nd) (pgs_cons (dpg_name 5 sc_joined.nd) pgs_nil)))))
    (dpss_cons (dps_if (dpt_val (dpe_call (ok_begins T) (hr.mono (by decide)) (by rfl) T.m_begins T.F_begins.kp T.b_begins (dpa_cons (dpe_var 4) (dpa_cons (dpe_var 3) dpa_nil)))) (dpss_one (dps_ret (dpe_tup (dpa_cons (dpe_op dop_add (dpe_var 2) (dpe_slice dsl (dpe_var 4) (dpo_some (dpe_callB dcall_len (by rfl) T.z_len boot_len (dpa_cons (dpe_var 3) dpa_nil))) dpo_none)) (dpa_cons (dpe_var 5) dpa_nil))))) dpss_nil)
    (dpss_cons (dps_if (dpt_val (dpe_call (ok_begins T) (hr.mono (by decide)) (by rfl) T.m_begins T.F_begins.kp T.b_begins (dpa_cons (dpe_var 3) (dpa_cons (dpe_var 4) dpa_nil)))) (dpss_one (dps_ret (dpe_tup (dpa_cons (dpe_var 2) (dpa_cons (dpe_op dop_add (dpe_var 5) (dpe_slice dsl (dpe_var 3) (dpo_some (dpe_callB dcall_len (by rfl) T.z_len boot_len (dpa_cons (dpe_var 4) dpa_nil))) dpo_none)) dpa_nil))))) dpss_nil)
    (dpss_one (dps_ret dpe_non))))))
theorem ok_joined (T : Txt K mg) : FnD P w K mg base 2 T.f_joined T.fd_joined ["one", "other"] (a2 sp_joined) := FnD.mk T.F_joined sc_joined a2_len (dv_joined T) rd_joined_ok
theorem dv_all_joined (T : Txt K mg) : ∀ (cdv : Value) (A : Around) (outer : List Env) (s : Shared) (H : Hp) (E : XK), Room 2 (A.deeper (envOfC "all_joined" (defScope s_all_joined) s.heap.objs.size T.f_all_joined cdv)) → DPSs (cxOf CX0 P w K mg base N_all_joined "all_joined" (defScope s_all_joined) T.f_all_joined cdv A outer s H E).nox (KG.top K) (defBody s_all_joined) rd_all_joined := by
    intro cdv A outer s H E hr
    unfold rd_all_joined
    exact (dpss_cons (dps_set 1 sc_all_joined.nd (dpe_globE T.k_NO_EFFECT T.v_NO_EFFECT (by rfl)))
    (dpss_cons (dps_for (dpi_tup (dpe_var 0)) (dpg_tg (dpg_name 2 sc_all_joined.nd)) (dpss_one (dps_set 1 sc_all_joined.nd (dpe_ifExp (dpt_cmp dop_is (dpe_var 1) dpe_non) dpe_non (dpe_call (ok_joined T) (hr.mono (by decide)) (by rfl) T.m_joined T.F_joined.kp T.b_joined (dpa_cons (dpe_var 1) (dpa_cons (dpe_var 2) dpa_nil)))))))
    (dpss_one (dps_ret (dpe_var 1)))))
theorem ok_all_joined (T : Txt K mg) : FnD P w K mg base 3 T.f_all_joined T.fd_all_joined ["effects"] (a1 sp_all_joined) := FnD.mk T.F_all_joined sc_all_joined a1_len (dv_all_joined T) rd_all_joined_ok
theorem dv_extended (T : Txt K mg) : ∀ (cdv : Value) (A : Around) (outer : List Env) (s : Shared) (H : Hp) (E : XK), Room 0 (A.deeper (envOfC "extended" (defScope s_extended) s.heap.objs.size T.f_extended cdv)) → DPSs (cxOf CX0 P w K mg base N_extended "extended" (defScope s_extended) T.f_extended cdv A outer s H E).nox (KG.top K) (defBody s_extended) rd_extended := by
    intro cdv A outer s H E hr
    unfold rd_extended
    exact (dpss_one (dps_ret (dpe_tup (dpa_cons (dpe_op dop_add (dpe_ix dix (dpe_var 0) dpe_int) (dpe_var 1)) (dpa_cons (dpe_op dop_add (dpe_ix dix (dpe_var 0) dpe_int) (dpe_var 1)) dpa_nil)))))
theorem ok_extended (T : Txt K mg) : FnD P w K mg base 1 T.f_extended T.fd_extended ["effect", "pile"] (a2 sp_extended) := FnD.mk T.F_extended sc_extended a2_len (dv_extended T) rd_extended_ok
theorem dv_net_effect (T : Txt K mg) : ∀ (cdv : Value) (A : Around) (outer : List Env) (s : Shared) (H : Hp) (E : XK), Room 0 (A.deeper (envOfC "net_effect" (defScope s_net_effect) s.heap.objs.size T.f_net_effect cdv)) → DPSs (cxOf CX0 P w K mg base N_net_effect "net_effect" (defScope s_net_effect) T.f_net_effect cdv A outer s H E).nox (KG.top K) (defBody s_net_effect) rd_net_effect := by
    intro cdv A outer s H E hr
    unfold rd_net_effect
    exact (dpss_cons (dps_asg (dpe_var 0) (dpg_tg (tg := .tp [1, 2]) (pg_tup rfl (pgs_cons (dpg_name 1 sc_net_effect.nd) (pgs_cons (dpg_name 2 sc_net_effect.nd) pgs_nil)))))
    (dpss_cons (dps_set 3 sc_net_effect.nd dpe_int)
    (dpss_cons (dps_while (DPW.pt (dpw_and (dpt_cmp dop_lt (dpe_var 3) (dpe_callB (dcall_min2 rfl) (by rfl) T.z_min boot_min (dpa_cons (dpe_callB dcall_len (by rfl) T.z_len boot_len (dpa_cons (dpe_var 1) dpa_nil)) (dpa_cons (dpe_callB dcall_len (by rfl) T.z_len boot_len (dpa_cons (dpe_var 2) dpa_nil)) dpa_nil)))) (dpw_and1 (dpt_cmp (dop_eq hr.units) (dpe_ix dix (dpe_var 1) (dpe_op dop_sub (dpe_op dop_sub (dpe_callB dcall_len (by rfl) T.z_len boot_len (dpa_cons (dpe_var 1) dpa_nil)) dpe_int) (dpe_var 3))) (dpe_ix dix (dpe_var 2) (dpe_op dop_sub (dpe_op dop_sub (dpe_callB dcall_len (by rfl) T.z_len boot_len (dpa_cons (dpe_var 2) dpa_nil)) dpe_int) (dpe_var 3))))))) (dpss_one (dps_aug 3 dop_iadd sc_net_effect.nd dpe_int)))
    (dpss_one (dps_ret (dpe_tup (dpa_cons (dpe_slice dsl (dpe_var 1) dpo_none (dpo_some (dpe_op dop_sub (dpe_callB dcall_len (by rfl) T.z_len boot_len (dpa_cons (dpe_var 1) dpa_nil)) (dpe_var 3)))) (dpa_cons (dpe_slice dsl (dpe_var 2) dpo_none (dpo_some (dpe_op dop_sub (dpe_callB dcall_len (by rfl) T.z_len boot_len (dpa_cons (dpe_var 2) dpa_nil)) (dpe_var 3)))) dpa_nil))))))))
theorem ok_net_effect (T : Txt K mg) : FnD P w K mg base 1 T.f_net_effect T.fd_net_effect ["effect"] (a1 sp_net_effect) := FnD.mk T.F_net_effect sc_net_effect a1_len (dv_net_effect T) rd_net_effect_ok
theorem dv_goes_through (T : Txt K mg) : ∀ (cdv : Value) (A : Around) (outer : List Env) (s : Shared) (H : Hp) (E : XK), Room 1 (A.deeper (envOfC "goes_through" (defScope s_goes_through) s.heap.objs.size T.f_goes_through cdv)) → DPSs (cxOf CX0 P w K mg base N_goes_through "goes_through" (defScope s_goes_through) T.f_goes_through cdv A outer s H E).nox (KG.top K) (defBody s_goes_through) rd_goes_through := by
    intro cdv A outer s H E hr
    unfold rd_goes_through
    exact (dpss_one (dps_ret (dpe_call (ok_begins T) (hr.mono (by decide)) (by rfl) T.m_begins T.F_begins.kp T.b_begins (dpa_cons (dpe_var 0) (dpa_cons (dpe_ix dix (dpe_var 1) dpe_int) dpa_nil)))))
theorem ok_goes_through (T : Txt K mg) : FnD P w K mg base 2 T.f_goes_through T.fd_goes_through ["pile", "effect"] (a2 sp_goes_through) := FnD.mk T.F_goes_through sc_goes_through a2_len (dv_goes_through T) rd_goes_through_ok
theorem dv_after (T : Txt K mg) : ∀ (cdv : Value) (A : Around) (outer : List Env) (s : Shared) (H : Hp) (E : XK) (Γ : KG K) (PX : DWX), Room 2 (A.deeper (envOfC "after" (defScope s_after) s.heap.objs.size T.f_after cdv)) → Takes (cxOf (L2.CX P w) P w K mg base N_after "after" (defScope s_after) T.f_after cdv A outer s H E) (WD Γ T.ct PX) → DPSs (cxOf (L2.CX P w) P w K mg base N_after "after" (defScope s_after) T.f_after cdv A outer s H E) Γ (defBody s_after) (rd_after PX) := by
    intro cdv A outer s H E Γ PX hr tk
    unfold rd_after
    exact (dpss_cons (dps_asg (dpe_var 1) (dpg_tg (tg := .tp [2, 3]) (pg_tup rfl (pgs_cons (dpg_name 2 sc_after.nd) (pgs_cons (dpg_name 3 sc_after.nd) pgs_nil)))))
    (dpss_cons (dps_set 4 sc_after.nd dpe_int)
    (dpss_cons (dps_while (hp := (passes_of (K := fun e s'' => L2.CX P w outer H s E e s'') rfl)) (dpt_cmp dop_lt (dpe_var 4) (dpe_callB dcall_len (by rfl) T.z_len boot_len (dpa_cons (dpe_var 2) dpa_nil))) (dpss_cons (dps_if (DPW.pt (dpw_or (dpt_cmp (dop_eq hr.units) (dpe_var 4) (dpe_callB dcall_len (by rfl) T.z_len boot_len (dpa_cons (dpe_var 0) dpa_nil))) (dpw_or1 (dpt_cmp (dop_ne hr.units) (dpe_ix dix (dpe_var 0) (dpe_var 4)) (dpe_ix dix (dpe_var 2) (dpe_var 4)))))) (dpss_one (dps_raise (exc_Jam T) (by rfl) tk (hr.mono (by decide)) (by rfl) (dpa_cons (dpe_var 4) dpa_nil))) dpss_nil)
    (dpss_one (dps_aug 4 dop_iadd sc_after.nd dpe_int))))
    (dpss_one (dps_ret (dpe_op dop_add (dpe_var 3) (dpe_slice dsl (dpe_var 0) (dpo_some (dpe_var 4)) dpo_none)))))))
theorem ok_after (T : Txt K mg) : FnX P w K mg base T.ct 3 T.f_after T.fd_after ["pile", "effect"] (x2 sp_after) := FnX.mk T.F_after sc_after x2_len (dv_after T) rd_after_ok
theorem dv_height (T : Txt K mg) : ∀ (cdv : Value) (A : Around) (outer : List Env) (s : Shared) (H : Hp) (E : XK), Room 0 (A.deeper (envOfC "height" (defScope s_height) s.heap.objs.size T.f_height cdv)) → DPSs (cxOf CX0 P w K mg base N_height "height" (defScope s_height) T.f_height cdv A outer s H E).nox (KG.top K) (defBody s_height) rd_height := by
    intro cdv A outer s H E hr
    unfold rd_height
    exact (dpss_one (dps_ret (dpe_op dop_sub (dpe_callB dcall_len (by rfl) T.z_len boot_len (dpa_cons (dpe_ix dix (dpe_var 0) dpe_int) dpa_nil)) (dpe_callB dcall_len (by rfl) T.z_len boot_len (dpa_cons (dpe_ix dix (dpe_var 0) dpe_int) dpa_nil)))))
theorem ok_height (T : Txt K mg) : FnD P w K mg base 1 T.f_height T.fd_height ["effect"] (a1 sp_height) := FnD.mk T.F_height sc_height a1_len (dv_height T) rd_height_ok
theorem dv_is_extended (T : Txt K mg) : ∀ (cdv : Value) (A : Around) (outer : List Env) (s : Shared) (H : Hp) (E : XK), Room 0 (A.deeper (envOfC "is_extended" (defScope s_is_extended) s.heap.objs.size T.f_is_extended cdv)) → DPSs (cxOf CX0 P w K mg base N_is_extended "is_extended" (defScope s_is_extended) T.f_is_extended cdv A outer s H E).nox (KG.top K) (defBody s_is_extended) rd_is_extended := by
    intro cdv A outer s H E hr
    unfold rd_is_extended
    exact (dpss_cons (dps_set 2 sc_is_extended.nd (dpe_op dop_sub (dpe_callB dcall_len (by rfl) T.z_len boot_len (dpa_cons (dpe_ix dix (dpe_var 0) dpe_int) dpa_nil)) (dpe_callB dcall_len (by rfl) T.z_len boot_len (dpa_cons (dpe_ix dix (dpe_var 1) dpe_int) dpa_nil))))
    (dpss_cons (dps_if (DPW.pt (dpw_or (dpt_cmp dop_lt (dpe_var 2) dpe_int) (dpw_or1 (dpt_cmp (dop_ne hr.units) (dpe_op dop_sub (dpe_callB dcall_len (by rfl) T.z_len boot_len (dpa_cons (dpe_ix dix (dpe_var 0) dpe_int) dpa_nil)) (dpe_callB dcall_len (by rfl) T.z_len boot_len (dpa_cons (dpe_ix dix (dpe_var 1) dpe_int) dpa_nil))) (dpe_var 2))))) (dpss_one (dps_ret dpe_bl)) dpss_nil)
    (dpss_cons (dps_set 3 sc_is_extended.nd (dpe_slice dsl (dpe_ix dix (dpe_var 0) dpe_int) (dpo_some (dpe_callB dcall_len (by rfl) T.z_len boot_len (dpa_cons (dpe_ix dix (dpe_var 1) dpe_int) dpa_nil))) dpo_none))
    (dpss_one (dps_ret (dpe_cmp (dop_eq hr.units) (dpe_var 0) (dpe_tup (dpa_cons (dpe_op dop_add (dpe_ix dix (dpe_var 1) dpe_int) (dpe_var 3)) (dpa_cons (dpe_op dop_add (dpe_ix dix (dpe_var 1) dpe_int) (dpe_var 3)) dpa_nil)))))))))
theorem ok_is_extended (T : Txt K mg) : FnD P w K mg base 1 T.f_is_extended T.fd_is_extended ["one", "other"] (a2 sp_is_extended) := FnD.mk T.F_is_extended sc_is_extended a2_len (dv_is_extended T) rd_is_extended_ok
theorem dv_are_alike (T : Txt K mg) : ∀ (cdv : Value) (A : Around) (outer : List Env) (s : Shared) (H : Hp) (E : XK), Room 1 (A.deeper (envOfC "are_alike" (defScope s_are_alike) s.heap.objs.size T.f_are_alike cdv)) → DPSs (cxOf CX0 P w K mg base N_are_alike "are_alike" (defScope s_are_alike) T.f_are_alike cdv A outer s H E).nox (KG.top K) (defBody s_are_alike) rd_are_alike := by
    intro cdv A outer s H E hr
    unfold rd_are_alike
    exact (dpss_one (dps_ret (dpe_or (dpe_call (ok_is_extended T) (hr.mono (by decide)) (by rfl) T.m_is_extended T.F_is_extended.kp T.b_is_extended (dpa_cons (dpe_var 0) (dpa_cons (dpe_var 1) dpa_nil))) (dpe_one (dpe_call (ok_is_extended T) (hr.mono (by decide)) (by rfl) T.m_is_extended T.F_is_extended.kp T.b_is_extended (dpa_cons (dpe_var 1) (dpa_cons (dpe_var 0) dpa_nil)))))))
theorem ok_are_alike (T : Txt K mg) : FnD P w K mg base 2 T.f_are_alike T.fd_are_alike ["one", "other"] (a2 sp_are_alike) := FnD.mk T.F_are_alike sc_are_alike a2_len (dv_are_alike T) rd_are_alike_ok
theorem dv_law_cup (T : Txt K mg) : ∀ (cdv : Value) (A : Around) (outer : List Env) (s : Shared) (H : Hp) (E : XK), Room 0 (A.deeper (envOfC "_law_cup" (defScope s_law_cup) s.heap.objs.size T.f_law_cup cdv)) → DPSs (cxOf CX0 P w K mg base N_law_cup "_law_cup" (defScope s_law_cup) T.f_law_cup cdv A outer s H E).nox (KG.top K) (defBody s_law_cup) rd_law_cup := by
    intro cdv A outer s H E hr
    unfold rd_law_cup
    exact (dpss_cons (dps_set 1 sc_law_cup.nd dpe_int)
    (dpss_cons (dps_set 2 sc_law_cup.nd (dpe_lstM dpa_nil))
    (dpss_cons (dps_for (dpi_seq (dpe_slice dsl (dpe_var 0) dpo_none (dpo_some dpe_int))) (dpg_tg (dpg_name 3 sc_law_cup.nd)) (dpss_cons (dps_set 4 sc_law_cup.nd (dpe_ifExp (dpt_cmp dop_ge (dpe_var 3) dpe_int) (dpe_callTy dcall_int (by rfl) T.z_int boot_int (dpa_cons (dpe_var 3) dpa_nil)) (dpe_op dop_sub dpe_int (dpe_op dop_mul dpe_int (dpe_callTy dcall_int (by rfl) T.z_int boot_int (dpa_cons (dpe_var 3) dpa_nil))))))
    (dpss_cons (dps_set 4 sc_law_cup.nd (dpe_op dop_mod (dpe_var 4) (dpe_op dop_shl dpe_int dpe_int)))
    (dpss_cons (dps_set 1 sc_law_cup.nd (dpe_op dop_mod (dpe_callTy dcall_int (by rfl) T.z_int boot_int (dpa_cons (dpe_op dop_add (dpe_op dop_add (dpe_op dop_mul (dpe_var 1) dpe_int) (dpe_op dop_mod (dpe_var 4) dpe_int)) dpe_int) dpa_nil)) dpe_int))
    (dpss_one (dps_for (dpi_range1 (by rfl) T.z_range dpe_int) (dpg_tg (dpg_name 5 sc_law_cup.nd)) (dpss_cons (dps_expr (dpe_lm PySem.F.slot_list_append PySem.F.type_list_append mt_append lr_append (dpe_var 2) (dpa_cons (dpe_op dop_mod (dpe_callTy dcall_int (by rfl) T.z_int boot_int (dpa_cons (dpe_var 4) dpa_nil)) dpe_int) dpa_nil)))
    (dpss_one (dps_set 4 sc_law_cup.nd (dpe_op dop_div (dpe_var 4) dpe_int))))))))))
    (dpss_one (dps_ret (dpe_lstM (dpa_cons (dpe_var 1) (dpa_cons dpe_int (dpa_cons (dpe_op dop_add (dpe_lc (tg := (.nm 6)) (own := [("part", 6)]) sc_law_cup.nd (dpi_seq (dpe_var 2)) (blkOk_by (own := [("part", 6)]) (N := N_law_cup) (sc := defScope s_law_cup) (by decide +kernel)) (fun _ _ _ _ _ => dpg_name 6 sc_law_cup.nd) (fun _ _ _ _ _ => dpts_one (dpt_cmp dop_gt (dpe_var 6) dpe_int)) (fun _ _ _ _ _ => (dpe_var 6))) (dpe_lst (dpa_cons dpe_int dpa_nil))) dpa_nil)))))))))
theorem ok_law_cup (T : Txt K mg) : FnD P w K mg base 1 T.f_law_cup T.fd_law_cup ["script"] (a1 sp_law_cup) := FnD.mk T.F_law_cup sc_law_cup a1_len (dv_law_cup T) rd_law_cup_ok
theorem dv_law_dice (T : Txt K mg) : ∀ (cdv : Value) (A : Around) (outer : List Env) (s : Shared) (H : Hp) (E : XK), Room 0 (A.deeper (envOfC "_law_dice" (defScope s_law_dice) s.heap.objs.size T.f_law_dice cdv)) → DPSs (cxOf CX0 P w K mg base N_law_dice "_law_dice" (defScope s_law_dice) T.f_law_dice cdv A outer s H E).nox (KG.top K) (defBody s_law_dice) rd_law_dice := by
    intro cdv A outer s H E hr
    unfold rd_law_dice
    exact (dpss_cons (dps_asg (dpe_op dop_add (dpe_ix dix (dpe_var 0) dpe_int) dpe_int) (dpg_sub (dpe_var 0) dpe_int))
    (dpss_cons (dps_set 2 sc_law_dice.nd (dpe_ix dix (dpe_ix dix (dpe_var 0) dpe_int) (dpe_op dop_mod (dpe_callTy dcall_int (by rfl) T.z_int boot_int (dpa_cons (dpe_op dop_mul (dpe_ix dix (dpe_var 0) dpe_int) dpe_int) dpa_nil)) (dpe_callB dcall_len (by rfl) T.z_len boot_len (dpa_cons (dpe_ix dix (dpe_var 0) dpe_int) dpa_nil)))))
    (dpss_cons (dps_asg (dpe_op dop_mod (dpe_callTy dcall_int (by rfl) T.z_int boot_int (dpa_cons (dpe_op dop_add (dpe_op dop_add (dpe_op dop_add (dpe_op dop_mul (dpe_ix dix (dpe_var 0) dpe_int) dpe_int) (dpe_op dop_mul (dpe_var 2) dpe_int)) (dpe_op dop_mul (dpe_ix dix (dpe_var 0) dpe_int) dpe_int)) dpe_int) dpa_nil)) dpe_int) (dpg_sub (dpe_var 0) dpe_int))
    (dpss_one (dps_ret (dpe_op dop_mod (dpe_callTy dcall_int (by rfl) T.z_int boot_int (dpa_cons (dpe_op dop_div (dpe_ix dix (dpe_var 0) dpe_int) dpe_int) dpa_nil)) (dpe_var 1)))))))
theorem ok_law_dice (T : Txt K mg) : FnD P w K mg base 1 T.f_law_dice T.fd_law_dice ["cup", "sides"] (a2 sp_law_dice) := FnD.mk T.F_law_dice sc_law_dice a2_len (dv_law_dice T) rd_law_dice_ok
theorem dv_law_same (T : Txt K mg) {k : Nat} {spr : DSp} (G : FnD P w K mg base k T.f_law_same T.fd_law_same ["told", "due"] spr) (hk : 0 ≤ k) : ∀ (cdv : Value) (A : Around) (outer : List Env) (s : Shared) (H : Hp) (E : XK), Room k (A.deeper (envOfC "_law_same" (defScope s_law_same) s.heap.objs.size T.f_law_same cdv)) → DPSs (cxOf CX0 P w K mg base N_law_same "_law_same" (defScope s_law_same) T.f_law_same cdv A outer s H E).nox (KG.top K) (defBody s_law_same) (rd_law_same spr) := by
    intro cdv A outer s H E hr
    unfold rd_law_same
    exact (dpss_cons (dps_if (dpt_cmp dop_is (dpe_var 1) dpe_non) (dpss_one (dps_ret (dpe_cmp dop_is (dpe_var 0) dpe_non))) dpss_nil)
    (dpss_cons (dps_if (dpt_val (dpe_callB dcall_isi (by rfl) T.z_isinstance boot_isinstance (dpa_cons (dpe_var 1) (dpa_cons (dpe_ty (by rfl) T.z_bool boot_bool) dpa_nil)))) (dpss_one (dps_ret (dpe_and (dpe_callB dcall_isi (by rfl) T.z_isinstance boot_isinstance (dpa_cons (dpe_var 0) (dpa_cons (dpe_ty (by rfl) T.z_bool boot_bool) dpa_nil))) (dpe_one (dpe_cmp (dop_eq hr.units) (dpe_var 0) (dpe_var 1)))))) dpss_nil)
    (dpss_cons (dps_if (dpt_val (dpe_callB dcall_isi (by rfl) T.z_isinstance boot_isinstance (dpa_cons (dpe_var 1) (dpa_cons (dpe_ty (by rfl) T.z_tuple boot_tuple) dpa_nil)))) (dpss_cons (dps_if (DPW.pt (dpw_or (dpt_not (dpt_val (dpe_callB dcall_isi (by rfl) T.z_isinstance boot_isinstance (dpa_cons (dpe_var 0) (dpa_cons (dpe_ty (by rfl) T.z_tuple boot_tuple) dpa_nil))))) (dpw_or1 (dpt_cmp (dop_ne hr.units) (dpe_callB dcall_len (by rfl) T.z_len boot_len (dpa_cons (dpe_var 0) dpa_nil)) (dpe_callB dcall_len (by rfl) T.z_len boot_len (dpa_cons (dpe_var 1) dpa_nil)))))) (dpss_one (dps_ret dpe_bl)) dpss_nil)
    (dpss_cons (dps_for (dpi_range1 (by rfl) T.z_range (dpe_callB dcall_len (by rfl) T.z_len boot_len (dpa_cons (dpe_var 1) dpa_nil))) (dpg_tg (dpg_name 2 sc_law_same.nd)) (dpss_one (dps_if (dpt_not (dpt_val (dpe_call G hr (by rfl) T.m_law_same T.F_law_same.kp T.b_law_same (dpa_cons (dpe_ix dix (dpe_var 0) (dpe_var 2)) (dpa_cons (dpe_ix dix (dpe_var 1) (dpe_var 2)) dpa_nil))))) (dpss_one (dps_ret dpe_bl)) dpss_nil)))
    (dpss_one (dps_ret dpe_bl)))) dpss_nil)
    (dpss_one (dps_ret (dpe_and (dpe_callB dcall_isi (by rfl) T.z_isinstance boot_isinstance (dpa_cons (dpe_var 0) (dpa_cons (dpe_ty (by rfl) T.z_int boot_int) dpa_nil))) (dpe_and (dpe_not (dpe_callB dcall_isi (by rfl) T.z_isinstance boot_isinstance (dpa_cons (dpe_var 0) (dpa_cons (dpe_ty (by rfl) T.z_bool boot_bool) dpa_nil)))) (dpe_one (dpe_cmp (dop_eq hr.units) (dpe_var 0) (dpe_var 1))))))))))
theorem ok_same_n (T : Txt K mg) : ∀ n, FnD P w K mg base (n + 1) T.f_law_same T.fd_law_same ["told", "due"] (a2 (sp_same n))
  | 0 => FnD.mk T.F_law_same sc_law_same a2_len (dv_law_same T (k := 0) (spr := fun _ _ _ => False) FnD.none (Nat.le_refl 0)) (rd_law_same_ok 0 _ (fun m e => by cases e))
  | n + 1 => FnD.mk T.F_law_same sc_law_same a2_len (dv_law_same T (ok_same_n T n) (Nat.zero_le _)) (rd_law_same_ok (n + 1) _ (fun m e => by cases e; rfl))
theorem ok_law_same (T : Txt K mg) : FnD P w K mg base 7 T.f_law_same T.fd_law_same ["told", "due"] (a2 sp_law_same) := ok_same_n T 6
theorem dv_law_kinds (T : Txt K mg) : ∀ (cdv : Value) (A : Around) (outer : List Env) (s : Shared) (H : Hp) (E : XK), Room 1 (A.deeper (envOfC "_law_kinds" (defScope s_law_kinds) s.heap.objs.size T.f_law_kinds cdv)) → DPSs (cxOf CX0 P w K mg base N_law_kinds "_law_kinds" (defScope s_law_kinds) T.f_law_kinds cdv A outer s H E).nox (KG.top K) (defBody s_law_kinds) rd_law_kinds := by
    intro cdv A outer s H E hr
    unfold rd_law_kinds
    exact (dpss_one (dps_ret (dpe_callTy dcall_tuple (by rfl) T.z_tuple boot_tuple (dpa_cons (dpe_lc (tg := (.nm 3)) (own := [("turn", 3)]) sc_law_kinds.nd (dpi_range1 (by rfl) T.z_range (dpe_call (ok_law_dice T) (hr.mono (by decide)) (by rfl) T.m_law_dice T.F_law_dice.kp T.b_law_dice (dpa_cons (dpe_var 0) (dpa_cons (dpe_op dop_add (dpe_var 1) dpe_int) dpa_nil)))) (blkOk_by (own := [("turn", 3)]) (N := N_law_kinds) (sc := defScope s_law_kinds) (by decide +kernel)) (fun _ _ _ _ _ => dpg_name 3 sc_law_kinds.nd) (fun _ _ _ _ _ => dpt_yes) (fun _ _ _ _ _ => (dpe_call (ok_law_dice T) (hr.mono (by decide)) (by rfl) T.m_law_dice T.F_law_dice.kp T.b_law_dice (dpa_cons (dpe_var 0) (dpa_cons (dpe_var 2) dpa_nil))))) dpa_nil))))
theorem ok_law_kinds (T : Txt K mg) : FnD P w K mg base 2 T.f_law_kinds T.fd_law_kinds ["cup", "most", "high"] (a3 sp_law_kinds) := FnD.mk T.F_law_kinds sc_law_kinds a3_len (dv_law_kinds T) rd_law_kinds_ok
theorem dv_law_pass (T : Txt K mg) : ∀ (cdv : Value) (A : Around) (outer : List Env) (s : Shared) (H : Hp) (E : XK), Room 0 (A.deeper (envOfC "_law_pass" (defScope s_law_pass) s.heap.objs.size T.f_law_pass cdv)) → DPSs (cxOf CX0 P w K mg base N_law_pass "_law_pass" (defScope s_law_pass) T.f_law_pass cdv A outer s H E).nox (KG.top K) (defBody s_law_pass) rd_law_pass := by
    intro cdv A outer s H E hr
    unfold rd_law_pass
    exact (dpss_cons (dps_par3 (i := 2) (j := 3) (l := 4) sc_law_pass.nd rfl rfl rfl (by decide) (by decide) (by decide) rfl rfl rfl (dpa_cons (dpe_callTy dcall_list (by rfl) T.z_list boot_list (dpa_cons (dpe_ix dix (dpe_var 0) dpe_int) dpa_nil)) (dpa_cons (dpe_callTy dcall_list (by rfl) T.z_list boot_list (dpa_cons (dpe_ix dix (dpe_var 0) dpe_int) dpa_nil)) (dpa_cons (dpe_callTy dcall_list (by rfl) T.z_list boot_list (dpa_cons (dpe_ix dix (dpe_var 1) dpe_int) dpa_nil)) dpa_nil))))
    (dpss_cons (dps_while (DPW.pt (dpw_and (dpt_cmp dop_gt (dpe_callB dcall_len (by rfl) T.z_len boot_len (dpa_cons (dpe_var 3) dpa_nil)) dpe_int) (dpw_and1 (dpt_cmp dop_gt (dpe_callB dcall_len (by rfl) T.z_len boot_len (dpa_cons (dpe_var 4) dpa_nil)) dpe_int)))) (dpss_cons (dps_if (dpt_cmp (dop_ne hr.units) (dpe_ix dix (dpe_var 3) dpe_int) (dpe_ix dix (dpe_var 4) dpe_int)) (dpss_one (dps_ret dpe_non)) dpss_nil)
    (dpss_cons (dps_set 3 sc_law_pass.nd (dpe_slice dsl (dpe_var 3) (dpo_some dpe_int) dpo_none))
    (dpss_one (dps_set 4 sc_law_pass.nd (dpe_slice dsl (dpe_var 4) (dpo_some dpe_int) dpo_none))))))
    (dpss_one (dps_ret (dpe_tup (dpa_cons (dpe_callTy dcall_tuple (by rfl) T.z_tuple boot_tuple (dpa_cons (dpe_op dop_add (dpe_var 2) (dpe_var 4)) dpa_nil)) (dpa_cons (dpe_callTy dcall_tuple (by rfl) T.z_tuple boot_tuple (dpa_cons (dpe_op dop_add (dpe_callTy dcall_list (by rfl) T.z_list boot_list (dpa_cons (dpe_ix dix (dpe_var 1) dpe_int) dpa_nil)) (dpe_var 3)) dpa_nil)) dpa_nil)))))))
theorem ok_law_pass (T : Txt K mg) : FnD P w K mg base 1 T.f_law_pass T.fd_law_pass ["first", "second"] (a2 sp_law_pass) := FnD.mk T.F_law_pass sc_law_pass a2_len (dv_law_pass T) rd_law_pass_ok
theorem dv_law_fold (T : Txt K mg) : ∀ (cdv : Value) (A : Around) (outer : List Env) (s : Shared) (H : Hp) (E : XK), Room 1 (A.deeper (envOfC "_law_fold" (defScope s_law_fold) s.heap.objs.size T.f_law_fold cdv)) → DPSs (cxOf CX0 P w K mg base N_law_fold "_law_fold" (defScope s_law_fold) T.f_law_fold cdv A outer s H E).nox (KG.top K) (defBody s_law_fold) rd_law_fold := by
    intro cdv A outer s H E hr
    unfold rd_law_fold
    exact (dpss_cons (dps_set 1 sc_law_fold.nd (dpe_tup (dpa_cons (dpe_tup dpa_nil) (dpa_cons (dpe_tup dpa_nil) dpa_nil))))
    (dpss_cons (dps_for (dpi_any (dpe_var 0)) (dpg_tg (dpg_name 2 sc_law_fold.nd)) (dpss_one (dps_if (dpt_cmp dop_isnot (dpe_var 1) dpe_non) (dpss_one (dps_set 1 sc_law_fold.nd (dpe_call (ok_law_pass T) (hr.mono (by decide)) (by rfl) T.m_law_pass T.F_law_pass.kp T.b_law_pass (dpa_cons (dpe_var 1) (dpa_cons (dpe_var 2) dpa_nil))))) dpss_nil)))
    (dpss_one (dps_ret (dpe_var 1)))))
theorem ok_law_fold (T : Txt K mg) : FnD P w K mg base 2 T.f_law_fold T.fd_law_fold ["effects"] (a1 sp_law_fold) := FnD.mk T.F_law_fold sc_law_fold a1_len (dv_law_fold T) rd_law_fold_ok
theorem dv_law_net (T : Txt K mg) : ∀ (cdv : Value) (A : Around) (outer : List Env) (s : Shared) (H : Hp) (E : XK), Room 0 (A.deeper (envOfC "_law_net" (defScope s_law_net) s.heap.objs.size T.f_law_net cdv)) → DPSs (cxOf CX0 P w K mg base N_law_net "_law_net" (defScope s_law_net) T.f_law_net cdv A outer s H E).nox (KG.top K) (defBody s_law_net) rd_law_net := by
    intro cdv A outer s H E hr
    unfold rd_law_net
    exact (dpss_cons (dps_asg (dpe_var 0) (dpg_tg (tg := .tp [1, 2]) (pg_tup rfl (pgs_cons (dpg_name 1 sc_law_net.nd) (pgs_cons (dpg_name 2 sc_law_net.nd) pgs_nil)))))
    (dpss_cons (dps_while (DPW.pt (dpw_and (dpt_cmp dop_gt (dpe_callB dcall_len (by rfl) T.z_len boot_len (dpa_cons (dpe_var 1) dpa_nil)) dpe_int) (dpw_and (dpt_cmp dop_gt (dpe_callB dcall_len (by rfl) T.z_len boot_len (dpa_cons (dpe_var 2) dpa_nil)) dpe_int) (dpw_and1 (dpt_cmp (dop_eq hr.units) (dpe_ix dix (dpe_var 1) (dpe_un dun_neg dpe_int)) (dpe_ix dix (dpe_var 2) (dpe_un dun_neg dpe_int))))))) (dpss_cons (dps_set 1 sc_law_net.nd (dpe_slice dsl (dpe_var 1) dpo_none (dpo_some (dpe_un dun_neg dpe_int))))
    (dpss_one (dps_set 2 sc_law_net.nd (dpe_slice dsl (dpe_var 2) dpo_none (dpo_some (dpe_un dun_neg dpe_int)))))))
    (dpss_one (dps_ret (dpe_tup (dpa_cons (dpe_var 1) (dpa_cons (dpe_var 2) dpa_nil)))))))
theorem ok_law_net (T : Txt K mg) : FnD P w K mg base 1 T.f_law_net T.fd_law_net ["effect"] (a1 sp_law_net) := FnD.mk T.F_law_net sc_law_net a1_len (dv_law_net T) rd_law_net_ok
theorem dv_law_after (T : Txt K mg) : ∀ (cdv : Value) (A : Around) (outer : List Env) (s : Shared) (H : Hp) (E : XK), Room 3 (A.deeper (envOfC "_law_after" (defScope s_law_after) s.heap.objs.size T.f_law_after cdv)) → DPSs (cxOf CX0 P w K mg base N_law_after "_law_after" (defScope s_law_after) T.f_law_after cdv A outer s H E).nox (KG.top K) (defBody s_law_after) rd_law_after := by
    intro cdv A outer s H E hr
    unfold rd_law_after
    exact (dpss_one (dps_try (tb := fun QX => (dRet (dTup (dCons (dC (.str "told")) (dCons (dCallX (x2 sp_after) QX (dCons (dVar 0) (dCons (dVar 1) dNil))) dNil))))) T.so rfl rfl takes_no (fun Δ QX pn xe tk po => (dpss_one (dps_ret (dpe_tup (dpa_cons dpe_str (dpa_cons (dpe_callX (ok_after T) tk (hr.mono (by decide)) (by rfl) T.m_after T.F_after.kp T.b_after (dpa_cons (dpe_var 0) (dpa_cons (dpe_var 1) dpa_nil))) dpa_nil)))))) (DMix.cons (o := some 2) (h := fun a fs => (dRet (dTup (dCons (dC (.str "jam")) (dCons (dXf a fs "place" (dVar 2)) dNil))))) ⟨by rfl, by decide, .inl T.g_Jam⟩ ⟨sc_law_after.nd, rfl, rfl⟩ (fun a ob dd fs x pn hz hd xf => (dpss_one (dps_ret (dpe_tup (dpa_cons dpe_str (dpa_cons (dpe_xf hz hd xf (dpe_var 2)) dpa_nil))))))
    (DMix.cons (o := none) (h := fun a fs => (dRet (dTup (dCons (dC (.str "other")) (dCons (dC (.int 0)) dNil))))) ⟨by rfl, by decide, .inl T.g_PileError⟩ True.intro (fun a ob dd fs x pn hz hd xf => (dpss_one (dps_ret (dpe_tup (dpa_cons dpe_str (dpa_cons dpe_int dpa_nil))))))
    DMix.nil))))
theorem ok_law_after (T : Txt K mg) : FnD P w K mg base 4 T.f_law_after T.fd_law_after ["pile", "effect"] (a2 sp_law_after) := FnD.mk T.F_law_after sc_law_after a2_len (dv_law_after T) rd_law_after_ok
theorem dv_law_stays (T : Txt K mg) : ∀ (cdv : Value) (A : Around) (outer : List Env) (s : Shared) (H : Hp) (E : XK), Room 0 (A.deeper (envOfC "_law_stays" (defScope s_law_stays) s.heap.objs.size T.f_law_stays cdv)) → DPSs (cxOf CX0 P w K mg base N_law_stays "_law_stays" (defScope s_law_stays) T.f_law_stays cdv A outer s H E).nox (KG.top K) (defBody s_law_stays) rd_law_stays := by
    intro cdv A outer s H E hr
    unfold rd_law_stays
    exact (dpss_cons (dps_for (dpi_range1 (by rfl) T.z_range (dpe_callB dcall_len (by rfl) T.z_len boot_len (dpa_cons (dpe_ix dix (dpe_var 1) dpe_int) dpa_nil))) (dpg_tg (dpg_name 2 sc_law_stays.nd)) (dpss_one (dps_if (DPW.pt (dpw_or (dpt_cmp dop_ge (dpe_var 2) (dpe_callB dcall_len (by rfl) T.z_len boot_len (dpa_cons (dpe_var 0) dpa_nil))) (dpw_or1 (dpt_cmp (dop_ne hr.units) (dpe_ix dix (dpe_var 0) (dpe_var 2)) (dpe_ix dix (dpe_ix dix (dpe_var 1) dpe_int) (dpe_var 2)))))) (dpss_one (dps_ret (dpe_tup (dpa_cons dpe_str (dpa_cons (dpe_var 2) dpa_nil))))) dpss_nil)))
    (dpss_one (dps_ret (dpe_tup (dpa_cons dpe_str (dpa_cons (dpe_op dop_add (dpe_ix dix (dpe_var 1) dpe_int) (dpe_slice dsl (dpe_var 0) (dpo_some (dpe_callB dcall_len (by rfl) T.z_len boot_len (dpa_cons (dpe_ix dix (dpe_var 1) dpe_int) dpa_nil))) dpo_none)) dpa_nil))))))
theorem ok_law_stays (T : Txt K mg) : FnD P w K mg base 1 T.f_law_stays T.fd_law_stays ["pile", "effect"] (a2 sp_law_stays) := FnD.mk T.F_law_stays sc_law_stays a2_len (dv_law_stays T) rd_law_stays_ok
theorem dv_law_goes (T : Txt K mg) : ∀ (cdv : Value) (A : Around) (outer : List Env) (s : Shared) (H : Hp) (E : XK), Room 7 (A.deeper (envOfC "_law_goes" (defScope s_law_goes) s.heap.objs.size T.f_law_goes cdv)) → DPSs (cxOf CX0 P w K mg base N_law_goes "_law_goes" (defScope s_law_goes) T.f_law_goes cdv A outer s H E).nox (KG.top K) (defBody s_law_goes) rd_law_goes := by
    intro cdv A outer s H E hr
    unfold rd_law_goes
    exact (dpss_cons (dps_set 2 sc_law_goes.nd (dpe_call (ok_law_stays T) (hr.mono (by decide)) (by rfl) T.m_law_stays T.F_law_stays.kp T.b_law_stays (dpa_cons (dpe_var 0) (dpa_cons (dpe_var 1) dpa_nil))))
    (dpss_cons (dps_set 3 sc_law_goes.nd (dpe_call (ok_law_after T) (hr.mono (by decide)) (by rfl) T.m_law_after T.F_law_after.kp T.b_law_after (dpa_cons (dpe_var 0) (dpa_cons (dpe_var 1) dpa_nil))))
    (dpss_one (dps_ret (dpe_and (dpe_cmp (dop_eq hr.units) (dpe_ix dix (dpe_var 3) dpe_int) (dpe_ix dix (dpe_var 2) dpe_int)) (dpe_and (dpe_call (ok_law_same T) (hr.mono (by decide)) (by rfl) T.m_law_same T.F_law_same.kp T.b_law_same (dpa_cons (dpe_ix dix (dpe_var 3) dpe_int) (dpa_cons (dpe_ix dix (dpe_var 2) dpe_int) dpa_nil))) (dpe_one (dpe_call (ok_law_same T) (hr.mono (by decide)) (by rfl) T.m_law_same T.F_law_same.kp T.b_law_same (dpa_cons (dpe_call (ok_goes_through T) (hr.mono (by decide)) (by rfl) T.m_goes_through T.F_goes_through.kp T.b_goes_through (dpa_cons (dpe_var 0) (dpa_cons (dpe_var 1) dpa_nil))) (dpa_cons (dpe_cmp (dop_eq hr.units) (dpe_ix dix (dpe_var 2) dpe_int) dpe_str) dpa_nil))))))))))
theorem ok_law_goes (T : Txt K mg) : FnD P w K mg base 8 T.f_law_goes T.fd_law_goes ["pile", "effect"] (a2 sp_law_goes) := FnD.mk T.F_law_goes sc_law_goes a2_len (dv_law_goes T) rd_law_goes_ok
theorem dv_law_spoilt (T : Txt K mg) : ∀ (cdv : Value) (A : Around) (outer : List Env) (s : Shared) (H : Hp) (E : XK), Room 1 (A.deeper (envOfC "_law_spoilt" (defScope s_law_spoilt) s.heap.objs.size T.f_law_spoilt cdv)) → DPSs (cxOf CX0 P w K mg base N_law_spoilt "_law_spoilt" (defScope s_law_spoilt) T.f_law_spoilt cdv A outer s H E).nox (KG.top K) (defBody s_law_spoilt) rd_law_spoilt := by
    intro cdv A outer s H E hr
    unfold rd_law_spoilt
    exact (dpss_cons (dps_set 3 sc_law_spoilt.nd (dpe_call (ok_law_dice T) (hr.mono (by decide)) (by rfl) T.m_law_dice T.F_law_dice.kp T.b_law_dice (dpa_cons (dpe_var 0) (dpa_cons (dpe_callB dcall_len (by rfl) T.z_len boot_len (dpa_cons (dpe_var 1) dpa_nil)) dpa_nil))))
    (dpss_one (dps_ret (dpe_op dop_add (dpe_op dop_add (dpe_slice dsl (dpe_var 1) dpo_none (dpo_some (dpe_var 3))) (dpe_tup (dpa_cons (dpe_op dop_mod (dpe_callTy dcall_int (by rfl) T.z_int boot_int (dpa_cons (dpe_op dop_add (dpe_op dop_add (dpe_ix dix (dpe_var 1) (dpe_var 3)) dpe_int) (dpe_call (ok_law_dice T) (hr.mono (by decide)) (by rfl) T.m_law_dice T.F_law_dice.kp T.b_law_dice (dpa_cons (dpe_var 0) (dpa_cons (dpe_op dop_sub (dpe_var 2) dpe_int) dpa_nil)))) dpa_nil)) (dpe_var 2)) dpa_nil))) (dpe_slice dsl (dpe_var 1) (dpo_some (dpe_op dop_add (dpe_var 3) dpe_int)) dpo_none)))))
theorem ok_law_spoilt (T : Txt K mg) : FnD P w K mg base 2 T.f_law_spoilt T.fd_law_spoilt ["cup", "pile", "high"] (a3 sp_law_spoilt) := FnD.mk T.F_law_spoilt sc_law_spoilt a3_len (dv_law_spoilt T) rd_law_spoilt_ok
theorem dv_law_pairs (T : Txt K mg) : ∀ (cdv : Value) (A : Around) (outer : List Env) (s : Shared) (H : Hp) (E : XK), Room 8 (A.deeper (envOfC "_law_pairs" (defScope s_law_pairs) s.heap.objs.size T.f_law_pairs cdv)) → DPSs (cxOf CX0 P w K mg base N_law_pairs "_law_pairs" (defScope s_law_pairs) T.f_law_pairs cdv A outer s H E).nox (KG.top K) (defBody s_law_pairs) rd_law_pairs := by
    intro cdv A outer s H E hr
    unfold rd_law_pairs
    exact (dpss_cons (dps_set 3 sc_law_pairs.nd (dpe_tup (dpa_cons (dpe_call (ok_law_kinds T) (hr.mono (by decide)) (by rfl) T.m_law_kinds T.F_law_kinds.kp T.b_law_kinds (dpa_cons (dpe_var 0) (dpa_cons (dpe_var 1) (dpa_cons (dpe_var 2) dpa_nil)))) (dpa_cons (dpe_op dop_add (dpe_tup (dpa_cons (dpe_call (ok_law_dice T) (hr.mono (by decide)) (by rfl) T.m_law_dice T.F_law_dice.kp T.b_law_dice (dpa_cons (dpe_var 0) (dpa_cons (dpe_var 2) dpa_nil))) dpa_nil)) (dpe_call (ok_law_kinds T) (hr.mono (by decide)) (by rfl) T.m_law_kinds T.F_law_kinds.kp T.b_law_kinds (dpa_cons (dpe_var 0) (dpa_cons (dpe_var 1) (dpa_cons (dpe_var 2) dpa_nil))))) dpa_nil))))
    (dpss_cons (dps_set 4 sc_law_pairs.nd (dpe_slice dsl (dpe_ix dix (dpe_var 3) dpe_int) dpo_none (dpo_some (dpe_call (ok_law_dice T) (hr.mono (by decide)) (by rfl) T.m_law_dice T.F_law_dice.kp T.b_law_dice (dpa_cons (dpe_var 0) (dpa_cons (dpe_op dop_add (dpe_callB dcall_len (by rfl) T.z_len boot_len (dpa_cons (dpe_ix dix (dpe_var 3) dpe_int) dpa_nil)) dpe_int) dpa_nil))))))
    (dpss_cons (dps_set 5 sc_law_pairs.nd (dpe_lst (dpa_cons (dpe_tup (dpa_cons (dpe_var 4) (dpa_cons (dpe_call (ok_law_kinds T) (hr.mono (by decide)) (by rfl) T.m_law_kinds T.F_law_kinds.kp T.b_law_kinds (dpa_cons (dpe_var 0) (dpa_cons (dpe_var 1) (dpa_cons (dpe_var 2) dpa_nil)))) dpa_nil))) (dpa_cons (dpe_tup (dpa_cons (dpe_op dop_add (dpe_ix dix (dpe_var 3) dpe_int) (dpe_call (ok_law_kinds T) (hr.mono (by decide)) (by rfl) T.m_law_kinds T.F_law_kinds.kp T.b_law_kinds (dpa_cons (dpe_var 0) (dpa_cons (dpe_var 1) (dpa_cons (dpe_var 2) dpa_nil))))) (dpa_cons (dpe_call (ok_law_kinds T) (hr.mono (by decide)) (by rfl) T.m_law_kinds T.F_law_kinds.kp T.b_law_kinds (dpa_cons (dpe_var 0) (dpa_cons (dpe_var 1) (dpa_cons (dpe_var 2) dpa_nil)))) dpa_nil))) dpa_nil))))
    (dpss_cons (dps_set 5 sc_law_pairs.nd (dpe_op dop_add (dpe_var 5) (dpe_lst (dpa_cons (dpe_tup (dpa_cons (dpe_op dop_add (dpe_call (ok_law_spoilt T) (hr.mono (by decide)) (by rfl) T.m_law_spoilt T.F_law_spoilt.kp T.b_law_spoilt (dpa_cons (dpe_var 0) (dpa_cons (dpe_ix dix (dpe_var 3) dpe_int) (dpa_cons (dpe_var 2) dpa_nil)))) (dpe_call (ok_law_kinds T) (hr.mono (by decide)) (by rfl) T.m_law_kinds T.F_law_kinds.kp T.b_law_kinds (dpa_cons (dpe_var 0) (dpa_cons dpe_int (dpa_cons (dpe_var 2) dpa_nil))))) (dpa_cons (dpe_call (ok_law_kinds T) (hr.mono (by decide)) (by rfl) T.m_law_kinds T.F_law_kinds.kp T.b_law_kinds (dpa_cons (dpe_var 0) (dpa_cons (dpe_var 1) (dpa_cons (dpe_var 2) dpa_nil)))) dpa_nil))) dpa_nil))))
    (dpss_cons (dps_set 5 sc_law_pairs.nd (dpe_op dop_add (dpe_var 5) (dpe_lst (dpa_cons (dpe_tup (dpa_cons (dpe_call (ok_law_kinds T) (hr.mono (by decide)) (by rfl) T.m_law_kinds T.F_law_kinds.kp T.b_law_kinds (dpa_cons (dpe_var 0) (dpa_cons dpe_int (dpa_cons (dpe_var 2) dpa_nil)))) (dpa_cons (dpe_ix dix (dpe_var 3) dpe_int) dpa_nil))) dpa_nil))))
    (dpss_cons (dps_for (dpi_seq (dpe_var 5)) (dpg_tg (dpg_name 6 sc_law_pairs.nd)) (dpss_cons (dps_set 7 sc_law_pairs.nd (dpe_call (ok_law_pass T) (hr.mono (by decide)) (by rfl) T.m_law_pass T.F_law_pass.kp T.b_law_pass (dpa_cons (dpe_var 3) (dpa_cons (dpe_var 6) dpa_nil))))
    (dpss_cons (dps_if (DPW.pt (dpw_or (dpt_not (dpt_val (dpe_call (ok_law_same T) (hr.mono (by decide)) (by rfl) T.m_law_same T.F_law_same.kp T.b_law_same (dpa_cons (dpe_call (ok_joined T) (hr.mono (by decide)) (by rfl) T.m_joined T.F_joined.kp T.b_joined (dpa_cons (dpe_var 3) (dpa_cons (dpe_var 6) dpa_nil))) (dpa_cons (dpe_var 7) dpa_nil))))) (dpw_or1 (dpt_not (dpt_val (dpe_call (ok_law_same T) (hr.mono (by decide)) (by rfl) T.m_law_same T.F_law_same.kp T.b_law_same (dpa_cons (dpe_call (ok_all_joined T) (hr.mono (by decide)) (by rfl) T.m_all_joined T.F_all_joined.kp T.b_all_joined (dpa_cons (dpe_tup (dpa_cons (dpe_var 3) (dpa_cons (dpe_var 6) dpa_nil))) dpa_nil)) (dpa_cons (dpe_var 7) dpa_nil)))))))) (dpss_one (dps_ret dpe_bl)) dpss_nil)
    (dpss_cons (dps_set 8 sc_law_pairs.nd (dpe_call (ok_law_kinds T) (hr.mono (by decide)) (by rfl) T.m_law_kinds T.F_law_kinds.kp T.b_law_kinds (dpa_cons (dpe_var 0) (dpa_cons dpe_int (dpa_cons (dpe_var 2) dpa_nil)))))
    (dpss_cons (dps_set 9 sc_law_pairs.nd (dpe_op dop_add (dpe_op dop_add (dpe_ix dix (dpe_var 3) dpe_int) (dpe_slice dsl (dpe_ix dix (dpe_var 6) dpe_int) (dpo_some (dpe_callB dcall_len (by rfl) T.z_len boot_len (dpa_cons (dpe_ix dix (dpe_var 3) dpe_int) dpa_nil))) dpo_none)) (dpe_var 8)))
    (dpss_cons (dps_if (DPW.pt (dpw_or (dpt_not (dpt_val (dpe_call (ok_law_goes T) (hr.mono (by decide)) (by rfl) T.m_law_goes T.F_law_goes.kp T.b_law_goes (dpa_cons (dpe_var 9) (dpa_cons (dpe_var 3) dpa_nil))))) (dpw_or1 (dpt_not (dpt_val (dpe_call (ok_law_goes T) (hr.mono (by decide)) (by rfl) T.m_law_goes T.F_law_goes.kp T.b_law_goes (dpa_cons (dpe_op dop_add (dpe_ix dix (dpe_var 3) dpe_int) (dpe_slice dsl (dpe_var 9) (dpo_some (dpe_callB dcall_len (by rfl) T.z_len boot_len (dpa_cons (dpe_ix dix (dpe_var 3) dpe_int) dpa_nil))) dpo_none)) (dpa_cons (dpe_var 6) dpa_nil)))))))) (dpss_one (dps_ret dpe_bl)) dpss_nil)
    (dpss_one (dps_if (DPW.pt (dpw_and (dpt_cmp dop_isnot (dpe_var 7) dpe_non) (dpw_and1 (DPW.pt (dpw_or (dpt_not (dpt_val (dpe_call (ok_law_goes T) (hr.mono (by decide)) (by rfl) T.m_law_goes T.F_law_goes.kp T.b_law_goes (dpa_cons (dpe_var 9) (dpa_cons (dpe_var 7) dpa_nil))))) (dpw_or1 (dpt_not (dpt_val (dpe_call (ok_law_goes T) (hr.mono (by decide)) (by rfl) T.m_law_goes T.F_law_goes.kp T.b_law_goes (dpa_cons (dpe_slice dsl (dpe_var 9) dpo_none (dpo_some (dpe_call (ok_law_dice T) (hr.mono (by decide)) (by rfl) T.m_law_dice T.F_law_dice.kp T.b_law_dice (dpa_cons (dpe_var 0) (dpa_cons (dpe_op dop_add (dpe_callB dcall_len (by rfl) T.z_len boot_len (dpa_cons (dpe_var 9) dpa_nil)) dpe_int) dpa_nil))))) (dpa_cons (dpe_var 7) dpa_nil))))))))))) (dpss_one (dps_ret dpe_bl)) dpss_nil))))))))
    (dpss_cons (dps_set 10 sc_law_pairs.nd (dpe_op dop_add (dpe_ix dix (dpe_var 3) dpe_int) (dpe_call (ok_law_kinds T) (hr.mono (by decide)) (by rfl) T.m_law_kinds T.F_law_kinds.kp T.b_law_kinds (dpa_cons (dpe_var 0) (dpa_cons dpe_int (dpa_cons (dpe_var 2) dpa_nil))))))
    (dpss_cons (dps_set 11 sc_law_pairs.nd (dpe_slice dsl (dpe_var 10) dpo_none (dpo_some (dpe_call (ok_law_dice T) (hr.mono (by decide)) (by rfl) T.m_law_dice T.F_law_dice.kp T.b_law_dice (dpa_cons (dpe_var 0) (dpa_cons (dpe_callB dcall_len (by rfl) T.z_len boot_len (dpa_cons (dpe_var 10) dpa_nil)) dpa_nil))))))
    (dpss_one (dps_ret (dpe_and (dpe_call (ok_law_goes T) (hr.mono (by decide)) (by rfl) T.m_law_goes T.F_law_goes.kp T.b_law_goes (dpa_cons (dpe_call (ok_law_spoilt T) (hr.mono (by decide)) (by rfl) T.m_law_spoilt T.F_law_spoilt.kp T.b_law_spoilt (dpa_cons (dpe_var 0) (dpa_cons (dpe_var 10) (dpa_cons (dpe_var 2) dpa_nil)))) (dpa_cons (dpe_tup (dpa_cons (dpe_var 10) (dpa_cons (dpe_tup dpa_nil) dpa_nil))) dpa_nil))) (dpe_and (dpe_call (ok_law_goes T) (hr.mono (by decide)) (by rfl) T.m_law_goes T.F_law_goes.kp T.b_law_goes (dpa_cons (dpe_var 11) (dpa_cons (dpe_tup (dpa_cons (dpe_var 10) (dpa_cons (dpe_tup (dpa_cons dpe_int dpa_nil)) dpa_nil))) dpa_nil))) (dpe_one (dpe_call (ok_law_goes T) (hr.mono (by decide)) (by rfl) T.m_law_goes T.F_law_goes.kp T.b_law_goes (dpa_cons (dpe_op dop_add (dpe_var 10) (dpe_var 11)) (dpa_cons (dpe_tup (dpa_cons (dpe_var 10) (dpa_cons (dpe_var 11) dpa_nil))) dpa_nil))))))))))))))))
theorem ok_law_pairs (T : Txt K mg) : FnD P w K mg base 9 T.f_law_pairs T.fd_law_pairs ["cup", "most", "high"] (a3 sp_law_pairs) := FnD.mk T.F_law_pairs sc_law_pairs a3_len (dv_law_pairs T) rd_law_pairs_ok
theorem dv_law_rows (T : Txt K mg) : ∀ (cdv : Value) (A : Around) (outer : List Env) (s : Shared) (H : Hp) (E : XK), Room 7 (A.deeper (envOfC "_law_rows" (defScope s_law_rows) s.heap.objs.size T.f_law_rows cdv)) → DPSs (cxOf CX0 P w K mg base N_law_rows "_law_rows" (defScope s_law_rows) T.f_law_rows cdv A outer s H E).nox (KG.top K) (defBody s_law_rows) rd_law_rows := by
    intro cdv A outer s H E hr
    unfold rd_law_rows
    exact (dpss_cons (dps_set 2 sc_law_rows.nd (dpe_lstM dpa_nil))
    (dpss_cons (dps_for (dpi_range1 (by rfl) T.z_range (dpe_call (ok_law_dice T) (hr.mono (by decide)) (by rfl) T.m_law_dice T.F_law_dice.kp T.b_law_dice (dpa_cons (dpe_var 0) (dpa_cons dpe_int dpa_nil)))) (dpg_tg (dpg_name 3 sc_law_rows.nd)) (dpss_cons (dps_set 4 sc_law_rows.nd (dpe_call (ok_law_fold T) (hr.mono (by decide)) (by rfl) T.m_law_fold T.F_law_fold.kp T.b_law_fold (dpa_cons (dpe_var 2) dpa_nil)))
    (dpss_cons (dps_set 5 sc_law_rows.nd (dpe_slice dsl (dpe_ix dix (dpe_var 4) dpe_int) dpo_none (dpo_some (dpe_call (ok_law_dice T) (hr.mono (by decide)) (by rfl) T.m_law_dice T.F_law_dice.kp T.b_law_dice (dpa_cons (dpe_var 0) (dpa_cons dpe_int dpa_nil))))))
    (dpss_cons (dps_if (dpt_cmp (dop_eq hr.units) (dpe_callB dcall_len (by rfl) T.z_len boot_len (dpa_cons (dpe_var 5) dpa_nil)) (dpe_callB dcall_len (by rfl) T.z_len boot_len (dpa_cons (dpe_ix dix (dpe_var 4) dpe_int) dpa_nil))) (dpss_one (dps_set 5 sc_law_rows.nd (dpe_op dop_add (dpe_var 5) (dpe_call (ok_law_kinds T) (hr.mono (by decide)) (by rfl) T.m_law_kinds T.F_law_kinds.kp T.b_law_kinds (dpa_cons (dpe_var 0) (dpa_cons dpe_int (dpa_cons (dpe_var 1) dpa_nil))))))) dpss_nil)
    (dpss_one (dps_expr (dpe_lm PySem.F.slot_list_append PySem.F.type_list_append mt_append lr_append (dpe_var 2) (dpa_cons (dpe_tup (dpa_cons (dpe_var 5) (dpa_cons (dpe_call (ok_law_kinds T) (hr.mono (by decide)) (by rfl) T.m_law_kinds T.F_law_kinds.kp T.b_law_kinds (dpa_cons (dpe_var 0) (dpa_cons dpe_int (dpa_cons (dpe_var 1) dpa_nil)))) dpa_nil))) dpa_nil))))))))
    (dpss_cons (dps_set 6 sc_law_rows.nd (dpe_tup (dpa_cons (dpe_call (ok_law_kinds T) (hr.mono (by decide)) (by rfl) T.m_law_kinds T.F_law_kinds.kp T.b_law_kinds (dpa_cons (dpe_var 0) (dpa_cons dpe_int (dpa_cons (dpe_var 1) dpa_nil)))) (dpa_cons (dpe_tup dpa_nil) dpa_nil))))
    (dpss_cons (dps_for (dpi_tup (dpe_tup (dpa_cons (dpe_lst dpa_nil) (dpa_cons (dpe_lst (dpa_cons (dpe_var 6) dpa_nil)) (dpa_cons (dpe_lst (dpa_cons (dpe_var 6) (dpa_cons (dpe_tup (dpa_cons (dpe_tup (dpa_cons dpe_int dpa_nil)) (dpa_cons (dpe_tup (dpa_cons dpe_int (dpa_cons dpe_int dpa_nil))) dpa_nil))) dpa_nil))) (dpa_cons (dpe_lst (dpa_cons (dpe_tup (dpa_cons (dpe_tup dpa_nil) (dpa_cons (dpe_tup (dpa_cons dpe_int dpa_nil)) dpa_nil))) (dpa_cons (dpe_tup (dpa_cons (dpe_tup (dpa_cons dpe_int dpa_nil)) (dpa_cons (dpe_tup dpa_nil) dpa_nil))) dpa_nil))) dpa_nil)))))) (dpg_tg (dpg_name 7 sc_law_rows.nd)) (dpss_cons (dps_set 8 sc_law_rows.nd (dpe_callTy dcall_tuple (by rfl) T.z_tuple boot_tuple (dpa_cons (dpe_op dop_add (dpe_var 2) (dpe_var 7)) dpa_nil)))
    (dpss_cons (dps_set 9 sc_law_rows.nd (dpe_call (ok_law_fold T) (hr.mono (by decide)) (by rfl) T.m_law_fold T.F_law_fold.kp T.b_law_fold (dpa_cons (dpe_var 8) dpa_nil)))
    (dpss_cons (dps_if (dpt_not (dpt_val (dpe_call (ok_law_same T) (hr.mono (by decide)) (by rfl) T.m_law_same T.F_law_same.kp T.b_law_same (dpa_cons (dpe_call (ok_all_joined T) (hr.mono (by decide)) (by rfl) T.m_all_joined T.F_all_joined.kp T.b_all_joined (dpa_cons (dpe_var 8) dpa_nil)) (dpa_cons (dpe_var 9) dpa_nil))))) (dpss_one (dps_ret dpe_bl)) dpss_nil)
    (dpss_cons (dps_set 10 sc_law_rows.nd (dpe_call (ok_law_dice T) (hr.mono (by decide)) (by rfl) T.m_law_dice T.F_law_dice.kp T.b_law_dice (dpa_cons (dpe_var 0) (dpa_cons (dpe_op dop_add (dpe_callB dcall_len (by rfl) T.z_len boot_len (dpa_cons (dpe_var 8) dpa_nil)) dpe_int) dpa_nil))))
    (dpss_cons (dps_set 11 sc_law_rows.nd (dpe_call (ok_all_joined T) (hr.mono (by decide)) (by rfl) T.m_all_joined T.F_all_joined.kp T.b_all_joined (dpa_cons (dpe_slice dsl (dpe_var 8) dpo_none (dpo_some (dpe_var 10))) dpa_nil)))
    (dpss_cons (dps_set 12 sc_law_rows.nd (dpe_call (ok_law_fold T) (hr.mono (by decide)) (by rfl) T.m_law_fold T.F_law_fold.kp T.b_law_fold (dpa_cons (dpe_slice dsl (dpe_var 8) (dpo_some (dpe_var 10)) dpo_none) dpa_nil)))
    (dpss_one (dps_if (DPW.pt (dpw_or (dpt_not (dpt_val (dpe_call (ok_law_same T) (hr.mono (by decide)) (by rfl) T.m_law_same T.F_law_same.kp T.b_law_same (dpa_cons (dpe_var 11) (dpa_cons (dpe_call (ok_law_fold T) (hr.mono (by decide)) (by rfl) T.m_law_fold T.F_law_fold.kp T.b_law_fold (dpa_cons (dpe_slice dsl (dpe_var 8) dpo_none (dpo_some (dpe_var 10))) dpa_nil)) dpa_nil))))) (dpw_or1 (DPW.pt (dpw_and (dpt_cmp dop_isnot (dpe_var 11) dpe_non) (dpw_and (dpt_cmp dop_isnot (dpe_var 12) dpe_non) (dpw_and1 (dpt_not (dpt_val (dpe_call (ok_law_same T) (hr.mono (by decide)) (by rfl) T.m_law_same T.F_law_same.kp T.b_law_same (dpa_cons (dpe_call (ok_joined T) (hr.mono (by decide)) (by rfl) T.m_joined T.F_joined.kp T.b_joined (dpa_cons (dpe_var 11) (dpa_cons (dpe_var 12) dpa_nil))) (dpa_cons (dpe_var 9) dpa_nil)))))))))))) (dpss_one (dps_ret dpe_bl)) dpss_nil)))))))))
    (dpss_one (dps_ret dpe_bl))))))
theorem ok_law_rows (T : Txt K mg) : FnD P w K mg base 8 T.f_law_rows T.fd_law_rows ["cup", "high"] (a2 sp_law_rows) := FnD.mk T.F_law_rows sc_law_rows a2_len (dv_law_rows T) rd_law_rows_ok
theorem dv_law_alikes (T : Txt K mg) : ∀ (cdv : Value) (A : Around) (outer : List Env) (s : Shared) (H : Hp) (E : XK), Room 7 (A.deeper (envOfC "_law_alikes" (defScope s_law_alikes) s.heap.objs.size T.f_law_alikes cdv)) → DPSs (cxOf CX0 P w K mg base N_law_alikes "_law_alikes" (defScope s_law_alikes) T.f_law_alikes cdv A outer s H E).nox (KG.top K) (defBody s_law_alikes) rd_law_alikes := by
    intro cdv A outer s H E hr
    unfold rd_law_alikes
    exact (dpss_cons (dps_set 3 sc_law_alikes.nd (dpe_call (ok_law_net T) (hr.mono (by decide)) (by rfl) T.m_law_net T.F_law_net.kp T.b_law_net (dpa_cons (dpe_tup (dpa_cons (dpe_call (ok_law_kinds T) (hr.mono (by decide)) (by rfl) T.m_law_kinds T.F_law_kinds.kp T.b_law_kinds (dpa_cons (dpe_var 0) (dpa_cons (dpe_var 1) (dpa_cons (dpe_var 2) dpa_nil)))) (dpa_cons (dpe_call (ok_law_kinds T) (hr.mono (by decide)) (by rfl) T.m_law_kinds T.F_law_kinds.kp T.b_law_kinds (dpa_cons (dpe_var 0) (dpa_cons (dpe_var 1) (dpa_cons (dpe_var 2) dpa_nil)))) dpa_nil))) dpa_nil)))
    (dpss_cons (dps_set 4 sc_law_alikes.nd (dpe_op dop_add (dpe_tup (dpa_cons (dpe_call (ok_law_dice T) (hr.mono (by decide)) (by rfl) T.m_law_dice T.F_law_dice.kp T.b_law_dice (dpa_cons (dpe_var 0) (dpa_cons (dpe_var 2) dpa_nil))) dpa_nil)) (dpe_call (ok_law_kinds T) (hr.mono (by decide)) (by rfl) T.m_law_kinds T.F_law_kinds.kp T.b_law_kinds (dpa_cons (dpe_var 0) (dpa_cons (dpe_var 1) (dpa_cons (dpe_var 2) dpa_nil))))))
    (dpss_cons (dps_set 5 sc_law_alikes.nd (dpe_op dop_add (dpe_var 4) (dpe_call (ok_law_kinds T) (hr.mono (by decide)) (by rfl) T.m_law_kinds T.F_law_kinds.kp T.b_law_kinds (dpa_cons (dpe_var 0) (dpa_cons dpe_int (dpa_cons (dpe_var 2) dpa_nil))))))
    (dpss_cons (dps_set 6 sc_law_alikes.nd (dpe_op dop_add (dpe_call (ok_law_spoilt T) (hr.mono (by decide)) (by rfl) T.m_law_spoilt T.F_law_spoilt.kp T.b_law_spoilt (dpa_cons (dpe_var 0) (dpa_cons (dpe_var 4) (dpa_cons (dpe_var 2) dpa_nil)))) (dpe_call (ok_law_kinds T) (hr.mono (by decide)) (by rfl) T.m_law_kinds T.F_law_kinds.kp T.b_law_kinds (dpa_cons (dpe_var 0) (dpa_cons dpe_int (dpa_cons (dpe_var 2) dpa_nil))))))
    (dpss_cons (dps_set 7 sc_law_alikes.nd (dpe_tup (dpa_cons (dpe_op dop_add (dpe_ix dix (dpe_var 3) dpe_int) (dpe_var 4)) (dpa_cons (dpe_op dop_add (dpe_ix dix (dpe_var 3) dpe_int) (dpe_var 4)) dpa_nil))))
    (dpss_cons (dps_set 8 sc_law_alikes.nd (dpe_tup (dpa_cons (dpe_op dop_add (dpe_ix dix (dpe_var 3) dpe_int) (dpe_var 5)) (dpa_cons (dpe_op dop_add (dpe_ix dix (dpe_var 3) dpe_int) (dpe_var 5)) dpa_nil))))
    (dpss_cons (dps_set 9 sc_law_alikes.nd (dpe_tup (dpa_cons (dpe_op dop_add (dpe_ix dix (dpe_var 3) dpe_int) (dpe_var 6)) (dpa_cons (dpe_op dop_add (dpe_ix dix (dpe_var 3) dpe_int) (dpe_var 6)) dpa_nil))))
    (dpss_cons (dps_if (dpt_not (dpt_val (dpe_call (ok_law_same T) (hr.mono (by decide)) (by rfl) T.m_law_same T.F_law_same.kp T.b_law_same (dpa_cons (dpe_tup (dpa_cons (dpe_call (ok_extended T) (hr.mono (by decide)) (by rfl) T.m_extended T.F_extended.kp T.b_extended (dpa_cons (dpe_var 3) (dpa_cons (dpe_var 4) dpa_nil))) (dpa_cons (dpe_call (ok_extended T) (hr.mono (by decide)) (by rfl) T.m_extended T.F_extended.kp T.b_extended (dpa_cons (dpe_var 7) (dpa_cons (dpe_slice dsl (dpe_var 5) (dpo_some (dpe_callB dcall_len (by rfl) T.z_len boot_len (dpa_cons (dpe_var 4) dpa_nil))) dpo_none) dpa_nil))) (dpa_cons (dpe_call (ok_extended T) (hr.mono (by decide)) (by rfl) T.m_extended T.F_extended.kp T.b_extended (dpa_cons (dpe_var 8) (dpa_cons (dpe_tup dpa_nil) dpa_nil))) dpa_nil)))) (dpa_cons (dpe_tup (dpa_cons (dpe_var 7) (dpa_cons (dpe_var 8) (dpa_cons (dpe_var 8) dpa_nil)))) dpa_nil))))) (dpss_one (dps_ret dpe_bl)) dpss_nil)
    (dpss_cons (dps_if (dpt_not (dpt_val (dpe_call (ok_law_same T) (hr.mono (by decide)) (by rfl) T.m_law_same T.F_law_same.kp T.b_law_same (dpa_cons (dpe_tup (dpa_cons (dpe_call (ok_net_effect T) (hr.mono (by decide)) (by rfl) T.m_net_effect T.F_net_effect.kp T.b_net_effect (dpa_cons (dpe_var 7) dpa_nil)) (dpa_cons (dpe_call (ok_net_effect T) (hr.mono (by decide)) (by rfl) T.m_net_effect T.F_net_effect.kp T.b_net_effect (dpa_cons (dpe_var 9) dpa_nil)) (dpa_cons (dpe_call (ok_net_effect T) (hr.mono (by decide)) (by rfl) T.m_net_effect T.F_net_effect.kp T.b_net_effect (dpa_cons (dpe_var 3) dpa_nil)) (dpa_cons (dpe_call (ok_net_effect T) (hr.mono (by decide)) (by rfl) T.m_net_effect T.F_net_effect.kp T.b_net_effect (dpa_cons (dpe_tup (dpa_cons (dpe_var 4) (dpa_cons (dpe_var 4) dpa_nil))) dpa_nil)) dpa_nil))))) (dpa_cons (dpe_tup (dpa_cons (dpe_var 3) (dpa_cons (dpe_var 3) (dpa_cons (dpe_var 3) (dpa_cons (dpe_tup (dpa_cons (dpe_tup dpa_nil) (dpa_cons (dpe_tup dpa_nil) dpa_nil))) dpa_nil))))) dpa_nil))))) (dpss_one (dps_ret dpe_bl)) dpss_nil)
    (dpss_cons (dps_set 10 sc_law_alikes.nd (dpe_tup (dpa_cons (dpe_call (ok_are_alike T) (hr.mono (by decide)) (by rfl) T.m_are_alike T.F_are_alike.kp T.b_are_alike (dpa_cons (dpe_var 7) (dpa_cons (dpe_var 8) dpa_nil))) (dpa_cons (dpe_call (ok_are_alike T) (hr.mono (by decide)) (by rfl) T.m_are_alike T.F_are_alike.kp T.b_are_alike (dpa_cons (dpe_var 8) (dpa_cons (dpe_var 7) dpa_nil))) (dpa_cons (dpe_call (ok_are_alike T) (hr.mono (by decide)) (by rfl) T.m_are_alike T.F_are_alike.kp T.b_are_alike (dpa_cons (dpe_var 3) (dpa_cons (dpe_var 8) dpa_nil))) (dpa_cons (dpe_call (ok_are_alike T) (hr.mono (by decide)) (by rfl) T.m_are_alike T.F_are_alike.kp T.b_are_alike (dpa_cons (dpe_var 9) (dpa_cons (dpe_var 9) dpa_nil))) (dpa_cons (dpe_call (ok_are_alike T) (hr.mono (by decide)) (by rfl) T.m_are_alike T.F_are_alike.kp T.b_are_alike (dpa_cons (dpe_var 7) (dpa_cons (dpe_var 9) dpa_nil))) (dpa_cons (dpe_call (ok_are_alike T) (hr.mono (by decide)) (by rfl) T.m_are_alike T.F_are_alike.kp T.b_are_alike (dpa_cons (dpe_var 9) (dpa_cons (dpe_var 8) dpa_nil))) dpa_nil))))))))
    (dpss_cons (dps_if (dpt_not (dpt_val (dpe_call (ok_law_same T) (hr.mono (by decide)) (by rfl) T.m_law_same T.F_law_same.kp T.b_law_same (dpa_cons (dpe_var 10) (dpa_cons (dpe_tup (dpa_cons dpe_bl (dpa_cons dpe_bl (dpa_cons dpe_bl (dpa_cons dpe_bl (dpa_cons dpe_bl (dpa_cons dpe_bl dpa_nil))))))) dpa_nil))))) (dpss_one (dps_ret dpe_bl)) dpss_nil)
    (dpss_cons (dps_set 11 sc_law_alikes.nd (dpe_tup (dpa_cons (dpe_op dop_add (dpe_ix dix (dpe_var 3) dpe_int) (dpe_var 4)) (dpa_cons (dpe_op dop_add (dpe_ix dix (dpe_var 3) dpe_int) (dpe_call (ok_law_spoilt T) (hr.mono (by decide)) (by rfl) T.m_law_spoilt T.F_law_spoilt.kp T.b_law_spoilt (dpa_cons (dpe_var 0) (dpa_cons (dpe_var 4) (dpa_cons (dpe_var 2) dpa_nil))))) dpa_nil))))
    (dpss_cons (dps_set 12 sc_law_alikes.nd (dpe_tup (dpa_cons (dpe_ix dix (dpe_var 3) dpe_int) (dpa_cons (dpe_op dop_add (dpe_ix dix (dpe_var 3) dpe_int) (dpe_var 4)) dpa_nil))))
    (dpss_cons (dps_if (dpt_not (dpt_val (dpe_call (ok_law_same T) (hr.mono (by decide)) (by rfl) T.m_law_same T.F_law_same.kp T.b_law_same (dpa_cons (dpe_tup (dpa_cons (dpe_call (ok_are_alike T) (hr.mono (by decide)) (by rfl) T.m_are_alike T.F_are_alike.kp T.b_are_alike (dpa_cons (dpe_var 3) (dpa_cons (dpe_var 11) dpa_nil))) (dpa_cons (dpe_call (ok_are_alike T) (hr.mono (by decide)) (by rfl) T.m_are_alike T.F_are_alike.kp T.b_are_alike (dpa_cons (dpe_var 11) (dpa_cons (dpe_var 7) dpa_nil))) (dpa_cons (dpe_call (ok_are_alike T) (hr.mono (by decide)) (by rfl) T.m_are_alike T.F_are_alike.kp T.b_are_alike (dpa_cons (dpe_var 12) (dpa_cons (dpe_var 3) dpa_nil))) (dpa_cons (dpe_call (ok_are_alike T) (hr.mono (by decide)) (by rfl) T.m_are_alike T.F_are_alike.kp T.b_are_alike (dpa_cons (dpe_tup (dpa_cons (dpe_op dop_add (dpe_ix dix (dpe_var 3) dpe_int) (dpe_var 4)) (dpa_cons (dpe_op dop_add (dpe_ix dix (dpe_var 3) dpe_int) (dpe_var 4)) dpa_nil))) (dpa_cons (dpe_var 7) dpa_nil))) dpa_nil))))) (dpa_cons (dpe_tup (dpa_cons dpe_bl (dpa_cons dpe_bl (dpa_cons dpe_bl (dpa_cons (dpe_cmp (dop_eq hr.units) (dpe_var 3) (dpe_tup (dpa_cons (dpe_tup dpa_nil) (dpa_cons (dpe_tup dpa_nil) dpa_nil)))) dpa_nil))))) dpa_nil))))) (dpss_one (dps_ret dpe_bl)) dpss_nil)
    (dpss_cons (dps_set 13 sc_law_alikes.nd (dpe_tup (dpa_cons (dpe_call (ok_height T) (hr.mono (by decide)) (by rfl) T.m_height T.F_height.kp T.b_height (dpa_cons (dpe_var 7) dpa_nil)) (dpa_cons (dpe_call (ok_height T) (hr.mono (by decide)) (by rfl) T.m_height T.F_height.kp T.b_height (dpa_cons (dpe_var 3) dpa_nil)) (dpa_cons (dpe_call (ok_height T) (hr.mono (by decide)) (by rfl) T.m_height T.F_height.kp T.b_height (dpa_cons (dpe_var 12) dpa_nil)) (dpa_cons (dpe_call (ok_height T) (hr.mono (by decide)) (by rfl) T.m_height T.F_height.kp T.b_height (dpa_cons (dpe_tup (dpa_cons (dpe_var 4) (dpa_cons (dpe_tup dpa_nil) dpa_nil))) dpa_nil)) dpa_nil))))))
    (dpss_cons (dps_set 14 sc_law_alikes.nd (dpe_op dop_sub (dpe_callB dcall_len (by rfl) T.z_len boot_len (dpa_cons (dpe_ix dix (dpe_var 3) dpe_int) dpa_nil)) (dpe_callB dcall_len (by rfl) T.z_len boot_len (dpa_cons (dpe_ix dix (dpe_var 3) dpe_int) dpa_nil))))
    (dpss_one (dps_ret (dpe_call (ok_law_same T) (hr.mono (by decide)) (by rfl) T.m_law_same T.F_law_same.kp T.b_law_same (dpa_cons (dpe_var 13) (dpa_cons (dpe_tup (dpa_cons (dpe_var 14) (dpa_cons (dpe_var 14) (dpa_cons (dpe_op dop_add (dpe_var 14) (dpe_callB dcall_len (by rfl) T.z_len boot_len (dpa_cons (dpe_var 4) dpa_nil))) (dpa_cons (dpe_op dop_sub dpe_int (dpe_callB dcall_len (by rfl) T.z_len boot_len (dpa_cons (dpe_var 4) dpa_nil))) dpa_nil))))) dpa_nil)))))))))))))))))))))
theorem ok_law_alikes (T : Txt K mg) : FnD P w K mg base 8 T.f_law_alikes T.fd_law_alikes ["cup", "most", "high"] (a3 sp_law_alikes) := FnD.mk T.F_law_alikes sc_law_alikes a3_len (dv_law_alikes T) rd_law_alikes_ok
theorem dv_law (T : Txt K mg) : ∀ (cdv : Value) (A : Around) (outer : List Env) (s : Shared) (H : Hp) (E : XK), Room 9 (A.deeper (envOfC "law" (defScope s_law) s.heap.objs.size T.f_law cdv)) → DPSs (cxOf CX0 P w K mg base N_law "law" (defScope s_law) T.f_law cdv A outer s H E).nox (KG.top K) (defBody s_law) rd_law := by
    intro cdv A outer s H E hr
    unfold rd_law
    exact (dpss_cons (dps_set 1 sc_law.nd (dpe_call (ok_law_cup T) (hr.mono (by decide)) (by rfl) T.m_law_cup T.F_law_cup.kp T.b_law_cup (dpa_cons (dpe_var 0) dpa_nil)))
    (dpss_cons (dps_set 2 sc_law.nd (dpe_ix dix (dpe_tup (dpa_cons dpe_int (dpa_cons dpe_int (dpa_cons dpe_int dpa_nil)))) (dpe_call (ok_law_dice T) (hr.mono (by decide)) (by rfl) T.m_law_dice T.F_law_dice.kp T.b_law_dice (dpa_cons (dpe_var 1) (dpa_cons dpe_int dpa_nil)))))
    (dpss_cons (dps_if (DPW.pt (dpw_or (dpt_not (dpt_val (dpe_call (ok_law_pairs T) (hr.mono (by decide)) (by rfl) T.m_law_pairs T.F_law_pairs.kp T.b_law_pairs (dpa_cons (dpe_var 1) (dpa_cons dpe_int (dpa_cons (dpe_var 2) dpa_nil)))))) (dpw_or (dpt_not (dpt_val (dpe_call (ok_law_rows T) (hr.mono (by decide)) (by rfl) T.m_law_rows T.F_law_rows.kp T.b_law_rows (dpa_cons (dpe_var 1) (dpa_cons (dpe_var 2) dpa_nil))))) (dpw_or1 (dpt_not (dpt_val (dpe_call (ok_law_alikes T) (hr.mono (by decide)) (by rfl) T.m_law_alikes T.F_law_alikes.kp T.b_law_alikes (dpa_cons (dpe_var 1) (dpa_cons dpe_int (dpa_cons (dpe_var 2) dpa_nil)))))))))) (dpss_one (dps_ret dpe_bl)) dpss_nil)
    (dpss_cons (dps_if (dpt_cmp dop_gt (dpe_call (ok_law_dice T) (hr.mono (by decide)) (by rfl) T.m_law_dice T.F_law_dice.kp T.b_law_dice (dpa_cons (dpe_var 1) (dpa_cons dpe_int dpa_nil))) dpe_int) (dpss_one (dps_ret dpe_bl)) dpss_nil)
    (dpss_one (dps_ret (dpe_and (dpe_call (ok_law_pairs T) (hr.mono (by decide)) (by rfl) T.m_law_pairs T.F_law_pairs.kp T.b_law_pairs (dpa_cons (dpe_var 1) (dpa_cons dpe_int (dpa_cons (dpe_var 2) dpa_nil)))) (dpe_one (dpe_call (ok_law_alikes T) (hr.mono (by decide)) (by rfl) T.m_law_alikes T.F_law_alikes.kp T.b_law_alikes (dpa_cons (dpe_var 1) (dpa_cons dpe_int (dpa_cons (dpe_var 2) dpa_nil))))))))))))
theorem ok_law (T : Txt K mg) : FnD P w K mg base 10 T.f_law T.fd_law ["script"] spTrue := FnD.mk T.F_law sc_law (fun ds S P h => by obtain ⟨ns, rfl, _⟩ := h; rfl) (dv_law T) rd_law_ok
end
theorem all_mk {l : PySem.W.OpenLaw} {w : World} {K : PySem.W.Frag} {h : Heap} {mg : Str → Option Value} {fa : Addr} (X : K.In h) (G : h.Ns mainGlobals mg) (hfa : mg "law" = some (.ref fa))
    {f0 : Addr} {od0 an0 : Option Addr} {sl0 : Array (Option Value)} {oc0 kV0 dc0 pm0 cd0 ct0 : Value}
    (a0 : PySem.W.nsIn K mainGlobals "begins" = some (some (.ref f0))) (l0 : K.lookup f0 = some ⟨oc0, od0, .func (PySem.W.fnOf "begins" "begins" (defArgs s_begins) (defBody s_begins) (defScope s_begins) .none kV0 dc0 pm0 an0 cd0 ct0), sl0⟩) (c0 : PySem.W.codeIn K cd0 "begins" = true) (k0 : PySem.W.keepIn K (.ref f0) = true)
    {f1 : Addr} {od1 an1 : Option Addr} {sl1 : Array (Option Value)} {oc1 kV1 dc1 pm1 cd1 ct1 : Value}
    (a1 : PySem.W.nsIn K mainGlobals "joined" = some (some (.ref f1))) (l1 : K.lookup f1 = some ⟨oc1, od1, .func (PySem.W.fnOf "joined" "joined" (defArgs s_joined) (defBody s_joined) (defScope s_joined) .none kV1 dc1 pm1 an1 cd1 ct1), sl1⟩) (c1 : PySem.W.codeIn K cd1 "joined" = true) (k1 : PySem.W.keepIn K (.ref f1) = true)
    {f2 : Addr} {od2 an2 : Option Addr} {sl2 : Array (Option Value)} {oc2 kV2 dc2 pm2 cd2 ct2 : Value}
    (a2 : PySem.W.nsIn K mainGlobals "all_joined" = some (some (.ref f2))) (l2 : K.lookup f2 = some ⟨oc2, od2, .func (PySem.W.fnOf "all_joined" "all_joined" (defArgs s_all_joined) (defBody s_all_joined) (defScope s_all_joined) .none kV2 dc2 pm2 an2 cd2 ct2), sl2⟩) (c2 : PySem.W.codeIn K cd2 "all_joined" = true) (k2 : PySem.W.keepIn K (.ref f2) = true)
    {f3 : Addr} {od3 an3 : Option Addr} {sl3 : Array (Option Value)} {oc3 kV3 dc3 pm3 cd3 ct3 : Value}
    (a3 : PySem.W.nsIn K mainGlobals "extended" = some (some (.ref f3))) (l3 : K.lookup f3 = some ⟨oc3, od3, .func (PySem.W.fnOf "extended" "extended" (defArgs s_extended) (defBody s_extended) (defScope s_extended) .none kV3 dc3 pm3 an3 cd3 ct3), sl3⟩) (c3 : PySem.W.codeIn K cd3 "extended" = true) (k3 : PySem.W.keepIn K (.ref f3) = true)
    {f4 : Addr} {od4 an4 : Option Addr} {sl4 : Array (Option Value)} {oc4 kV4 dc4 pm4 cd4 ct4 : Value}
    (a4 : PySem.W.nsIn K mainGlobals "net_effect" = some (some (.ref f4))) (l4 : K.lookup f4 = some ⟨oc4, od4, .func (PySem.W.fnOf "net_effect" "net_effect" (defArgs s_net_effect) (defBody s_net_effect) (defScope s_net_effect) .none kV4 dc4 pm4 an4 cd4 ct4), sl4⟩) (c4 : PySem.W.codeIn K cd4 "net_effect" = true) (k4 : PySem.W.keepIn K (.ref f4) = true)
    {f5 : Addr} {od5 an5 : Option Addr} {sl5 : Array (Option Value)} {oc5 kV5 dc5 pm5 cd5 ct5 : Value}
    (a5 : PySem.W.nsIn K mainGlobals "goes_through" = some (some (.ref f5))) (l5 : K.lookup f5 = some ⟨oc5, od5, .func (PySem.W.fnOf "goes_through" "goes_through" (defArgs s_goes_through) (defBody s_goes_through) (defScope s_goes_through) .none kV5 dc5 pm5 an5 cd5 ct5), sl5⟩) (c5 : PySem.W.codeIn K cd5 "goes_through" = true) (k5 : PySem.W.keepIn K (.ref f5) = true)
    {f6 : Addr} {od6 an6 : Option Addr} {sl6 : Array (Option Value)} {oc6 kV6 dc6 pm6 cd6 ct6 : Value}
    (a6 : PySem.W.nsIn K mainGlobals "after" = some (some (.ref f6))) (l6 : K.lookup f6 = some ⟨oc6, od6, .func (PySem.W.fnOf "after" "after" (defArgs s_after) (defBody s_after) (defScope s_after) .none kV6 dc6 pm6 an6 cd6 ct6), sl6⟩) (c6 : PySem.W.codeIn K cd6 "after" = true) (k6 : PySem.W.keepIn K (.ref f6) = true)
    {f7 : Addr} {od7 an7 : Option Addr} {sl7 : Array (Option Value)} {oc7 kV7 dc7 pm7 cd7 ct7 : Value}
    (a7 : PySem.W.nsIn K mainGlobals "height" = some (some (.ref f7))) (l7 : K.lookup f7 = some ⟨oc7, od7, .func (PySem.W.fnOf "height" "height" (defArgs s_height) (defBody s_height) (defScope s_height) .none kV7 dc7 pm7 an7 cd7 ct7), sl7⟩) (c7 : PySem.W.codeIn K cd7 "height" = true) (k7 : PySem.W.keepIn K (.ref f7) = true)
    {f8 : Addr} {od8 an8 : Option Addr} {sl8 : Array (Option Value)} {oc8 kV8 dc8 pm8 cd8 ct8 : Value}
    (a8 : PySem.W.nsIn K mainGlobals "is_extended" = some (some (.ref f8))) (l8 : K.lookup f8 = some ⟨oc8, od8, .func (PySem.W.fnOf "is_extended" "is_extended" (defArgs s_is_extended) (defBody s_is_extended) (defScope s_is_extended) .none kV8 dc8 pm8 an8 cd8 ct8), sl8⟩) (c8 : PySem.W.codeIn K cd8 "is_extended" = true) (k8 : PySem.W.keepIn K (.ref f8) = true)
    {f9 : Addr} {od9 an9 : Option Addr} {sl9 : Array (Option Value)} {oc9 kV9 dc9 pm9 cd9 ct9 : Value}
    (a9 : PySem.W.nsIn K mainGlobals "are_alike" = some (some (.ref f9))) (l9 : K.lookup f9 = some ⟨oc9, od9, .func (PySem.W.fnOf "are_alike" "are_alike" (defArgs s_are_alike) (defBody s_are_alike) (defScope s_are_alike) .none kV9 dc9 pm9 an9 cd9 ct9), sl9⟩) (c9 : PySem.W.codeIn K cd9 "are_alike" = true) (k9 : PySem.W.keepIn K (.ref f9) = true)
    {f10 : Addr} {od10 an10 : Option Addr} {sl10 : Array (Option Value)} {oc10 kV10 dc10 pm10 cd10 ct10 : Value}
    (a10 : PySem.W.nsIn K mainGlobals "_law_cup" = some (some (.ref f10))) (l10 : K.lookup f10 = some ⟨oc10, od10, .func (PySem.W.fnOf "_law_cup" "_law_cup" (defArgs s_law_cup) (defBody s_law_cup) (defScope s_law_cup) .none kV10 dc10 pm10 an10 cd10 ct10), sl10⟩) (c10 : PySem.W.codeIn K cd10 "_law_cup" = true) (k10 : PySem.W.keepIn K (.ref f10) = true)
    {f11 : Addr} {od11 an11 : Option Addr} {sl11 : Array (Option Value)} {oc11 kV11 dc11 pm11 cd11 ct11 : Value}
    (a11 : PySem.W.nsIn K mainGlobals "_law_dice" = some (some (.ref f11))) (l11 : K.lookup f11 = some ⟨oc11, od11, .func (PySem.W.fnOf "_law_dice" "_law_dice" (defArgs s_law_dice) (defBody s_law_dice) (defScope s_law_dice) .none kV11 dc11 pm11 an11 cd11 ct11), sl11⟩) (c11 : PySem.W.codeIn K cd11 "_law_dice" = true) (k11 : PySem.W.keepIn K (.ref f11) = true)
    {f12 : Addr} {od12 an12 : Option Addr} {sl12 : Array (Option Value)} {oc12 kV12 dc12 pm12 cd12 ct12 : Value}
    (a12 : PySem.W.nsIn K mainGlobals "_law_same" = some (some (.ref f12))) (l12 : K.lookup f12 = some ⟨oc12, od12, .func (PySem.W.fnOf "_law_same" "_law_same" (defArgs s_law_same) (defBody s_law_same) (defScope s_law_same) .none kV12 dc12 pm12 an12 cd12 ct12), sl12⟩) (c12 : PySem.W.codeIn K cd12 "_law_same" = true) (k12 : PySem.W.keepIn K (.ref f12) = true)
    {f13 : Addr} {od13 an13 : Option Addr} {sl13 : Array (Option Value)} {oc13 kV13 dc13 pm13 cd13 ct13 : Value}
    (a13 : PySem.W.nsIn K mainGlobals "_law_kinds" = some (some (.ref f13))) (l13 : K.lookup f13 = some ⟨oc13, od13, .func (PySem.W.fnOf "_law_kinds" "_law_kinds" (defArgs s_law_kinds) (defBody s_law_kinds) (defScope s_law_kinds) .none kV13 dc13 pm13 an13 cd13 ct13), sl13⟩) (c13 : PySem.W.codeIn K cd13 "_law_kinds" = true) (k13 : PySem.W.keepIn K (.ref f13) = true)
    {f14 : Addr} {od14 an14 : Option Addr} {sl14 : Array (Option Value)} {oc14 kV14 dc14 pm14 cd14 ct14 : Value}
    (a14 : PySem.W.nsIn K mainGlobals "_law_pass" = some (some (.ref f14))) (l14 : K.lookup f14 = some ⟨oc14, od14, .func (PySem.W.fnOf "_law_pass" "_law_pass" (defArgs s_law_pass) (defBody s_law_pass) (defScope s_law_pass) .none kV14 dc14 pm14 an14 cd14 ct14), sl14⟩) (c14 : PySem.W.codeIn K cd14 "_law_pass" = true) (k14 : PySem.W.keepIn K (.ref f14) = true)
    {f15 : Addr} {od15 an15 : Option Addr} {sl15 : Array (Option Value)} {oc15 kV15 dc15 pm15 cd15 ct15 : Value}
    (a15 : PySem.W.nsIn K mainGlobals "_law_fold" = some (some (.ref f15))) (l15 : K.lookup f15 = some ⟨oc15, od15, .func (PySem.W.fnOf "_law_fold" "_law_fold" (defArgs s_law_fold) (defBody s_law_fold) (defScope s_law_fold) .none kV15 dc15 pm15 an15 cd15 ct15), sl15⟩) (c15 : PySem.W.codeIn K cd15 "_law_fold" = true) (k15 : PySem.W.keepIn K (.ref f15) = true)
    {f16 : Addr} {od16 an16 : Option Addr} {sl16 : Array (Option Value)} {oc16 kV16 dc16 pm16 cd16 ct16 : Value}
    (a16 : PySem.W.nsIn K mainGlobals "_law_net" = some (some (.ref f16))) (l16 : K.lookup f16 = some ⟨oc16, od16, .func (PySem.W.fnOf "_law_net" "_law_net" (defArgs s_law_net) (defBody s_law_net) (defScope s_law_net) .none kV16 dc16 pm16 an16 cd16 ct16), sl16⟩) (c16 : PySem.W.codeIn K cd16 "_law_net" = true) (k16 : PySem.W.keepIn K (.ref f16) = true)
    {f17 : Addr} {od17 an17 : Option Addr} {sl17 : Array (Option Value)} {oc17 kV17 dc17 pm17 cd17 ct17 : Value}
    (a17 : PySem.W.nsIn K mainGlobals "_law_after" = some (some (.ref f17))) (l17 : K.lookup f17 = some ⟨oc17, od17, .func (PySem.W.fnOf "_law_after" "_law_after" (defArgs s_law_after) (defBody s_law_after) (defScope s_law_after) .none kV17 dc17 pm17 an17 cd17 ct17), sl17⟩) (c17 : PySem.W.codeIn K cd17 "_law_after" = true) (k17 : PySem.W.keepIn K (.ref f17) = true)
    {f18 : Addr} {od18 an18 : Option Addr} {sl18 : Array (Option Value)} {oc18 kV18 dc18 pm18 cd18 ct18 : Value}
    (a18 : PySem.W.nsIn K mainGlobals "_law_stays" = some (some (.ref f18))) (l18 : K.lookup f18 = some ⟨oc18, od18, .func (PySem.W.fnOf "_law_stays" "_law_stays" (defArgs s_law_stays) (defBody s_law_stays) (defScope s_law_stays) .none kV18 dc18 pm18 an18 cd18 ct18), sl18⟩) (c18 : PySem.W.codeIn K cd18 "_law_stays" = true) (k18 : PySem.W.keepIn K (.ref f18) = true)
    {f19 : Addr} {od19 an19 : Option Addr} {sl19 : Array (Option Value)} {oc19 kV19 dc19 pm19 cd19 ct19 : Value}
    (a19 : PySem.W.nsIn K mainGlobals "_law_goes" = some (some (.ref f19))) (l19 : K.lookup f19 = some ⟨oc19, od19, .func (PySem.W.fnOf "_law_goes" "_law_goes" (defArgs s_law_goes) (defBody s_law_goes) (defScope s_law_goes) .none kV19 dc19 pm19 an19 cd19 ct19), sl19⟩) (c19 : PySem.W.codeIn K cd19 "_law_goes" = true) (k19 : PySem.W.keepIn K (.ref f19) = true)
    {f20 : Addr} {od20 an20 : Option Addr} {sl20 : Array (Option Value)} {oc20 kV20 dc20 pm20 cd20 ct20 : Value}
    (a20 : PySem.W.nsIn K mainGlobals "_law_spoilt" = some (some (.ref f20))) (l20 : K.lookup f20 = some ⟨oc20, od20, .func (PySem.W.fnOf "_law_spoilt" "_law_spoilt" (defArgs s_law_spoilt) (defBody s_law_spoilt) (defScope s_law_spoilt) .none kV20 dc20 pm20 an20 cd20 ct20), sl20⟩) (c20 : PySem.W.codeIn K cd20 "_law_spoilt" = true) (k20 : PySem.W.keepIn K (.ref f20) = true)
    {f21 : Addr} {od21 an21 : Option Addr} {sl21 : Array (Option Value)} {oc21 kV21 dc21 pm21 cd21 ct21 : Value}
    (a21 : PySem.W.nsIn K mainGlobals "_law_pairs" = some (some (.ref f21))) (l21 : K.lookup f21 = some ⟨oc21, od21, .func (PySem.W.fnOf "_law_pairs" "_law_pairs" (defArgs s_law_pairs) (defBody s_law_pairs) (defScope s_law_pairs) .none kV21 dc21 pm21 an21 cd21 ct21), sl21⟩) (c21 : PySem.W.codeIn K cd21 "_law_pairs" = true) (k21 : PySem.W.keepIn K (.ref f21) = true)
    {f22 : Addr} {od22 an22 : Option Addr} {sl22 : Array (Option Value)} {oc22 kV22 dc22 pm22 cd22 ct22 : Value}
    (a22 : PySem.W.nsIn K mainGlobals "_law_rows" = some (some (.ref f22))) (l22 : K.lookup f22 = some ⟨oc22, od22, .func (PySem.W.fnOf "_law_rows" "_law_rows" (defArgs s_law_rows) (defBody s_law_rows) (defScope s_law_rows) .none kV22 dc22 pm22 an22 cd22 ct22), sl22⟩) (c22 : PySem.W.codeIn K cd22 "_law_rows" = true) (k22 : PySem.W.keepIn K (.ref f22) = true)
    {f23 : Addr} {od23 an23 : Option Addr} {sl23 : Array (Option Value)} {oc23 kV23 dc23 pm23 cd23 ct23 : Value}
    (a23 : PySem.W.nsIn K mainGlobals "_law_alikes" = some (some (.ref f23))) (l23 : K.lookup f23 = some ⟨oc23, od23, .func (PySem.W.fnOf "_law_alikes" "_law_alikes" (defArgs s_law_alikes) (defBody s_law_alikes) (defScope s_law_alikes) .none kV23 dc23 pm23 an23 cd23 ct23), sl23⟩) (c23 : PySem.W.codeIn K cd23 "_law_alikes" = true) (k23 : PySem.W.keepIn K (.ref f23) = true)
    {f24 : Addr} {od24 an24 : Option Addr} {sl24 : Array (Option Value)} {oc24 kV24 dc24 pm24 cd24 ct24 : Value}
    (a24 : PySem.W.nsIn K mainGlobals "law" = some (some (.ref f24))) (l24 : K.lookup f24 = some ⟨oc24, od24, .func (PySem.W.fnOf "law" "law" (defArgs s_law) (defBody s_law) (defScope s_law) .none kV24 dc24 pm24 an24 cd24 ct24), sl24⟩) (c24 : PySem.W.codeIn K cd24 "law" = true) (k24 : PySem.W.keepIn K (.ref f24) = true)
    (z_bool : PySem.W.nsIn K mainGlobals "bool" = some none)    (z_int : PySem.W.nsIn K mainGlobals "int" = some none)    (z_isinstance : PySem.W.nsIn K mainGlobals "isinstance" = some none)    (z_len : PySem.W.nsIn K mainGlobals "len" = some none)    (z_list : PySem.W.nsIn K mainGlobals "list" = some none)    (z_min : PySem.W.nsIn K mainGlobals "min" = some none)    (z_range : PySem.W.nsIn K mainGlobals "range" = some none)    (z_tuple : PySem.W.nsIn K mainGlobals "tuple" = some none)    {G_NO_EFFECT_0 : Addr} {odG_NO_EFFECT_0 : Option Addr} {slG_NO_EFFECT_0 : Array (Option Value)} {nG_NO_EFFECT_0 : Nat} {G_NO_EFFECT_1 : Addr} {odG_NO_EFFECT_1 : Option Addr} {slG_NO_EFFECT_1 : Array (Option Value)} {nG_NO_EFFECT_1 : Nat} {G_NO_EFFECT : Addr} {odG_NO_EFFECT : Option Addr} {slG_NO_EFFECT : Array (Option Value)} {nG_NO_EFFECT : Nat} (gA_NO_EFFECT : PySem.W.nsIn K mainGlobals "NO_EFFECT" = some (some (.ref G_NO_EFFECT))) (hG_NO_EFFECT : K.lookup G_NO_EFFECT = some ⟨.type "tuple", odG_NO_EFFECT, .seq #[.ref G_NO_EFFECT_0, .ref G_NO_EFFECT_1] nG_NO_EFFECT, slG_NO_EFFECT⟩) (hG_NO_EFFECT_0 : K.lookup G_NO_EFFECT_0 = some ⟨.type "tuple", odG_NO_EFFECT_0, .seq #[] nG_NO_EFFECT_0, slG_NO_EFFECT_0⟩) (hG_NO_EFFECT_1 : K.lookup G_NO_EFFECT_1 = some ⟨.type "tuple", odG_NO_EFFECT_1, .seq #[] nG_NO_EFFECT_1, slG_NO_EFFECT_1⟩)
    {C_Jam : Addr} (cA_Jam : PySem.W.nsIn K mainGlobals "Jam" = some (some (.ref C_Jam)))
    {C_PileError : Addr} (cA_PileError : PySem.W.nsIn K mainGlobals "PileError" = some (some (.ref C_PileError)))
    {B_Jam_0 : Addr} {B_Jam_1 : Addr} {nm_Jam qq_Jam : Str} {Ns_Jam : Addr} {bs_Jam : List Value} {sn_Jam : List Str} {sb_Jam : List Value} {ab_Jam : Bool} {co_Jam : Option Bool} {dd_Jam : Option Addr} {m0_Jam m1_Jam m2_Jam m3_Jam m5_Jam : Option Value} {fi_Jam : Addr} {odi_Jam ani_Jam : Option Addr} {sli_Jam : Array (Option Value)} {oci_Jam kVi_Jam dci_Jam pmi_Jam cdi_Jam cti_Jam : Value}
    (xL_Jam : K.lookup C_Jam = some (excClassObj nm_Jam qq_Jam C_Jam Ns_Jam bs_Jam [.ref B_Jam_0, .ref B_Jam_1, .type "ValueError", .type "Exception", .type "BaseException", .type "object"] true sn_Jam sb_Jam ab_Jam co_Jam dd_Jam m0_Jam m1_Jam m2_Jam m3_Jam m5_Jam "ValueError.__new__"))
    (sa_Jam : PySem.W.findIn K (.ref C_Jam) "__setattr__" = some (some (.builtin "object.__setattr__"))) (eC_Jam : PySem.W.subIn K (.ref C_Jam) (.type "BaseException") = some true) (tC_Jam : PySem.W.typeIn K (.ref C_Jam) = some (.type "type")) (kC_Jam : PySem.W.keepIn K (.ref C_Jam) = true) (ga_Jam : PySem.W.findIn K (.ref C_Jam) "__getattribute__" = some (some (.builtin "BaseException.__getattribute__"))) (gg_Jam : PySem.W.findIn K (.ref C_Jam) "__getattr__" = some none) (hC_Jam : PySem.W.hasDictIn K C_Jam = true)
    (no_Jam_place : PySem.W.findIn K (.ref C_Jam) "place" = some none)
    (in_Jam : PySem.W.findIn K (.ref C_Jam) "__init__" = some (some (.ref fi_Jam))) (ti_Jam : PySem.W.typeIn K (.ref fi_Jam) = some (.type "function")) (li_Jam : K.lookup fi_Jam = some ⟨oci_Jam, odi_Jam, .func (PySem.W.fnOf "__init__" "Jam.__init__" (defArgs si_Jam) (defBody si_Jam) (defScope si_Jam) .none kVi_Jam dci_Jam pmi_Jam ani_Jam cdi_Jam cti_Jam), sli_Jam⟩) (ci_Jam : PySem.W.codeIn K cdi_Jam "Jam.__init__" = true) (ki_Jam : PySem.W.keepIn K (.ref fi_Jam) = true)
    (yE_PileError : PySem.W.subIn K (.ref C_PileError) (.type "BaseException") = some true) (yI_PileError : PySem.W.isClsIn K C_PileError = true) (yT_PileError : PySem.W.typeIn K (.ref C_PileError) = some (.type "type"))
    (yE_Jam : PySem.W.subIn K (.ref C_Jam) (.type "BaseException") = some true) (yI_Jam : PySem.W.isClsIn K C_Jam = true) (yT_Jam : PySem.W.typeIn K (.ref C_Jam) = some (.type "type"))
    (ys_Jam_PileError : PySem.W.subIn K (.ref C_Jam) (.ref C_PileError) = some true)
    (ys_Jam_Jam : PySem.W.subIn K (.ref C_Jam) (.ref C_Jam) = some true)
 :
    ∃ fd : FuncData, (∀ (s : Shared) (v : Value), BindsTo s fd ⟨[v], []⟩ [("script", v)]) ∧ ∀ base : Heap, K.In base → base.Ns mainGlobals mg → FnOk l.prog w K mg base CX0 10 fa fd ["script"] (spLaw K) := by
  have e := hfa.symm.trans (PySem.W.mg_of X G a24)
  cases e
  have F0 := fun_mk (st := s_begins) l0 c0 k0
  have b0 := F0.binds (ps := ["pile", "front"]) fun _ _ _ _ _ _  us hl => match us, hl with | [_, _], _ => rfl
  have F1 := fun_mk (st := s_joined) l1 c1 k1
  have b1 := F1.binds (ps := ["one", "other"]) fun _ _ _ _ _ _  us hl => match us, hl with | [_, _], _ => rfl
  have F2 := fun_mk (st := s_all_joined) l2 c2 k2
  have b2 := F2.binds (ps := ["effects"]) fun _ _ _ _ _ _  us hl => match us, hl with | [_], _ => rfl
  have F3 := fun_mk (st := s_extended) l3 c3 k3
  have b3 := F3.binds (ps := ["effect", "pile"]) fun _ _ _ _ _ _  us hl => match us, hl with | [_, _], _ => rfl
  have F4 := fun_mk (st := s_net_effect) l4 c4 k4
  have b4 := F4.binds (ps := ["effect"]) fun _ _ _ _ _ _  us hl => match us, hl with | [_], _ => rfl
  have F5 := fun_mk (st := s_goes_through) l5 c5 k5
  have b5 := F5.binds (ps := ["pile", "effect"]) fun _ _ _ _ _ _  us hl => match us, hl with | [_, _], _ => rfl
  have F6 := fun_mk (st := s_after) l6 c6 k6
  have b6 := F6.binds (ps := ["pile", "effect"]) fun _ _ _ _ _ _  us hl => match us, hl with | [_, _], _ => rfl
  have F7 := fun_mk (st := s_height) l7 c7 k7
  have b7 := F7.binds (ps := ["effect"]) fun _ _ _ _ _ _  us hl => match us, hl with | [_], _ => rfl
  have F8 := fun_mk (st := s_is_extended) l8 c8 k8
  have b8 := F8.binds (ps := ["one", "other"]) fun _ _ _ _ _ _  us hl => match us, hl with | [_, _], _ => rfl
  have F9 := fun_mk (st := s_are_alike) l9 c9 k9
  have b9 := F9.binds (ps := ["one", "other"]) fun _ _ _ _ _ _  us hl => match us, hl with | [_, _], _ => rfl
  have F10 := fun_mk (st := s_law_cup) l10 c10 k10
  have b10 := F10.binds (ps := ["script"]) fun _ _ _ _ _ _  us hl => match us, hl with | [_], _ => rfl
  have F11 := fun_mk (st := s_law_dice) l11 c11 k11
  have b11 := F11.binds (ps := ["cup", "sides"]) fun _ _ _ _ _ _  us hl => match us, hl with | [_, _], _ => rfl
  have F12 := fun_mk (st := s_law_same) l12 c12 k12
  have b12 := F12.binds (ps := ["told", "due"]) fun _ _ _ _ _ _  us hl => match us, hl with | [_, _], _ => rfl
  have F13 := fun_mk (st := s_law_kinds) l13 c13 k13
  have b13 := F13.binds (ps := ["cup", "most", "high"]) fun _ _ _ _ _ _  us hl => match us, hl with | [_, _, _], _ => rfl
  have F14 := fun_mk (st := s_law_pass) l14 c14 k14
  have b14 := F14.binds (ps := ["first", "second"]) fun _ _ _ _ _ _  us hl => match us, hl with | [_, _], _ => rfl
  have F15 := fun_mk (st := s_law_fold) l15 c15 k15
  have b15 := F15.binds (ps := ["effects"]) fun _ _ _ _ _ _  us hl => match us, hl with | [_], _ => rfl
  have F16 := fun_mk (st := s_law_net) l16 c16 k16
  have b16 := F16.binds (ps := ["effect"]) fun _ _ _ _ _ _  us hl => match us, hl with | [_], _ => rfl
  have F17 := fun_mk (st := s_law_after) l17 c17 k17
  have b17 := F17.binds (ps := ["pile", "effect"]) fun _ _ _ _ _ _  us hl => match us, hl with | [_, _], _ => rfl
  have F18 := fun_mk (st := s_law_stays) l18 c18 k18
  have b18 := F18.binds (ps := ["pile", "effect"]) fun _ _ _ _ _ _  us hl => match us, hl with | [_, _], _ => rfl
  have F19 := fun_mk (st := s_law_goes) l19 c19 k19
  have b19 := F19.binds (ps := ["pile", "effect"]) fun _ _ _ _ _ _  us hl => match us, hl with | [_, _], _ => rfl
  have F20 := fun_mk (st := s_law_spoilt) l20 c20 k20
  have b20 := F20.binds (ps := ["cup", "pile", "high"]) fun _ _ _ _ _ _  us hl => match us, hl with | [_, _, _], _ => rfl
  have F21 := fun_mk (st := s_law_pairs) l21 c21 k21
  have b21 := F21.binds (ps := ["cup", "most", "high"]) fun _ _ _ _ _ _  us hl => match us, hl with | [_, _, _], _ => rfl
  have F22 := fun_mk (st := s_law_rows) l22 c22 k22
  have b22 := F22.binds (ps := ["cup", "high"]) fun _ _ _ _ _ _  us hl => match us, hl with | [_, _], _ => rfl
  have F23 := fun_mk (st := s_law_alikes) l23 c23 k23
  have b23 := F23.binds (ps := ["cup", "most", "high"]) fun _ _ _ _ _ _  us hl => match us, hl with | [_, _, _], _ => rfl
  have F24 := fun_mk (st := s_law) l24 c24 k24
  have b24 := F24.binds (ps := ["script"]) fun _ _ _ _ _ _  us hl => match us, hl with | [_], _ => rfl
  have Fi_Jam := fun_mk (st := si_Jam) li_Jam ci_Jam ki_Jam
  have bi_Jam := Fi_Jam.binds (ps := ["self", "place"]) fun _ _ _ _ _ _  us hl => match us, hl with | [_, _], _ => rfl
  have T : Txt K mg := ⟨f0, _, F0, PySem.W.mg_of X G a0, b0, f1, _, F1, PySem.W.mg_of X G a1, b1, f2, _, F2, PySem.W.mg_of X G a2, b2, f3, _, F3, PySem.W.mg_of X G a3, b3, f4, _, F4, PySem.W.mg_of X G a4, b4, f5, _, F5, PySem.W.mg_of X G a5, b5, f6, _, F6, PySem.W.mg_of X G a6, b6, f7, _, F7, PySem.W.mg_of X G a7, b7, f8, _, F8, PySem.W.mg_of X G a8, b8, f9, _, F9, PySem.W.mg_of X G a9, b9, f10, _, F10, PySem.W.mg_of X G a10, b10, f11, _, F11, PySem.W.mg_of X G a11, b11, f12, _, F12, PySem.W.mg_of X G a12, b12, f13, _, F13, PySem.W.mg_of X G a13, b13, f14, _, F14, PySem.W.mg_of X G a14, b14, f15, _, F15, PySem.W.mg_of X G a15, b15, f16, _, F16, PySem.W.mg_of X G a16, b16, f17, _, F17, PySem.W.mg_of X G a17, b17, f18, _, F18, PySem.W.mg_of X G a18, b18, f19, _, F19, PySem.W.mg_of X G a19, b19, f20, _, F20, PySem.W.mg_of X G a20, b20, f21, _, F21, PySem.W.mg_of X G a21, b21, f22, _, F22, PySem.W.mg_of X G a22, b22, f23, _, F23, PySem.W.mg_of X G a23, b23, fa, _, F24, PySem.W.mg_of X G a24, b24, PySem.W.mg_none_of X G z_bool, PySem.W.mg_none_of X G z_int, PySem.W.mg_none_of X G z_isinstance, PySem.W.mg_none_of X G z_len, PySem.W.mg_none_of X G z_list, PySem.W.mg_none_of X G z_min, PySem.W.mg_none_of X G z_range, PySem.W.mg_none_of X G z_tuple, _, PySem.W.mg_of X G gA_NO_EFFECT, (Known.tup hG_NO_EFFECT (Nat.le_of_ble_eq_true rfl) (.cons (Known.tup hG_NO_EFFECT_0 (Nat.le_of_ble_eq_true rfl) KnownL.nil) (.cons (Known.tup hG_NO_EFFECT_1 (Nat.le_of_ble_eq_true rfl) KnownL.nil) KnownL.nil))), C_Jam, PySem.W.mg_of X G cA_Jam, C_PileError, PySem.W.mg_of X G cA_PileError, ⟨⟨_, _, _, _, _, _, _, _, _, _, _, _, _, _, _, xL_Jam, rfl⟩, sa_Jam, eC_Jam, tC_Jam, kC_Jam⟩, ⟨ga_Jam, gg_Jam, eC_Jam, hC_Jam⟩, no_Jam_place, fi_Jam, _, in_Jam, ti_Jam, Fi_Jam, bi_Jam, exm_of yE_PileError yI_PileError yT_PileError ys_Jam_PileError, exm_of yE_Jam yI_Jam yT_Jam ys_Jam_Jam⟩
  exact ⟨_, fun s v => .of_eq rfl, fun base _ _ => (ok_law (base := base) (P := l.prog) (w := w) ⟨f0, _, F0, PySem.W.mg_of X G a0, b0, f1, _, F1, PySem.W.mg_of X G a1, b1, f2, _, F2, PySem.W.mg_of X G a2, b2, f3, _, F3, PySem.W.mg_of X G a3, b3, f4, _, F4, PySem.W.mg_of X G a4, b4, f5, _, F5, PySem.W.mg_of X G a5, b5, f6, _, F6, PySem.W.mg_of X G a6, b6, f7, _, F7, PySem.W.mg_of X G a7, b7, f8, _, F8, PySem.W.mg_of X G a8, b8, f9, _, F9, PySem.W.mg_of X G a9, b9, f10, _, F10, PySem.W.mg_of X G a10, b10, f11, _, F11, PySem.W.mg_of X G a11, b11, f12, _, F12, PySem.W.mg_of X G a12, b12, f13, _, F13, PySem.W.mg_of X G a13, b13, f14, _, F14, PySem.W.mg_of X G a14, b14, f15, _, F15, PySem.W.mg_of X G a15, b15, f16, _, F16, PySem.W.mg_of X G a16, b16, f17, _, F17, PySem.W.mg_of X G a17, b17, f18, _, F18, PySem.W.mg_of X G a18, b18, f19, _, F19, PySem.W.mg_of X G a19, b19, f20, _, F20, PySem.W.mg_of X G a20, b20, f21, _, F21, PySem.W.mg_of X G a21, b21, f22, _, F22, PySem.W.mg_of X G a22, b22, f23, _, F23, PySem.W.mg_of X G a23, b23, fa, _, F24, PySem.W.mg_of X G a24, b24, PySem.W.mg_none_of X G z_bool, PySem.W.mg_none_of X G z_int, PySem.W.mg_none_of X G z_isinstance, PySem.W.mg_none_of X G z_len, PySem.W.mg_none_of X G z_list, PySem.W.mg_none_of X G z_min, PySem.W.mg_none_of X G z_range, PySem.W.mg_none_of X G z_tuple, _, PySem.W.mg_of X G gA_NO_EFFECT, (Known.tup hG_NO_EFFECT (Nat.le_of_ble_eq_true rfl) (.cons (Known.tup hG_NO_EFFECT_0 (Nat.le_of_ble_eq_true rfl) KnownL.nil) (.cons (Known.tup hG_NO_EFFECT_1 (Nat.le_of_ble_eq_true rfl) KnownL.nil) KnownL.nil))), C_Jam, PySem.W.mg_of X G cA_Jam, C_PileError, PySem.W.mg_of X G cA_PileError, ⟨⟨_, _, _, _, _, _, _, _, _, _, _, _, _, _, _, xL_Jam, rfl⟩, sa_Jam, eC_Jam, tC_Jam, kC_Jam⟩, ⟨ga_Jam, gg_Jam, eC_Jam, hC_Jam⟩, no_Jam_place, fi_Jam, _, in_Jam, ti_Jam, Fi_Jam, bi_Jam, exm_of yE_PileError yI_PileError yT_PileError ys_Jam_PileError, exm_of yE_Jam yI_Jam yT_Jam ys_Jam_Jam⟩).law⟩
theorem walk {l : PySem.W.OpenLaw} {q : Program} {loose : List Str} {XP : (Str → Option Value) → Heap → Prop} {YP : World → Heap → Prop} {d : DefRec} {K : Params → PySem.W.Frag} (hn : l.most = some 63) (hdf : d.params.defaults = [])
    (hY : ∀ (w : World) (h : Heap), YP w h → (K w.params).In h)
    (F : ∀ (w : World) (mg : Str → Option Value) (fa : Addr) (h : Heap), (K w.params).In h → h.Ns mainGlobals mg → mg d.name = some (.ref fa) →
      ∃ fd : FuncData, (∀ (s : Shared) (u : Value), BindsTo s fd ⟨[u], []⟩ [("script", u)]) ∧ ∀ base : Heap, (K w.params).In base → base.Ns mainGlobals mg → FnOk l.prog w (K w.params) mg base CX0 10 fa fd ["script"] (spLaw (K w.params))) :
    PySem.W.WalkO q loose XP YP l.row.toRowW d [] (fun f vs => PySem.call f vs) :=
  L2.walk_of (n := 63) (k := 10) (x := "script") (CX := fun _ => CX0) (sp := fun w => spLaw (K w.params)) hn (by decide) hdf ⟨rfl, by decide, by decide⟩ hY F (fun _ _ a ns hl _ hS => ⟨a, ns, rfl, hS, hl, fun _ => rfl⟩) fun _ _ _ _ _ z => z
end L3

open PySem PySem.W PyProof.Rows in
set_option maxRecDepth 100000 in
set_option maxHeartbeats 0 in
theorem PySem.Challenge.cw_pilesfit_k01_effect_joins_holds : PySem.Challenge.rw_pilesfit_k01_effect_joins.Holds := by
  w_on; o_law; k_head; (case hw => w_witness2)
  k_fill
  refine L3.walk (l := PySem.Challenge.rw_pilesfit_k01_effect_joins) rfl rfl (fun w h Y => PySem.W.kIn_of Y) ?F
  case F =>
    intro w mg fa h KX G hmg
    refine' L3.all_mk KX G hmg ?a0 ?l0 ?c0 ?k0 ?a1 ?l1 ?c1 ?k1 ?a2 ?l2 ?c2 ?k2 ?a3 ?l3 ?c3 ?k3 ?a4 ?l4 ?c4 ?k4 ?a5 ?l5 ?c5 ?k5 ?a6 ?l6 ?c6 ?k6 ?a7 ?l7 ?c7 ?k7 ?a8 ?l8 ?c8 ?k8 ?a9 ?l9 ?c9 ?k9 ?a10 ?l10 ?c10 ?k10 ?a11 ?l11 ?c11 ?k11 ?a12 ?l12 ?c12 ?k12 ?a13 ?l13 ?c13 ?k13 ?a14 ?l14 ?c14 ?k14 ?a15 ?l15 ?c15 ?k15 ?a16 ?l16 ?c16 ?k16 ?a17 ?l17 ?c17 ?k17 ?a18 ?l18 ?c18 ?k18 ?a19 ?l19 ?c19 ?k19 ?a20 ?l20 ?c20 ?k20 ?a21 ?l21 ?c21 ?k21 ?a22 ?l22 ?c22 ?k22 ?a23 ?l23 ?c23 ?k23 ?a24 ?l24 ?c24 ?k24 ?z_bool ?z_int ?z_isinstance ?z_len ?z_list ?z_min ?z_range ?z_tuple ?gA_NO_EFFECT ?hG_NO_EFFECT ?hG_NO_EFFECT_0 ?hG_NO_EFFECT_1 ?cA_Jam ?cA_PileError ?xL_Jam ?sa_Jam ?eC_Jam ?tC_Jam ?kC_Jam ?ga_Jam ?gg_Jam ?hC_Jam ?no_Jam_place ?in_Jam ?ti_Jam ?li_Jam ?ci_Jam ?ki_Jam ?yE_PileError ?yI_PileError ?yT_PileError ?yE_Jam ?yI_Jam ?yT_Jam ?ys_Jam_PileError ?ys_Jam_Jam
    (case a0 => k_is)
    (case l0 => k_is)
    (case c0 => k_is)
    (case k0 => k_is)
    (case a1 => k_is)
    (case l1 => k_is)
    (case c1 => k_is)
    (case k1 => k_is)
    (case a2 => k_is)
    (case l2 => k_is)
    (case c2 => k_is)
    (case k2 => k_is)
    (case a3 => k_is)
    (case l3 => k_is)
    (case c3 => k_is)
    (case k3 => k_is)
    (case a4 => k_is)
    (case l4 => k_is)
    (case c4 => k_is)
    (case k4 => k_is)
    (case a5 => k_is)
    (case l5 => k_is)
    (case c5 => k_is)
    (case k5 => k_is)
    (case a6 => k_is)
    (case l6 => k_is)
    (case c6 => k_is)
    (case k6 => k_is)
    (case a7 => k_is)
    (case l7 => k_is)
    (case c7 => k_is)
    (case k7 => k_is)
    (case a8 => k_is)
    (case l8 => k_is)
    (case c8 => k_is)
    (case k8 => k_is)
    (case a9 => k_is)
    (case l9 => k_is)
    (case c9 => k_is)
    (case k9 => k_is)
    (case a10 => k_is)
    (case l10 => k_is)
    (case c10 => k_is)
    (case k10 => k_is)
    (case a11 => k_is)
    (case l11 => k_is)
    (case c11 => k_is)
    (case k11 => k_is)
    (case a12 => k_is)
    (case l12 => k_is)
    (case c12 => k_is)
    (case k12 => k_is)
    (case a13 => k_is)
    (case l13 => k_is)
    (case c13 => k_is)
    (case k13 => k_is)
    (case a14 => k_is)
    (case l14 => k_is)
    (case c14 => k_is)
    (case k14 => k_is)
    (case a15 => k_is)
    (case l15 => k_is)
    (case c15 => k_is)
    (case k15 => k_is)
    (case a16 => k_is)
    (case l16 => k_is)
    (case c16 => k_is)
    (case k16 => k_is)
    (case a17 => k_is)
    (case l17 => k_is)
    (case c17 => k_is)
    (case k17 => k_is)
    (case a18 => k_is)
    (case l18 => k_is)
    (case c18 => k_is)
    (case k18 => k_is)
    (case a19 => k_is)
    (case l19 => k_is)
    (case c19 => k_is)
    (case k19 => k_is)
    (case a20 => k_is)
    (case l20 => k_is)
    (case c20 => k_is)
    (case k20 => k_is)
    (case a21 => k_is)
    (case l21 => k_is)
    (case c21 => k_is)
    (case k21 => k_is)
    (case a22 => k_is)
    (case l22 => k_is)
    (case c22 => k_is)
    (case k22 => k_is)
    (case a23 => k_is)
    (case l23 => k_is)
    (case c23 => k_is)
    (case k23 => k_is)
    (case a24 => k_is)
    (case l24 => k_is)
    (case c24 => k_is)
    (case k24 => k_is)
    (case z_bool => k_is)
    (case z_int => k_is)
    (case z_isinstance => k_is)
    (case z_len => k_is)
    (case z_list => k_is)
    (case z_min => k_is)
    (case z_range => k_is)
    (case z_tuple => k_is)
    (case gA_NO_EFFECT => k_is)
    (case hG_NO_EFFECT => k_is)
    (case hG_NO_EFFECT_0 => k_is)
    (case hG_NO_EFFECT_1 => k_is)
    (case cA_Jam => k_is)
    (case cA_PileError => k_is)
    (case xL_Jam => k_is)
    (case sa_Jam => k_is)
    (case eC_Jam => k_is)
    (case tC_Jam => k_is)
    (case kC_Jam => k_is)
    (case ga_Jam => k_is)
    (case gg_Jam => k_is)
    (case hC_Jam => k_is)
    (case no_Jam_place => k_is)
    (case in_Jam => k_is)
    (case ti_Jam => k_is)
    (case li_Jam => k_is)
    (case ci_Jam => k_is)
    (case ki_Jam => k_is)
    (case yE_PileError => k_is)
    (case yI_PileError => k_is)
    (case yT_PileError => k_is)
    (case yE_Jam => k_is)
    (case yI_Jam => k_is)
    (case yT_Jam => k_is)
    (case ys_Jam_PileError => first | rfl | k_is)
    (case ys_Jam_Jam => first | rfl | k_is)
