import PyProof.Rows.All
import Wide.All
import OpenK.AllK
import Wide.FinOn
import HandS.ForMost
import HandS.ForExc
import HandS.Deep
import HandS.Flow
import HandS.IsInst
import HandS.Style
import HandS.TupAny
import HandS.TupLe
import HandS.Wide
import HandS.More
import HandS.Walk
import HandS.SortInts
import HandS.SetFor
import HandS.NoneIn
import HandS.Small
import HandS.CallSlots
import HandS.Conv
import PySem.Challenge.RW_nowhisper_k42_pages_in_frames_and_at_hom
import KE.KBits
set_option Elab.async false
set_option linter.all false
set_option maxRecDepth 100000
namespace Mir
open PySem L2

/-! ### data, objects, results -/
inductive D where
  | non | bl (b : Bool) | int (i : Int) | str (x : Str) | tup (xs : List D) | fl (xs : List D) | ref (n : Nat) | opq (v : V)

inductive O where
  | lst (xs : List D)
  | dk (kvs : List (Key × D))
  | dt (kvs : List (List Key × D))
  | ins (c : Str) (fs : List (Str × D))

inductive R (α : Type) where
  | ok (a : α) (S : List O)
  | exc (c : Str) (fs : List (Str × D)) (S : List O)
  | bad

abbrev GE := List (Option D)
abbrev ST := List O
/-- a computation -/
abbrev C (α : Type) := ST → R α
def R.bind {α β : Type} (r : R α) (f : α → ST → R β) : R β := match r with
  | .ok a S => f a S
  | .exc c fs S => .exc c fs S
  | .bad => .bad
@[simp] theorem R.bind_ok {α β : Type} (a : α) (S : ST) (f : α → ST → R β) : (R.ok a S).bind f = f a S := rfl
@[simp] theorem R.bind_exc {α β : Type} (c : Str) (fs) (S : ST) (f : α → ST → R β) : (R.exc c fs S : R α).bind f = .exc c fs S := rfl
@[simp] theorem R.bind_bad {α β : Type} (f : α → ST → R β) : (R.bad : R α).bind f = .bad := rfl

/-- a statement's result -/
inductive RS where
  | nx (G : GE) (S : ST)
  | rt (d : D) (S : ST)
  | bk (G : GE) (S : ST)
  | ct (G : GE) (S : ST)
  | exc (c : Str) (fs : List (Str × D)) (G : GE) (S : ST)
  | bad

abbrev ME := GE → ST → R D
abbrev MA := GE → ST → R (List D)
abbrev MT := GE → ST → R Bool
abbrev MS := GE → ST → RS
abbrev Fn := List D → ST → R D

/-! ### the relations -/
section
variable (K : PySem.W.Frag)
/-- a list that is read, never written -/
def FrL (H : Hp) (a : Addr) (xs : List V) : Prop :=
  (∃ o, H a = some (.frz o (.lst xs))) ∨
    ∃ (o : Obj) (its : Array Value) (n : Nat), K.lookup a = some o ∧ o.cls = .type "list" ∧ o.dict = none ∧ o.data = .seq its n ∧ its.size ≤ sizeLine ∧ Vals xs its.toList
mutual
def VR (ρ : List Addr) (H : Hp) : D → V → Prop
  | .non, v => v = .non
  | .bl b, v => v = .bl b
  | .int i, v => v = .int i
  | .str x, v => v = .str x
  | .tup ds, v => ∃ a vs, v = .ref a ∧ SqT K H a vs ∧ VRs ρ H ds vs
  | .fl ds, v => ∃ a vs, v = .ref a ∧ FrL K H a vs ∧ VRs ρ H ds vs
  | .ref n, v => ∃ a, ρ[n]? = some a ∧ v = .ref a
  | .opq u, v => v = u
def VRs (ρ : List Addr) (H : Hp) : List D → List V → Prop
  | [], vs => vs = []
  | d :: ds, vs => ∃ v r, vs = v :: r ∧ VR ρ H d v ∧ VRs ρ H ds r
end
end

/-- what never changes stands as before -/
structure Keep (H H' : Hp) : Prop where
  tup : ∀ a xs, H a = some (.tup xs) → H' a = some (.tup xs)
  frz : ∀ a o u, H a = some (.frz o u) → H' a = some (.frz o u)
theorem Keep.refl (H : Hp) : Keep H H := ⟨fun _ _ h => h, fun _ _ _ h => h⟩
theorem Keep.trans {H H1 H2 : Hp} (a : Keep H H1) (b : Keep H1 H2) : Keep H H2 := ⟨fun x y h => b.tup x y (a.tup x y h), fun x y z h => b.frz x y z (a.frz x y z h)⟩
structure Ext (ρ : List Addr) (H : Hp) (ρ' : List Addr) (H' : Hp) : Prop where
  pre : ρ <+: ρ'
  kp : Keep H H'
theorem Ext.refl (ρ : List Addr) (H : Hp) : Ext ρ H ρ H := ⟨List.prefix_refl _, .refl H⟩
theorem Ext.trans {ρ ρ1 ρ2 : List Addr} {H H1 H2 : Hp} (a : Ext ρ H ρ1 H1) (b : Ext ρ1 H1 ρ2 H2) : Ext ρ H ρ2 H2 := ⟨a.pre.trans b.pre, a.kp.trans b.kp⟩
theorem Ext.get {ρ ρ' : List Addr} {H H' : Hp} (e : Ext ρ H ρ' H') {n : Nat} {a : Addr} (h : ρ[n]? = some a) : ρ'[n]? = some a := by
  obtain ⟨t, rfl⟩ := e.pre
  have : n < ρ.length := (List.getElem?_eq_some_iff.mp h).1
  rw [List.getElem?_append_left this]; exact h
theorem Keep.sqt {K : PySem.W.Frag} {H H' : Hp} (k : Keep H H') {a : Addr} {xs : List V} (h : SqT K H a xs) : SqT K H' a xs := by
  rcases h with (h | ⟨o, h⟩) | h
  · exact .inl (.inl (k.tup _ _ h))
  · exact .inl (.inr ⟨o, k.frz _ _ _ h⟩)
  · exact .inr h
theorem Keep.frl {K : PySem.W.Frag} {H H' : Hp} (k : Keep H H') {a : Addr} {xs : List V} (h : FrL K H a xs) : FrL K H' a xs := by
  rcases h with ⟨o, h⟩ | h
  · exact .inl ⟨o, k.frz _ _ _ h⟩
  · exact .inr h
theorem FrL.sql {K : PySem.W.Frag} {H : Hp} {a : Addr} {xs : List V} (h : FrL K H a xs) : SqL K H a xs := by
  rcases h with ⟨o, h⟩ | h
  · exact .inl (.inr ⟨o, h⟩)
  · exact .inr h

section
variable {K : PySem.W.Frag} {ρ ρ' : List Addr} {H H' : Hp}
mutual
theorem VR.mono (e : Ext ρ H ρ' H') : ∀ {d : D} {v : V}, VR K ρ H d v → VR K ρ' H' d v
  | .non, v, h => by simpa [VR] using h
  | .bl b, v, h => by simpa [VR] using h
  | .int i, v, h => by simpa [VR] using h
  | .str x, v, h => by simpa [VR] using h
  | .opq u, v, h => by simpa [VR] using h
  | .tup ds, v, h => by
    unfold VR at h ⊢
    obtain ⟨a, vs, h1, h2, h3⟩ := h
    exact ⟨a, vs, h1, e.kp.sqt h2, VRs.mono e h3⟩
  | .fl ds, v, h => by
    unfold VR at h ⊢
    obtain ⟨a, vs, h1, h2, h3⟩ := h
    exact ⟨a, vs, h1, e.kp.frl h2, VRs.mono e h3⟩
  | .ref n, v, h => by
    unfold VR at h ⊢
    obtain ⟨a, h1, h2⟩ := h
    exact ⟨a, e.get h1, h2⟩
theorem VRs.mono (e : Ext ρ H ρ' H') : ∀ {ds : List D} {vs : List V}, VRs K ρ H ds vs → VRs K ρ' H' ds vs
  | [], vs, h => by simpa [VRs] using h
  | d :: ds, vs, h => by
    unfold VRs at h ⊢
    obtain ⟨v, r, h1, h2, h3⟩ := h
    exact ⟨v, r, h1, VR.mono e h2, VRs.mono e h3⟩
end
theorem VRs.nil : VRs K ρ H [] [] := by simp [VRs]
theorem VRs.cons {d : D} {v : V} {ds : List D} {vs : List V} (h : VR K ρ H d v) (t : VRs K ρ H ds vs) : VRs K ρ H (d :: ds) (v :: vs) := by
  unfold VRs; exact ⟨v, vs, rfl, h, t⟩
theorem VRs.cons_inv {d : D} {v : V} {ds : List D} {vs : List V} (h : VRs K ρ H (d :: ds) (v :: vs)) : VR K ρ H d v ∧ VRs K ρ H ds vs := by
  unfold VRs at h
  obtain ⟨a, b, e, h1, h2⟩ := h
  cases e
  exact ⟨h1, h2⟩
theorem VRs.cons_l {d : D} {ds : List D} {vs : List V} (h : VRs K ρ H (d :: ds) vs) : ∃ v r, vs = v :: r ∧ VR K ρ H d v ∧ VRs K ρ H ds r := by
  unfold VRs at h; exact h
theorem VRs.nil_l {vs : List V} (h : VRs K ρ H [] vs) : vs = [] := by unfold VRs at h; exact h
theorem VRs.length : ∀ {ds : List D} {vs : List V}, VRs K ρ H ds vs → ds.length = vs.length
  | [], vs, h => by rw [h.nil_l]; rfl
  | d :: ds, vs, h => by
    obtain ⟨v, r, rfl, _, h2⟩ := h.cons_l
    simp [VRs.length h2]
theorem VRs.get : ∀ {ds : List D} {vs : List V} {i : Nat} {d : D}, VRs K ρ H ds vs → ds[i]? = some d → ∃ v, vs[i]? = some v ∧ VR K ρ H d v
  | [], vs, i, d, h, e => by simp at e
  | d :: ds, vs, 0, d', h, e => by
    obtain ⟨v, r, rfl, h1, h2⟩ := h.cons_l
    simp at e; subst e
    exact ⟨v, rfl, h1⟩
  | d :: ds, vs, i + 1, d', h, e => by
    obtain ⟨v, r, rfl, h1, h2⟩ := h.cons_l
    simpa using VRs.get (i := i) h2 (by simpa using e)
theorem VRs.append : ∀ {ds es : List D} {vs ws : List V}, VRs K ρ H ds vs → VRs K ρ H es ws → VRs K ρ H (ds ++ es) (vs ++ ws)
  | [], es, vs, ws, h, t => by rw [h.nil_l]; exact t
  | d :: ds, es, vs, ws, h, t => by
    obtain ⟨v, r, rfl, h1, h2⟩ := h.cons_l
    exact .cons h1 (VRs.append h2 t)
theorem VRs.take : ∀ {ds : List D} {vs : List V} (n : Nat), VRs K ρ H ds vs → VRs K ρ H (ds.take n) (vs.take n)
  | ds, vs, 0, h => by simpa using VRs.nil
  | [], vs, n + 1, h => by rw [h.nil_l]; simpa using VRs.nil
  | d :: ds, vs, n + 1, h => by
    obtain ⟨v, r, rfl, h1, h2⟩ := h.cons_l
    exact .cons h1 (VRs.take n h2)
theorem VRs.drop : ∀ {ds : List D} {vs : List V} (n : Nat), VRs K ρ H ds vs → VRs K ρ H (ds.drop n) (vs.drop n)
  | ds, vs, 0, h => h
  | [], vs, n + 1, h => by rw [h.nil_l]; simpa using VRs.nil
  | d :: ds, vs, n + 1, h => by
    obtain ⟨v, r, rfl, h1, h2⟩ := h.cons_l
    exact VRs.drop n h2
theorem VRs.set : ∀ {ds : List D} {vs : List V} {d : D} {v : V} (i : Nat), VRs K ρ H ds vs → VR K ρ H d v → VRs K ρ H (ds.set i d) (vs.set i v)
  | [], vs, d, v, i, h, k => by rw [h.nil_l]; simpa using VRs.nil
  | e :: ds, vs, d, v, 0, h, k => by
    obtain ⟨v', r, rfl, h1, h2⟩ := h.cons_l
    exact .cons k h2
  | e :: ds, vs, d, v, i + 1, h, k => by
    obtain ⟨v', r, rfl, h1, h2⟩ := h.cons_l
    exact .cons h1 (VRs.set i h2 k)
theorem VRs.eraseIdx : ∀ {ds : List D} {vs : List V} (i : Nat), VRs K ρ H ds vs → VRs K ρ H (ds.eraseIdx i) (vs.eraseIdx i)
  | [], vs, i, h => by rw [h.nil_l]; simpa using VRs.nil
  | e :: ds, vs, 0, h => by
    obtain ⟨v', r, rfl, h1, h2⟩ := h.cons_l
    exact h2
  | e :: ds, vs, i + 1, h => by
    obtain ⟨v', r, rfl, h1, h2⟩ := h.cons_l
    exact .cons h1 (VRs.eraseIdx i h2)
theorem VRs.dropLast {ds : List D} {vs : List V} (h : VRs K ρ H ds vs) : VRs K ρ H ds.dropLast vs.dropLast := by
  rw [List.dropLast_eq_take, List.dropLast_eq_take, h.length]; exact h.take _
theorem VRs.insertIdx : ∀ {ds : List D} {vs : List V} {d : D} {v : V} (i : Nat), VRs K ρ H ds vs → VR K ρ H d v → VRs K ρ H (ds.insertIdx i d) (vs.insertIdx i v)
  | ds, vs, d, v, 0, h, k => by simpa using VRs.cons k h
  | [], vs, d, v, i + 1, h, k => by rw [h.nil_l]; simpa using VRs.nil
  | e :: ds, vs, d, v, i + 1, h, k => by
    obtain ⟨v', r, rfl, h1, h2⟩ := h.cons_l
    simpa using VRs.cons h1 (VRs.insertIdx i h2 k)
theorem VRs.reverse : ∀ {ds : List D} {vs : List V}, VRs K ρ H ds vs → VRs K ρ H ds.reverse vs.reverse
  | [], vs, h => by rw [h.nil_l]; simpa using VRs.nil
  | d :: ds, vs, h => by
    obtain ⟨v, r, rfl, h1, h2⟩ := h.cons_l
    rw [List.reverse_cons, List.reverse_cons]
    exact (VRs.reverse h2).append (.cons h1 .nil)
theorem VRs.ints : ∀ {ns : List Int} {vs : List V}, VRs K ρ H (ns.map D.int) vs → vs = ns.map V.int
  | [], vs, h => h.nil_l
  | n :: ns, vs, h => by
    obtain ⟨v, r, rfl, h1, h2⟩ := h.cons_l
    have : v = V.int n := by simpa [VR] using h1
    rw [this, VRs.ints h2]; rfl
theorem VRs.of_ints : ∀ (ns : List Int), VRs K ρ H (ns.map D.int) (ns.map V.int)
  | [] => .nil
  | n :: ns => .cons (by simp [VR]) (VRs.of_ints ns)
end

/-- names and values -/
def FR {α : Type} (K : PySem.W.Frag) (ρ : List Addr) (H : Hp) (fs : List (α × D)) (gs : List (α × V)) : Prop := fs.map (·.1) = gs.map (·.1) ∧ VRs K ρ H (fs.map (·.2)) (gs.map (·.2))
theorem FR.mono {α : Type} {K : PySem.W.Frag} {ρ ρ' : List Addr} {H H' : Hp} (e : Ext ρ H ρ' H') {fs : List (α × D)} {gs : List (α × V)} (h : FR K ρ H fs gs) : FR K ρ' H' fs gs := ⟨h.1, h.2.mono e⟩

/-- how an object of the store lies in the heap -/
def OR (K : PySem.W.Frag) (mg : Str → Option Value) (ρ : List Addr) (H : Hp) (a : Addr) : O → Prop
  | .lst ds => ∃ vs, H a = some (.lst vs) ∧ VRs K ρ H ds vs
  | .dk kvs => ∃ ws, H a = some (.dK ws) ∧ FR K ρ H kvs ws
  | .dt kvs => ∃ ws, H a = some (.dT ws) ∧ FR K ρ H kvs ws
  | .ins c fs => ∃ C dx gs, mg c = some (.ref C) ∧ H a = some (.ins C dx gs) ∧ FR K ρ H fs gs
theorem OR.mono {K : PySem.W.Frag} {mg : Str → Option Value} {ρ ρ' : List Addr} {H H' : Hp} {a : Addr} (e : Ext ρ H ρ' H') (ha : H' a = H a) : ∀ {o : O}, OR K mg ρ H a o → OR K mg ρ' H' a o
  | .lst ds, ⟨vs, h1, h2⟩ => ⟨vs, ha.trans h1, h2.mono e⟩
  | .dk kvs, ⟨ws, h1, h2⟩ => ⟨ws, ha.trans h1, h2.mono e⟩
  | .dt kvs, ⟨ws, h1, h2⟩ => ⟨ws, ha.trans h1, h2.mono e⟩
  | .ins c fs, ⟨C, dx, gs, h0, h1, h2⟩ => ⟨C, dx, gs, h0, ha.trans h1, h2.mono e⟩
theorem OR.some {K : PySem.W.Frag} {mg : Str → Option Value} {ρ : List Addr} {H : Hp} {a : Addr} : ∀ {o : O}, OR K mg ρ H a o → ∃ ho, H a = Option.some ho ∧ Mut (H a)
  | .lst ds, ⟨vs, h1, h2⟩ => ⟨_, h1, by rw [h1]; exact True.intro⟩
  | .dk kvs, ⟨ws, h1, h2⟩ => ⟨_, h1, by rw [h1]; exact True.intro⟩
  | .dt kvs, ⟨ws, h1, h2⟩ => ⟨_, h1, by rw [h1]; exact True.intro⟩
  | .ins c fs, ⟨C, dx, gs, h0, h1, h2⟩ => ⟨_, h1, by rw [h1]; exact True.intro⟩

structure Sim (K : PySem.W.Frag) (mg : Str → Option Value) (ρ : List Addr) (S : ST) (H : Hp) : Prop where
  nd : ρ.Nodup
  len : ρ.length = S.length
  obj : ∀ (n : Nat) (a : Addr) (o : O), ρ[n]? = some a → S[n]? = some o → OR K mg ρ H a o
section
variable {K : PySem.W.Frag} {mg : Str → Option Value} {ρ : List Addr} {S : ST} {H : Hp}
theorem Sim.addr (s : Sim K mg ρ S H) {n : Nat} {o : O} (h : S[n]? = some o) : ∃ a, ρ[n]? = some a ∧ OR K mg ρ H a o := by
  have hn : n < ρ.length := by rw [s.len]; exact (List.getElem?_eq_some_iff.mp h).1
  exact ⟨ρ[n], List.getElem?_eq_getElem hn, s.obj n _ o (List.getElem?_eq_getElem hn) h⟩
theorem Sim.ref (s : Sim K mg ρ S H) {n : Nat} {o : O} {v : V} (r : VR K ρ H (.ref n) v) (h : S[n]? = some o) : ∃ a, v = .ref a ∧ ρ[n]? = some a ∧ OR K mg ρ H a o := by
  unfold VR at r
  obtain ⟨a, h1, h2⟩ := r
  exact ⟨a, h2, h1, s.obj n a o h1 h⟩
theorem Sim.mem (s : Sim K mg ρ S H) {a : Addr} (h : a ∈ ρ) : ∃ ho, H a = some ho ∧ Mut (H a) := by
  obtain ⟨n, hn, e⟩ := List.getElem_of_mem h
  have hn' : n < S.length := by rw [← s.len]; exact hn
  exact (s.obj n a S[n] (by rw [List.getElem?_eq_getElem hn, e]) (List.getElem?_eq_getElem hn')).some
theorem Keep.new {p : Addr} {o : HO} (h : H p = none) : Keep H (upd H p o) :=
  ⟨fun a xs e => by rw [upd_ne (ne_of_none e h)]; exact e, fun a x u e => by rw [upd_ne (ne_of_none e h)]; exact e⟩
theorem Keep.write {p : Addr} {o : HO} (h : Mut (H p)) : Keep H (upd H p o) :=
  ⟨fun a xs e => by rw [upd_ne (fun z => by subst z; rw [e] at h; exact h)]; exact e, fun a x u e => by rw [upd_ne (fun z => by subst z; rw [e] at h; exact h)]; exact e⟩
/-- a new object that nobody of the store knows -/
theorem Sim.junk (s : Sim K mg ρ S H) {p : Addr} {o : HO} (h : H p = none) : Sim K mg ρ S (upd H p o) := by
  refine ⟨s.nd, s.len, fun n a ob h1 h2 => ?_⟩
  have q := s.obj n a ob h1 h2
  obtain ⟨ho, e, _⟩ := q.some
  exact q.mono ⟨List.prefix_refl _, .new h⟩ (upd_ne (ne_of_none e h))
theorem Sim.free (s : Sim K mg ρ S H) {p : Addr} (h : H p = none) : p ∉ ρ := fun z => by
  obtain ⟨ho, e, _⟩ := s.mem z
  rw [h] at e; cases e
theorem Ext.alloc {p : Addr} {o : HO} (h : H p = none) : Ext ρ H (ρ ++ [p]) (upd H p o) := ⟨List.prefix_append _ _, .new h⟩
theorem Sim.alloc (s : Sim K mg ρ S H) {p : Addr} {ho : HO} {o : O} (h : H p = none) (q : OR K mg (ρ ++ [p]) (upd H p ho) p o) : Sim K mg (ρ ++ [p]) (S ++ [o]) (upd H p ho) := by
  have hp := s.free h
  refine ⟨?_, by simp [s.len], fun n a ob h1 h2 => ?_⟩
  · rw [List.nodup_append]
    refine ⟨s.nd, by simp, fun a ha b hb => ?_⟩
    simp at hb; subst hb
    exact fun e => hp (e ▸ ha)
  · by_cases hn : n < ρ.length
    · rw [List.getElem?_append_left hn] at h1
      rw [List.getElem?_append_left (by rw [← s.len]; exact hn)] at h2
      have q := s.obj n a ob h1 h2
      obtain ⟨hh, e, _⟩ := q.some
      exact q.mono (.alloc h) (upd_ne (ne_of_none e h))
    · have hn' : ρ.length ≤ n := by omega
      rw [List.getElem?_append_right hn'] at h1
      rw [List.getElem?_append_right (by rw [← s.len]; exact hn')] at h2
      have e0 : n - ρ.length = 0 := by
        have := (List.getElem?_eq_some_iff.mp h1).1
        simp at this; omega
      rw [e0] at h1
      rw [← s.len, e0] at h2
      simp at h1 h2
      subst h1 h2
      exact q
theorem VR.alloc (s : Sim K mg ρ S H) {p : Addr} {ho : HO} : VR K (ρ ++ [p]) (upd H p ho) (.ref S.length) (.ref p) := by
  unfold VR
  exact ⟨p, by rw [← s.len]; simp, rfl⟩
theorem Sim.write (s : Sim K mg ρ S H) {n : Nat} {a : Addr} {ho : HO} {o : O} (h1 : ρ[n]? = some a) (hm : Mut (H a)) (q : OR K mg ρ (upd H a ho) a o) : Sim K mg ρ (S.set n o) (upd H a ho) := by
  refine ⟨s.nd, by simp [s.len], fun m b ob hb hs => ?_⟩
  by_cases e : n = m
  · subst e
    rw [h1] at hb; cases hb
    have hn : n < S.length := by rw [← s.len]; exact (List.getElem?_eq_some_iff.mp h1).1
    rw [List.getElem?_set_self hn] at hs
    cases hs
    exact q
  · rw [List.getElem?_set_ne e] at hs
    have q' := s.obj m b ob hb hs
    refine q'.mono ⟨List.prefix_refl _, .write hm⟩ (upd_ne ?_)
    intro z
    subst z
    have hn := (List.getElem?_eq_some_iff.mp h1)
    have hm' := (List.getElem?_eq_some_iff.mp hb)
    obtain ⟨l1, e1⟩ := hn
    obtain ⟨l2, e2⟩ := hm'
    exact e ((List.getElem_inj s.nd).mp (e1.trans e2.symm))
theorem Ext.write {a : Addr} {ho : HO} (hm : Mut (H a)) : Ext ρ H ρ (upd H a ho) := ⟨List.prefix_refl _, .write hm⟩
theorem Ext.junk {a : Addr} {ho : HO} (hm : H a = none) : Ext ρ H ρ (upd H a ho) := ⟨List.prefix_refl _, .new hm⟩
end

/-- the slots -/
structure GR (K : PySem.W.Frag) (ρ : List Addr) (H : Hp) (G : GE) (σ : St) : Prop where
  len : G.length = σ.length
  get : ∀ (i : Nat) (d : D), G[i]? = some (some d) → ∃ v, σ[i]? = some (some v) ∧ VR K ρ H d v
theorem GR.mono {K : PySem.W.Frag} {ρ ρ' : List Addr} {H H' : Hp} {G : GE} {σ : St} (g : GR K ρ H G σ) (e : Ext ρ H ρ' H') : GR K ρ' H' G σ :=
  ⟨g.len, fun i d h => let ⟨v, h1, h2⟩ := g.get i d h; ⟨v, h1, h2.mono e⟩⟩
theorem GR.set {K : PySem.W.Frag} {ρ : List Addr} {H : Hp} {G : GE} {σ : St} (g : GR K ρ H G σ) {d : D} {v : V} (i : Nat) (r : VR K ρ H d v) : GR K ρ H (G.set i (some d)) (σ.set i (some v)) := by
  refine ⟨by simp [g.len], fun j e h => ?_⟩
  by_cases hj : i = j
  · subst hj
    have hi : i < G.length := by
      have := (List.getElem?_eq_some_iff.mp h).1
      simpa using this
    rw [List.getElem?_set_self hi] at h
    cases h
    exact ⟨v, List.getElem?_set_self (by rw [← g.len]; exact hi), r⟩
  · rw [List.getElem?_set_ne hj] at h ⊢
    exact g.get j e h
def wipeG (G : GE) : List Nat → GE
  | [] => G
  | v :: vs => (wipeG G vs).set v none
theorem GR.wipe {K : PySem.W.Frag} {ρ : List Addr} {H : Hp} {G : GE} {σ : St} (g : GR K ρ H G σ) : ∀ vs : List Nat, GR K ρ H (wipeG G vs) (L2.wipe σ vs)
  | [] => g
  | v :: vs => by
    have q := GR.wipe g vs
    refine ⟨by simp [wipeG, L2.wipe, q.len], fun i d h => ?_⟩
    unfold wipeG at h
    by_cases hj : v = i
    · subst hj
      have hi : v < (wipeG G vs).length := by
        have := (List.getElem?_eq_some_iff.mp h).1
        simpa using this
      rw [List.getElem?_set_self hi] at h
      cases h
    · rw [List.getElem?_set_ne hj] at h
      unfold L2.wipe
      rw [List.getElem?_set_ne hj]
      exact q.get i d h

/-! ### ends -/
/-- how an exception of the mirror lies in the heap -/
def ExR (K : PySem.W.Frag) (mg : Str → Option Value) (ρ : List Addr) (H : Hp) (c : Str) (fs : List (Str × D)) (cls : Value) (dx : Option Addr) : Prop :=
  ∃ C, mg c = some (.ref C) ∧ cls = .ref C ∧ ((fs = [] ∧ dx = none) ∨ ∃ a gs, dx = some a ∧ H a = some (.xd gs) ∧ FR K ρ H fs gs)
def OutK {α β : Type} (K : PySem.W.Frag) (mg : Str → Option Value) (W : WX) (rel : List Addr → Hp → α → β → Prop) (ρ : List Addr) (σ : St) (H : Hp) (r : R α) (Q : β → Hp → Prop) : Prop := match r with
  | .ok d S' => ∀ ρ' H' v, Ext ρ H ρ' H' → Sim K mg ρ' S' H' → rel ρ' H' d v → Q v H'
  | .exc c fs S' => ∀ ρ' H' cls dx, Ext ρ H ρ' H' → Sim K mg ρ' S' H' → ExR K mg ρ' H' c fs cls dx → W cls dx σ H'
  | .bad => False
abbrev OutG {α β : Type} (X : Cx) (W : WX) (rel : List Addr → Hp → α → β → Prop) (ρ : List Addr) (σ : St) (H : Hp) (r : R α) (Q : β → Hp → Prop) : Prop := OutK X.K X.mg W rel ρ σ H r Q
def tG {α β : Type} (X : Cx) (W : WX) (rel : List Addr → Hp → α → β → Prop) (f : GE → ST → R α) (σ : St) (H : Hp) (Q : β → Hp → Prop) : Prop :=
  ∃ ρ G S, GR X.K ρ H G σ ∧ Sim X.K X.mg ρ S H ∧ OutG X W rel ρ σ H (f G S) Q
section
variable {X : Cx} {W : WX} {α β γ δ : Type} {rel : List Addr → Hp → α → β → Prop} {rel' : List Addr → Hp → γ → δ → Prop} {ρ ρ' : List Addr} {σ : St} {H H' : Hp}
theorem OutG.mono {r : R α} {Q Q' : β → Hp → Prop} (h : OutG X W rel ρ σ H r Q) (e : Ext ρ H ρ' H') (q : ∀ v H, Q v H → Q' v H) : OutG X W rel ρ' σ H' r Q' := by
  cases r with
  | ok d S => exact fun ρ2 H2 v e2 s2 r2 => q _ _ (h ρ2 H2 v (e.trans e2) s2 r2)
  | exc c fs S => exact fun ρ2 H2 cls dx e2 s2 r2 => h ρ2 H2 cls dx (e.trans e2) s2 r2
  | bad => exact h
theorem tG_mono {f : GE → ST → R α} {Q Q' : β → Hp → Prop} (h : tG X W rel f σ H Q) (q : ∀ v H, Q v H → Q' v H) : tG X W rel f σ H Q' := by
  obtain ⟨ρ, G, S, h1, h2, h3⟩ := h
  exact ⟨ρ, G, S, h1, h2, h3.mono (.refl _ _) q⟩
/-- one thing, then the rest -/
theorem tG_bind {f : GE → ST → R α} {g : α → GE → ST → R γ} {Q : δ → Hp → Prop} (h : tG X W rel' (fun G S => (f G S).bind fun a S1 => g a G S1) σ H Q) :
    tG X W rel f σ H fun x H1 => ∃ ρ G S a, GR X.K ρ H1 G σ ∧ Sim X.K X.mg ρ S H1 ∧ rel ρ H1 a x ∧ OutG X W rel' ρ σ H1 (g a G S) Q := by
  obtain ⟨ρ, G, S, h1, h2, h3⟩ := h
  refine ⟨ρ, G, S, h1, h2, ?_⟩
  dsimp only at h3
  cases e : f G S with
  | ok a S1 =>
    rw [e] at h3
    exact fun ρ1 H1 x e1 s1 r1 => ⟨ρ1, G, S1, a, h1.mono e1, s1, r1, OutG.mono (r := g a G S1) h3 e1 fun _ _ z => z⟩
  | exc c fs S1 =>
    rw [e] at h3
    exact h3
  | bad =>
    rw [e] at h3
    exact h3
/-- the same from what an end leaves -/
theorem out_tG {f : GE → ST → R α} {G : GE} {S : ST} {Q : β → Hp → Prop} (g : GR X.K ρ H G σ) (s : Sim X.K X.mg ρ S H) (h : OutG X W rel ρ σ H (f G S) Q) : tG X W rel f σ H Q := ⟨ρ, G, S, g, s, h⟩
theorem out_bind {f : R α} {g : α → ST → R γ} {Q : δ → Hp → Prop} (h : OutG X W rel' ρ σ H (f.bind g) Q) :
    OutG X W rel ρ σ H f fun x H1 => ∃ ρ1 S1 a, Ext ρ H ρ1 H1 ∧ Sim X.K X.mg ρ1 S1 H1 ∧ rel ρ1 H1 a x ∧ OutG X W rel' ρ1 σ H1 (g a S1) Q := by
  cases f with
  | ok a S1 => exact fun ρ1 H1 x e1 s1 r1 => ⟨ρ1, S1, a, e1, s1, r1, OutG.mono (r := g a S1) h e1 fun _ _ z => z⟩
  | exc c fs S1 => exact h
  | bad => exact h
end

abbrev rV (X : Cx) : List Addr → Hp → D → V → Prop := fun ρ H => VR X.K ρ H
abbrev rVs (X : Cx) : List Addr → Hp → List D → List V → Prop := fun ρ H => VRs X.K ρ H
abbrev rB : List Addr → Hp → Bool → Bool → Prop := fun _ _ a b => b = a
abbrev tE (X : Cx) (W : WX) (f : ME) : TE := tG X W (rV X) f
abbrev tA (X : Cx) (W : WX) (f : MA) : TA := tG X W (rVs X) f
abbrev tT (X : Cx) (W : WX) (f : MT) : TT := tG X W rB f
def OutS (X : Cx) (W : WX) (ρ : List Addr) (H : Hp) (r : RS) (Dn : Ends) : Prop := match r with
  | .nx G' S' => ∀ ρ' H' σ', Ext ρ H ρ' H' → Sim X.K X.mg ρ' S' H' → GR X.K ρ' H' G' σ' → Dn.nx σ' H'
  | .bk G' S' => ∀ ρ' H' σ', Ext ρ H ρ' H' → Sim X.K X.mg ρ' S' H' → GR X.K ρ' H' G' σ' → Dn.bk σ' H'
  | .ct G' S' => ∀ ρ' H' σ', Ext ρ H ρ' H' → Sim X.K X.mg ρ' S' H' → GR X.K ρ' H' G' σ' → Dn.ct σ' H'
  | .rt d S' => ∀ ρ' H' v, Ext ρ H ρ' H' → Sim X.K X.mg ρ' S' H' → VR X.K ρ' H' d v → Dn.rt v H'
  | .exc c fs G' S' => ∀ ρ' H' σ' cls dx, Ext ρ H ρ' H' → Sim X.K X.mg ρ' S' H' → GR X.K ρ' H' G' σ' → ExR X.K X.mg ρ' H' c fs cls dx → W cls dx σ' H'
  | .bad => False
def tS (X : Cx) (W : WX) (f : MS) : TS := fun Dn σ H => ∃ ρ G S, GR X.K ρ H G σ ∧ Sim X.K X.mg ρ S H ∧ OutS X W ρ H (f G S) Dn
theorem OutS.mono {X : Cx} {W : WX} {ρ ρ' : List Addr} {H H' : Hp} {r : RS} {Dn : Ends} (h : OutS X W ρ H r Dn) (e : Ext ρ H ρ' H') : OutS X W ρ' H' r Dn := by
  cases r with
  | nx G S => exact fun ρ2 H2 v e2 s2 r2 => h ρ2 H2 v (e.trans e2) s2 r2
  | bk G S => exact fun ρ2 H2 v e2 s2 r2 => h ρ2 H2 v (e.trans e2) s2 r2
  | ct G S => exact fun ρ2 H2 v e2 s2 r2 => h ρ2 H2 v (e.trans e2) s2 r2
  | rt d S => exact fun ρ2 H2 v e2 s2 r2 => h ρ2 H2 v (e.trans e2) s2 r2
  | exc c fs G S => exact fun ρ2 H2 v cls dx e2 s2 r2 => h ρ2 H2 v cls dx (e.trans e2) s2 r2
  | bad => exact h

abbrev DE (X : Cx) (W : WX) (e : Expr) (f : ME) : Prop := PE X e (tE X W f)
abbrev DT (X : Cx) (W : WX) (e : Expr) (f : MT) : Prop := PT X e (tT X W f)
abbrev DW (X : Cx) (W : WX) (e : Expr) (f : MT) : Prop := PW X e (tT X W f)
abbrev DA (X : Cx) (W : WX) (es : List Expr) (f : MA) : Prop := PA X es (tA X W f)
abbrev DS (X : Cx) (W : WX) (st : Stmt) (f : MS) : Prop := PS X st (tS X W f)
abbrev DSs (X : Cx) (W : WX) (st : List Stmt) (f : MS) : Prop := PSs X st (tS X W f)

theorem PE.weak {X : Cx} {e : Expr} {t t' : TE} (h : PE X e t) (i : ∀ σ H Q, t' σ H Q → t σ H Q) : PE X e t' := ⟨fun pins s σ H Q I q => h.run pins s σ H Q I (i σ H Q q)⟩
theorem PT.weak {X : Cx} {e : Expr} {t t' : TT} (h : PT X e t) (i : ∀ σ H Q, t' σ H Q → t σ H Q) : PT X e t' := ⟨fun pins s σ H Q I q => h.run pins s σ H Q I (i σ H Q q)⟩
theorem PW.weak {X : Cx} {e : Expr} {t t' : TT} (h : PW X e t) (i : ∀ σ H Q, t' σ H Q → t σ H Q) : PW X e t' := ⟨fun wh pins s σ H Q I q => h.run wh pins s σ H Q I (i σ H Q q)⟩
theorem PA.weak {X : Cx} {e : List Expr} {t t' : TA} (h : PA X e t) (i : ∀ σ H Q, t' σ H Q → t σ H Q) : PA X e t' := ⟨fun pos pins s σ H Q I q => h.run pos pins s σ H Q I (i σ H Q q)⟩
theorem PS.weak {X : Cx} {e : Stmt} {t t' : TS} (h : PS X e t) (i : ∀ D σ H, t' D σ H → t D σ H) : PS X e t' := ⟨fun pins s σ H D I q => h.run pins s σ H D I (i D σ H q)⟩
theorem PSs.weak {X : Cx} {e : List Stmt} {t t' : TS} (h : PSs X e t) (i : ∀ D σ H, t' D σ H → t D σ H) : PSs X e t' := ⟨fun pins s σ H D I q => h.run pins s σ H D I (i D σ H q)⟩
theorem PG.weak {X : Cx} {e : Expr} {t t' : TG} (h : PG X e t) (i : ∀ v σ H Q, t' v σ H Q → t v σ H Q) : PG X e t' := ⟨fun pins s σ H v u Q I r q => h.run pins s σ H v u Q I r (i v σ H Q q)⟩
theorem PGs.weak {X : Cx} {e : List Expr} {t t' : TGs} (h : PGs X e t) (i : ∀ v σ H Q, t' v σ H Q → t v σ H Q) : PGs X e t' := ⟨fun pins s σ H v u Q I r q => h.run pins s σ H v u Q I r (i v σ H Q q)⟩
theorem PE.orr {X : Cx} {e : Expr} {t t' : TE} (h : PE X e t) (h' : PE X e t') : PE X e (fun σ H Q => t σ H Q ∨ t' σ H Q) := ⟨fun pins s σ H Q I q => q.elim (h.run pins s σ H Q I) (h'.run pins s σ H Q I)⟩
theorem PS.orr {X : Cx} {e : Stmt} {t t' : TS} (h : PS X e t) (h' : PS X e t') : PS X e (fun D σ H => t D σ H ∨ t' D σ H) := ⟨fun pins s σ H Q I q => q.elim (h.run pins s σ H Q I) (h'.run pins s σ H Q I)⟩
end Mir

namespace Mir
open PySem L2
section
variable {K : PySem.W.Frag} {ρ : List Addr} {H : Hp} {v : V}
theorem VR_non : VR K ρ H .non v ↔ v = .non := by simp [VR]
theorem VR_bl {b} : VR K ρ H (.bl b) v ↔ v = .bl b := by simp [VR]
theorem VR_int {i} : VR K ρ H (.int i) v ↔ v = .int i := by simp [VR]
theorem VR_str {x} : VR K ρ H (.str x) v ↔ v = .str x := by simp [VR]
theorem VR_opq {x} : VR K ρ H (.opq x) v ↔ v = x := by simp [VR]
theorem VR_tup {ds} : VR K ρ H (.tup ds) v ↔ ∃ a vs, v = .ref a ∧ SqT K H a vs ∧ VRs K ρ H ds vs := by rw [VR]
theorem VR_fl {ds} : VR K ρ H (.fl ds) v ↔ ∃ a vs, v = .ref a ∧ FrL K H a vs ∧ VRs K ρ H ds vs := by rw [VR]
theorem VR_ref {n} : VR K ρ H (.ref n) v ↔ ∃ a, ρ[n]? = some a ∧ v = .ref a := by rw [VR]
end

/-! ### operations by values -/
/-- a two-place operation: f keeps what m says -/
def Op2 (X : Cx) (W : WX) (f : Value → Value → Sem Value) (m : D → D → C D) : Prop :=
  ∃ r : R2, OpR X f r ∧ ∀ (ρ : List Addr) (S : ST) (H : Hp) (σ : St) (d e : D) (x y : V) (Q : VK), Sim X.K X.mg ρ S H → VR X.K ρ H d x → VR X.K ρ H e y → OutG X W (rV X) ρ σ H (m d e S) Q → r x y H Q
def Op1 (X : Cx) (W : WX) (f : Value → Sem Value) (m : D → C D) : Prop :=
  ∃ r : V → Hp → VK → Prop, UnR X f r ∧ ∀ (ρ : List Addr) (S : ST) (H : Hp) (σ : St) (d : D) (x : V) (Q : VK), Sim X.K X.mg ρ S H → VR X.K ρ H d x → OutG X W (rV X) ρ σ H (m d S) Q → r x H Q
section
variable {X : Cx} {W : WX} {a b c : Expr} {fa fb fc : ME} {pos : Pos}

def e2 (m : D → D → C D) (fa fb : ME) : ME := fun G S => (fa G S).bind fun a S1 => (fb G S1).bind fun b S2 => m a b S2
def e1 (m : D → C D) (fa : ME) : ME := fun G S => (fa G S).bind fun a S1 => m a S1
theorem two {m : D → D → C D} {r : R2} {σ : St} {H : Hp} {Q : VK}
    (hr : ∀ (ρ : List Addr) (S : ST) (H : Hp) (σ : St) (d e : D) (x y : V) (Q : VK), Sim X.K X.mg ρ S H → VR X.K ρ H d x → VR X.K ρ H e y → OutG X W (rV X) ρ σ H (m d e S) Q → r x y H Q)
    (h : tE X W (e2 m fa fb) σ H Q) : tOp r (tE X W fa) (tE X W fb) σ H Q := by
  refine tG_mono (tG_bind (f := fa) (g := fun a G S1 => (fb G S1).bind fun b S2 => m a b S2) h) fun x H1 q => ?_
  obtain ⟨ρ, G, S, d, g, s, r1, o⟩ := q
  refine ⟨ρ, G, S, g, s, OutG.mono (out_bind (rel := rV X) o) (.refl _ _) fun y H2 q2 => ?_⟩
  obtain ⟨ρ2, S2, e, x2, s2, r2, o2⟩ := q2
  exact hr ρ2 S2 H2 σ d e x y Q s2 (VR.mono x2 r1) r2 o2
theorem one {m : D → C D} {r : V → Hp → VK → Prop} {σ : St} {H : Hp} {Q : VK}
    (hr : ∀ (ρ : List Addr) (S : ST) (H : Hp) (σ : St) (d : D) (x : V) (Q : VK), Sim X.K X.mg ρ S H → VR X.K ρ H d x → OutG X W (rV X) ρ σ H (m d S) Q → r x H Q)
    (h : tE X W (e1 m fa) σ H Q) : tUn r (tE X W fa) σ H Q := by
  refine tG_mono (tG_bind (f := fa) (g := fun a G S1 => m a S1) h) fun x H1 q => ?_
  obtain ⟨ρ, G, S, d, g, s, r1, o⟩ := q
  exact hr ρ S H1 σ d x Q s r1 o
theorem de_bin {op : Operator} {m : D → D → C D} (ho : Op2 X W (binaryOp op) m) (ha : DE X W a fa) (hb : DE X W b fb) : DE X W (.BinOp a op b pos) (e2 m fa fb) := by
  obtain ⟨r, h1, h2⟩ := ho
  exact PE.weak (pe_op h1 ha hb) fun σ H Q h => two h2 h
theorem de_un {op : UnaryOp} {m : D → C D} (ho : Op1 X W (unaryOp op) m) (ha : DE X W a fa) : DE X W (.UnaryOp op a pos) (e1 m fa) := by
  obtain ⟨r, h1, h2⟩ := ho
  exact PE.weak (pe_un h1 ha) fun σ H Q h => one h2 h
theorem de_cmp {op : CmpOp} {m : D → D → C D} (ho : Op2 X W (compareOp op) m) (ha : DE X W a fa) (hb : DE X W b fb) (hm : behindInMarks op b = false := by first | exact nomark _ (by decide) (by decide) | rfl) : DE X W (.Compare a [op] [b] pos) (e2 m fa fb) := by
  obtain ⟨r, h1, h2⟩ := ho
  exact PE.weak (pe_cmpR h1 ha hb hm) fun σ H Q h => two h2 h
/-- a truth value as a test -/
def tb (f : ME) : MT := fun G S => (f G S).bind fun d S1 => match d with | .bl b => .ok b S1 | _ => .bad
theorem tb_test {t : TE} {f : ME} {σ : St} {H : Hp} {Q : Bool → Hp → Prop} (ht : ∀ Q, tE X W f σ H Q → t σ H Q) (h : tT X W (tb f) σ H Q) : tTest t σ H Q := by
  refine ht _ (tG_mono (tG_bind (f := f) (g := fun d G S1 => match d with | .bl b => R.ok b S1 | _ => .bad) h) fun x H1 q => ?_)
  obtain ⟨ρ, G, S, d, g, s, r1, o⟩ := q
  cases d <;> first | exact o.elim | skip
  rename_i b
  exact ⟨b, VR_bl.mp r1, o ρ H1 b (.refl _ _) s rfl⟩
theorem dt_cmp {op : CmpOp} {m : D → D → C D} (ho : Op2 X W (compareOp op) m) (ha : DE X W a fa) (hb : DE X W b fb) (hm : behindInMarks op b = false := by first | exact nomark _ (by decide) (by decide) | rfl) : DT X W (.Compare a [op] [b] pos) (tb (e2 m fa fb)) := by
  obtain ⟨r, h1, h2⟩ := ho
  exact PT.weak (pt_cmpR h1 ha hb hm) fun σ H Q h => tb_test (fun Q h => two h2 h) h

/-! ### names, constants -/
def eV (i : Nat) : ME := fun G S => match G[i]? with | some (some d) => .ok d S | _ => .bad
def eC (d : D) : ME := fun _ S => .ok d S
theorem de_v (i : Nat) {x : Str} {pos : Pos} (hN : X.N[i]? = some x := by rfl) (hv : Vis X.env.scope x := by first | exact Or.inl rfl | exact Or.inr (Or.inl rfl) | exact Or.inr (Or.inr rfl)) (hd : (x == ("__debug__" : Str)) = false := by decide)
    (hcd : (x == ("__classdict__" : Str)) = false := by decide) : DE X W (.Name x pos) (eV i) := by
  refine PE.weak (pe_var hN hv hd hcd) fun σ H Q h => ?_
  obtain ⟨ρ, G, S, g, s, o⟩ := h
  unfold eV at o
  split at o
  · rename_i d e
    obtain ⟨v, e1, r⟩ := g.get i d e
    exact ⟨v, e1, o ρ H v (.refl _ _) s r⟩
  · exact o.elim
theorem eC_ok {d : D} {v : V} {σ : St} {H : Hp} {Q : VK} (r : ∀ ρ, VR X.K ρ H d v) (h : tE X W (eC d) σ H Q) : tC v σ H Q := by
  obtain ⟨ρ, G, S, g, s, o⟩ := h
  exact o ρ H v (.refl _ _) s (r ρ)
theorem de_int {i j} : DE X W (.Constant (.int i) j pos) (eC (.int i)) := PE.weak pe_int fun σ H Q h => eC_ok (fun ρ => VR_int.mpr rfl) h
theorem de_bl {b j} : DE X W (.Constant (.bool b) j pos) (eC (.bl b)) := PE.weak pe_bl fun σ H Q h => eC_ok (fun ρ => VR_bl.mpr rfl) h
theorem de_non {j} : DE X W (.Constant .none j pos) (eC .non) := PE.weak pe_non fun σ H Q h => eC_ok (fun ρ => VR_non.mpr rfl) h
theorem de_str {x j} : DE X W (.Constant (.str x) j pos) (eC (.str x)) := PE.weak pe_str fun σ H Q h => eC_ok (fun ρ => VR_str.mpr rfl) h
/-- a module's constant -/
theorem de_glob {x : Str} {d : D} {v : V} {u : Value} (hg : Gl X x) (hm : X.mg x = some u) (r : RelV v u) (hd : ∀ ρ H, VR X.K ρ H d v) (hdb : (x == ("__debug__" : Str)) = false := by decide) : DE X W (.Name x pos) (eC d) :=
  PE.weak (pe_glob hg hm r hdb) fun σ H Q h => eC_ok (fun ρ => hd ρ H) h

/-! ### numbers -/
def lim64 (i : Int) : Bool := decide (-18446744073709551616 < i) && decide (i < 18446744073709551616)
theorem lim64_iff {i : Int} : lim64 i = true ↔ (-(2 ^ 64) < i ∧ i < 2 ^ 64) := by simp [lim64]
def mI (g : Int → Int → Int) : D → D → C D := fun a b S => match a, b with | .int i, .int j => .ok (.int (g i j)) S | _, _ => .bad
def mIc (c : Int → Int → Bool) (g : Int → Int → Int) : D → D → C D := fun a b S => match a, b with | .int i, .int j => if c i j = true then .ok (.int (g i j)) S else .bad | _, _ => .bad
theorem op2_I {f : Value → Value → Sem Value} {g : Int → Int → Int} (h : OpR X f (rI0 fun i j => .int (g i j))) : Op2 X W f (mI g) := by
  refine ⟨_, h, fun ρ S H σ d e x y Q s r1 r2 o => ?_⟩
  unfold mI at o
  split at o
  · exact ⟨_, _, VR_int.mp r1, VR_int.mp r2, o ρ H _ (.refl _ _) s (VR_int.mpr rfl)⟩
  · exact o.elim
theorem op2_Ic {f : Value → Value → Sem Value} {P : Int → Int → Prop} {c : Int → Int → Bool} {g : Int → Int → Int} (h : OpR X f (rI P fun i j => .int (g i j))) (hc : ∀ i j, c i j = true → P i j) : Op2 X W f (mIc c g) := by
  refine ⟨_, h, fun ρ S H σ d e x y Q s r1 r2 o => ?_⟩
  unfold mIc at o
  split at o
  · split at o
    · rename_i k
      exact ⟨_, _, VR_int.mp r1, VR_int.mp r2, hc _ _ k, o ρ H _ (.refl _ _) s (VR_int.mpr rfl)⟩
    · exact o.elim
  · exact o.elim
def mSub : D → D → C D := mI fun i j => i - j
theorem op2_sub : Op2 X W (binaryOp .Sub) mSub := op2_I op_sub
theorem op2_isub : Op2 X W (inplaceOp .Sub) mSub := op2_I iop_sub
def cDiv (i j : Int) : Bool := decide (0 < j) && decide (j < 18446744073709551616)
def mFDiv : D → D → C D := mIc cDiv fun i j => i / j
theorem op2_fdiv : Op2 X W (binaryOp .FloorDiv) mFDiv := op2_Ic op_fdivW fun i j h => by
  simp [cDiv] at h
  exact wide_div (b := 64) h.1 (by omega) (by decide) (by decide)
def cMod (_ j : Int) : Bool := decide (0 < j)
def mMod : D → D → C D := mIc cMod fun i j => i % j
theorem op2_mod : Op2 X W (binaryOp .Mod) mMod := op2_Ic op_mod fun i j h => by simpa [cMod] using h
def cPow (i j : Int) : Bool := decide (0 ≤ j) && decide (j ≤ 1000000) && lim64 i
theorem cPow_ok {i j : Int} (h : cPow i j = true) : CPow i j := by
  simp [cPow, lim64] at h
  exact ⟨h.1.1, h.1.2, by omega⟩
def mPow : D → D → C D := mIc cPow fun i j => i ^ j.toNat
theorem op2_pow : Op2 X W (binaryOp .Pow) mPow := op2_Ic op_pow fun i j h => cPow_ok h
def mShl : D → D → C D := mIc cPow fun i j => i * 2 ^ j.toNat
theorem op2_shl : Op2 X W (binaryOp .LShift) mShl := op2_Ic op_shl fun i j h => cPow_ok h
def cNn (_ j : Int) : Bool := decide (0 ≤ j)
def mShr : D → D → C D := mIc cNn fun i j => i / 2 ^ j.toNat
theorem op2_shr : Op2 X W (binaryOp .RShift) mShr := op2_Ic op_shr fun i j h => by simpa [cNn] using h
def mAnd : D → D → C D := mI fun i j => Builtin.bitAnd i j
theorem op2_and : Op2 X W (binaryOp .BitAnd) mAnd := op2_I op_and
def mOr : D → D → C D := mI fun i j => Builtin.bitOr i j
theorem op2_or : Op2 X W (binaryOp .BitOr) mOr := op2_I op_or
def mXor : D → D → C D := mI fun i j => Builtin.bitXor i j
theorem op2_xor : Op2 X W (binaryOp .BitXor) mXor := op2_I op_xor
def mNeg : D → C D := fun a S => match a with | .int i => .ok (.int (-i)) S | _ => .bad
theorem op1_neg : Op1 X W (unaryOp .USub) mNeg := by
  refine ⟨_, un_neg, fun ρ S H σ d x Q s r1 o => ?_⟩
  unfold mNeg at o
  split at o
  · exact ⟨_, VR_int.mp r1, o ρ H _ (.refl _ _) s (VR_int.mpr rfl)⟩
  · exact o.elim

/-! ### + and * -/
def allocO (o : O) : C D := fun S => .ok (.ref S.length) (S ++ [o])
/-- a new object by the rule «for any free address» -/
theorem alloc_ok {ρ : List Addr} {S : ST} {H : Hp} {σ : St} {o : O} {ho : HO} {Q : VK} (s : Sim X.K X.mg ρ S H) (h : OutG X W (rV X) ρ σ H (allocO o S) Q)
    (q : ∀ p, H p = none → OR X.K X.mg (ρ ++ [p]) (upd H p ho) p o) : ∀ p, H p = none → Q (.ref p) (upd H p ho) := fun p hp =>
  h (ρ ++ [p]) _ _ (.alloc hp) (s.alloc hp (q p hp)) (VR.alloc s)
theorem alloc_lst {ρ : List Addr} {S : ST} {H : Hp} {σ : St} {ds : List D} {vs : List V} {Q : VK} (s : Sim X.K X.mg ρ S H) (h : OutG X W (rV X) ρ σ H (allocO (.lst ds) S) Q)
    (r : VRs X.K ρ H ds vs) : ∀ p, H p = none → Q (.ref p) (upd H p (.lst vs)) := alloc_ok s h fun p hp => ⟨vs, upd_same, r.mono (.alloc hp)⟩
/-- a new tuple -/
theorem new_tup {ρ : List Addr} {S : ST} {H : Hp} {σ : St} {ds : List D} {vs : List V} {Q : VK} (s : Sim X.K X.mg ρ S H) (h : OutG X W (rV X) ρ σ H (.ok (.tup ds) S) Q)
    (r : VRs X.K ρ H ds vs) : ∀ p, H p = none → Q (.ref p) (upd H p (.tup vs)) := fun p hp =>
  h ρ _ _ (.junk hp) (s.junk hp) (VR_tup.mpr ⟨p, vs, rfl, .inl (.inl upd_same), r.mono (.junk hp)⟩)
abbrev SZ : Nat := 16777216
def mAdd : D → D → C D := fun a b S => match a, b with
  | .int i, .int j => .ok (.int (i + j)) S
  | .str x, .str y => if x.length + y.length ≤ SZ then .ok (.str (x ++ y)) S else .bad
  | .tup xs, .tup ys => if xs.length + ys.length ≤ SZ then .ok (.tup (xs ++ ys)) S else .bad
  | .ref m, .ref n => match S[m]?, S[n]? with
    | some (.lst xs), some (.lst ys) => if xs.length + ys.length ≤ SZ then allocO (.lst (xs ++ ys)) S else .bad
    | _, _ => .bad
  | .int i, .bl k => .ok (.int (i + if k then 1 else 0)) S
  | _, _ => .bad
theorem op2_add : Op2 X W (binaryOp .Add) mAdd := by
  refine ⟨_, op_add.or (op_add_str.or (op_catA.or (op_cat.or op_add_ib))), fun ρ S H σ d e x y Q s r1 r2 o => ?_⟩
  unfold mAdd at o
  split at o
  · exact .inl ⟨_, _, VR_int.mp r1, VR_int.mp r2, o ρ H _ (.refl _ _) s (VR_int.mpr rfl)⟩
  · split at o
    · rename_i k
      exact .inr (.inl ⟨_, _, VR_str.mp r1, VR_str.mp r2, by rw [sizeLine_eq]; exact k, o ρ H _ (.refl _ _) s (VR_str.mpr rfl)⟩)
    · exact o.elim
  · split at o
    · rename_i xs ys k
      obtain ⟨a, vs, e1, q1, v1⟩ := VR_tup.mp r1
      obtain ⟨b, ws, e2, q2, v2⟩ := VR_tup.mp r2
      refine .inr (.inr (.inl ⟨a, b, vs, ws, e1, e2, q1, q2, ?_, fun z => ?_, fun z1 z2 => ?_, fun z1 z2 => new_tup s o (v1.append v2)⟩))
      · rw [sizeLine_eq, ← v1.length, ← v2.length]; exact k
      · subst z
        refine o ρ H _ (.refl _ _) s (VR_tup.mpr ⟨b, _, rfl, q2, ?_⟩)
        have := v1.length
        have hx : xs = [] := List.length_eq_zero_iff.mp (by simpa using this)
        rw [hx]; exact v2
      · subst z2
        refine o ρ H _ (.refl _ _) s (VR_tup.mpr ⟨a, _, rfl, q1, ?_⟩)
        have := v2.length
        have hx : ys = [] := List.length_eq_zero_iff.mp (by simpa using this)
        rw [hx, List.append_nil]; exact v1
    · exact o.elim
  · rename_i m n
    split at o
    · rename_i xs ys h1 h2
      split at o
      · rename_i k
        obtain ⟨a, e1, p1, vs, w1, v1⟩ := s.ref r1 h1
        obtain ⟨b, e2, p2, ws, w2, v2⟩ := s.ref r2 h2
        refine .inr (.inr (.inr (.inl ⟨a, b, vs, ws, e1, e2, w1, w2, ?_, alloc_lst s o (v1.append v2)⟩)))
        rw [sizeLine_eq, ← v1.length, ← v2.length]; exact k
      · exact o.elim
    · exact o.elim
  · exact .inr (.inr (.inr (.inr ⟨_, _, VR_int.mp r1, VR_bl.mp r2, o ρ H _ (.refl _ _) s (VR_int.mpr rfl)⟩)))
  · exact o.elim
theorem op_add_bi : OpR X (inplaceOp .Add) (rI0 fun i j => .int (i + j)) := iop_add
def mIAdd : D → D → C D := fun a b S => match a, b with
  | .int i, .int j => .ok (.int (i + j)) S
  | .str x, .str y => if x.length + y.length ≤ SZ then .ok (.str (x ++ y)) S else .bad
  | .ref m, .ref n => match S[m]?, S[n]? with
    | some (.lst xs), some (.lst ys) => if xs.length + ys.length ≤ SZ then .ok (.ref m) (S.set m (.lst (xs ++ ys))) else .bad
    | _, _ => .bad
  | _, _ => .bad
theorem op2_iadd : Op2 X W (inplaceOp .Add) mIAdd := by
  refine ⟨_, iop_add.or (iop_add_str.or iop_ext), fun ρ S H σ d e x y Q s r1 r2 o => ?_⟩
  unfold mIAdd at o
  split at o
  · exact .inl ⟨_, _, VR_int.mp r1, VR_int.mp r2, o ρ H _ (.refl _ _) s (VR_int.mpr rfl)⟩
  · split at o
    · rename_i k
      exact .inr (.inl ⟨_, _, VR_str.mp r1, VR_str.mp r2, by rw [sizeLine_eq]; exact k, o ρ H _ (.refl _ _) s (VR_str.mpr rfl)⟩)
    · exact o.elim
  · rename_i m n
    split at o
    · rename_i xs ys h1 h2
      split at o
      · rename_i k
        obtain ⟨a, e1, p1, vs, w1, v1⟩ := s.ref r1 h1
        obtain ⟨b, e2, p2, ws, w2, v2⟩ := s.ref r2 h2
        refine .inr (.inr ⟨a, b, vs, ws, e1, e2, w1, w2, ?_, ?_⟩)
        · rw [sizeLine_eq, ← v1.length, ← v2.length]; exact k
        · have hm : Mut (H a) := by rw [w1]; exact True.intro
          refine o ρ _ _ (.write hm) (s.write p1 hm ⟨_, upd_same, (v1.append v2).mono (.write hm)⟩) (VR_ref.mpr ⟨a, p1, rfl⟩)
      · exact o.elim
    · exact o.elim
  · exact o.elim
def mMul : D → D → C D := fun a b S => match a, b with
  | .int i, .int j => if (lim64 i || lim64 j) = true then .ok (.int (i * j)) S else .bad
  | .ref m, .int k => match S[m]? with
    | some (.lst xs) => if 0 ≤ k ∧ k < 16777217 ∧ xs.length * k.toNat ≤ SZ then allocO (.lst (List.replicate k.toNat xs).flatten) S else .bad
    | _ => .bad
  | _, _ => .bad
theorem VRs.rep {K : PySem.W.Frag} {ρ : List Addr} {H : Hp} {ds : List D} {vs : List V} (h : VRs K ρ H ds vs) : ∀ k : Nat, VRs K ρ H (List.replicate k ds).flatten (List.replicate k vs).flatten
  | 0 => by simpa using VRs.nil
  | k + 1 => by rw [List.replicate_succ, List.replicate_succ, List.flatten_cons, List.flatten_cons]; exact h.append (VRs.rep h k)
theorem op2_mul : Op2 X W (binaryOp .Mult) mMul := by
  refine ⟨_, op_mul.or op_rep, fun ρ S H σ d e x y Q s r1 r2 o => ?_⟩
  unfold mMul at o
  split at o
  · split at o
    · rename_i k
      rw [Bool.or_eq_true, lim64_iff, lim64_iff] at k
      exact .inl ⟨_, _, VR_int.mp r1, VR_int.mp r2, k, o ρ H _ (.refl _ _) s (VR_int.mpr rfl)⟩
    · exact o.elim
  · rename_i m k
    split at o
    · rename_i xs h1
      split at o
      · rename_i c
        obtain ⟨a, e1, p1, vs, w1, v1⟩ := s.ref r1 h1
        refine .inr ⟨a, k, vs, e1, VR_int.mp r2, w1, by omega, by omega, ?_, alloc_lst s o (v1.rep _)⟩
        rw [sizeLine_eq, ← v1.length]; exact c.2.2
      · exact o.elim
    · exact o.elim
  · exact o.elim

/-! ### comparisons of numbers and texts -/
def mCmp (p : Int → Int → Bool) (q : List Nat → List Nat → Bool) : D → D → C D := fun a b S => match a, b with
  | .int i, .int j => .ok (.bl (p i j)) S
  | .str x, .str y => .ok (.bl (q x.cps.toList y.cps.toList)) S
  | _, _ => .bad
theorem op2_cmp {f : Value → Value → Sem Value} {p : Int → Int → Bool} {q : List Nat → List Nat → Bool} (h : OpR X f (rI0 fun i j => .bl (p i j))) (h' : OpR X f (fun x y H Q => ∃ i j, x = .str i ∧ y = .str j ∧ Q (.bl (q i.cps.toList j.cps.toList)) H)) : Op2 X W f (mCmp p q) := by
  refine ⟨_, h.or h', fun ρ S H σ d e x y Q s r1 r2 o => ?_⟩
  unfold mCmp at o
  split at o
  · exact .inl ⟨_, _, VR_int.mp r1, VR_int.mp r2, o ρ H _ (.refl _ _) s (VR_bl.mpr rfl)⟩
  · exact .inr ⟨_, _, VR_str.mp r1, VR_str.mp r2, o ρ H _ (.refl _ _) s (VR_bl.mpr rfl)⟩
  · exact o.elim
def mLt : D → D → C D := mCmp (fun i j => decide (i < j)) fun x y => decide (x < y)
def mLe : D → D → C D := mCmp (fun i j => decide (i ≤ j)) fun x y => !decide (y < x)
def mGt : D → D → C D := mCmp (fun i j => decide (j < i)) fun x y => decide (y < x)
def mGe : D → D → C D := mCmp (fun i j => decide (j ≤ i)) fun x y => !decide (x < y)
theorem op2_lt : Op2 X W (compareOp .Lt) mLt := op2_cmp op_lt op_lt_str
theorem op2_le : Op2 X W (compareOp .LtE) mLe := op2_cmp op_le op_le_str
theorem op2_gt : Op2 X W (compareOp .Gt) mGt := op2_cmp op_gt op_gt_str
theorem op2_ge : Op2 X W (compareOp .GtE) mGe := op2_cmp op_ge op_ge_str

/-! ### == -/
mutual
def D.py : D → Option PyData
  | .non => some .none
  | .bl b => some (.bool b)
  | .int i => some (.int i)
  | .str x => some (.str x)
  | .tup ds => (D.pys ds).map .tuple
  | .fl ds => (D.pys ds).map .list
  | .ref _ => none
  | .opq _ => none
def D.pys : List D → Option (List PyData)
  | [] => some []
  | d :: ds => match D.py d, D.pys ds with | some p, some ps => some (p :: ps) | _, _ => none
end
/-- one list deep in the store -/
def D.pyS (S : ST) : D → Option PyData
  | .ref n => match S[n]? with | some (.lst ds) => (D.pys ds).map .list | _ => none
  | d => d.py
section
variable {ρ : List Addr} {H : Hp}
mutual
theorem VR.dp {K : PySem.W.Frag} : ∀ {d : D} {v : V} {p : PyData}, VR K ρ H d v → d.py = some p → Dp K H v p
  | .non, v, p, h, e => by rw [VR_non] at h; subst h; simp [D.py] at e; subst e; exact .non
  | .bl b, v, p, h, e => by rw [VR_bl] at h; subst h; simp [D.py] at e; subst e; exact .bl _
  | .int i, v, p, h, e => by rw [VR_int] at h; subst h; simp [D.py] at e; subst e; exact .int _
  | .str x, v, p, h, e => by rw [VR_str] at h; subst h; simp [D.py] at e; subst e; exact .str _
  | .tup ds, v, p, h, e => by
    obtain ⟨a, vs, rfl, q, r⟩ := VR_tup.mp h
    simp [D.py] at e
    obtain ⟨ps, e1, rfl⟩ := e
    exact .tup q (VRs.dp r e1)
  | .fl ds, v, p, h, e => by
    obtain ⟨a, vs, rfl, q, r⟩ := VR_fl.mp h
    simp [D.py] at e
    obtain ⟨ps, e1, rfl⟩ := e
    exact .lst q.sql (VRs.dp r e1)
  | .ref n, v, p, h, e => by simp [D.py] at e
  | .opq x, v, p, h, e => by simp [D.py] at e
theorem VRs.dp {K : PySem.W.Frag} : ∀ {ds : List D} {vs : List V} {ps : List PyData}, VRs K ρ H ds vs → D.pys ds = some ps → DpAll K H vs ps
  | [], vs, ps, h, e => by
    rw [h.nil_l]
    simp [D.pys] at e; subst e
    exact .nil
  | d :: ds, vs, ps, h, e => by
    obtain ⟨v, r, rfl, h1, h2⟩ := h.cons_l
    unfold D.pys at e
    split at e
    · rename_i p ps' e1 e2
      cases e
      exact .cons (VR.dp h1 e1) (VRs.dp h2 e2)
    · cases e
end
theorem VR.dpS {K : PySem.W.Frag} {mg : Str → Option Value} {S : ST} (s : Sim K mg ρ S H) {d : D} {v : V} {p : PyData} (h : VR K ρ H d v) (e : d.pyS S = some p) : Dp K H v p := by
  cases d with
  | ref n =>
    unfold D.pyS at e
    dsimp only at e
    split at e
    · rename_i ds h1
      obtain ⟨a, rfl, p1, vs, w1, v1⟩ := s.ref h h1
      simp at e
      obtain ⟨ps, e1, rfl⟩ := e
      exact .lst (SqL.of w1) (v1.dp e1)
    · cases e
  | _ => exact VR.dp h e
end
def mEqB (a b : D) (S : ST) : Option Bool := match a, b with
  | .int i, .int j => some (decide (i = j))
  | .str x, .str y => some (decide (x = y))
  | .bl x, .bl y => some (decide (x = y))
  | _, _ => match a.pyS S, b.pyS S with
    | some p, some q => if (SeqAt.shaped p && SeqAt.shaped q) = true then some (PyData.eqv p q) else none
    | _, _ => none
def mEq : D → D → C D := fun a b S => match mEqB a b S with | some k => .ok (.bl k) S | none => .bad
def mNe : D → D → C D := fun a b S => match mEqB a b S with | some k => .ok (.bl (!k)) S | none => .bad
theorem op2_eqs {f : Value → Value → Sem Value} {g : Bool → Bool} (h1 : OpR X f (fun x y H Q => scal x y = true ∧ Q (.bl (g (decide (x = y)))) H))
    (h2 : OpR X f (fun x y H Q => ∃ d e, Dp X.K H x d ∧ Dp X.K H y e ∧ SeqAt.shaped d = true ∧ SeqAt.shaped e = true ∧ Q (.bl (g (PyData.eqv d e))) H)) : Op2 X W f (fun a b S => match mEqB a b S with | some k => .ok (.bl (g k)) S | none => .bad) := by
  refine ⟨_, h1.or h2, fun ρ S H σ d e x y Q s r1 r2 o => ?_⟩
  dsimp only at o
  split at o
  · rename_i k hk
    unfold mEqB at hk
    split at hk
    · rename_i i j
      cases hk
      rw [VR_int] at r1 r2; subst r1 r2
      refine .inl ⟨rfl, ?_⟩
      have := o ρ H _ (.refl _ _) s (VR_bl.mpr rfl)
      rwa [show decide (V.int i = V.int j) = decide (i = j) by simp]
    · rename_i i j
      cases hk
      rw [VR_str] at r1 r2; subst r1 r2
      refine .inl ⟨rfl, ?_⟩
      have := o ρ H _ (.refl _ _) s (VR_bl.mpr rfl)
      rwa [show decide (V.str i = V.str j) = decide (i = j) by simp]
    · rename_i i j
      cases hk
      rw [VR_bl] at r1 r2; subst r1 r2
      refine .inl ⟨rfl, ?_⟩
      have := o ρ H _ (.refl _ _) s (VR_bl.mpr rfl)
      rwa [show decide (V.bl i = V.bl j) = decide (i = j) by simp]
    · split at hk
      · rename_i p q e1 e2
        split at hk
        · rename_i c
          rw [Bool.and_eq_true] at c
          cases hk
          exact .inr ⟨p, q, VR.dpS s r1 e1, VR.dpS s r2 e2, c.1, c.2, o ρ H _ (.refl _ _) s (VR_bl.mpr rfl)⟩
        · cases hk
      · cases hk
  · exact o.elim
theorem op2_eq (hu : X.A.units + 64 < cLine) : Op2 X W (compareOp .Eq) mEq := op2_eqs (g := id) op_eq (op_eqD hu)
theorem op2_ne (hu : X.A.units + 64 < cLine) : Op2 X W (compareOp .NotEq) mNe := op2_eqs (g := not) op_ne (op_neD hu)

/-! ### is -/
def mIsB (a b : D) : Option Bool := match b, a with
  | .bl y, .bl x => some (decide (x = y))
  | .non, .non => some true
  | .non, .opq _ => none
  | .non, _ => some false
  | _, _ => none
def mIs : D → D → C D := fun a b S => match mIsB a b with | some k => .ok (.bl k) S | none => .bad
def mIsNot : D → D → C D := fun a b S => match mIsB a b with | some k => .ok (.bl (!k)) S | none => .bad
theorem VR.nonD {K : PySem.W.Frag} {ρ : List Addr} {H : Hp} {d : D} {v : V} (h : VR K ρ H d v) (hd : d ≠ .non) (ho : ∀ u, d ≠ .opq u) : v ≠ .non := by
  cases d with
  | non => exact absurd rfl hd
  | bl b => rw [VR_bl] at h; subst h; intro z; cases z
  | int b => rw [VR_int] at h; subst h; intro z; cases z
  | str b => rw [VR_str] at h; subst h; intro z; cases z
  | tup b => obtain ⟨a, vs, rfl, _⟩ := VR_tup.mp h; intro z; cases z
  | fl b => obtain ⟨a, vs, rfl, _⟩ := VR_fl.mp h; intro z; cases z
  | ref b => obtain ⟨a, _, rfl⟩ := VR_ref.mp h; intro z; cases z
  | opq u => exact absurd rfl (ho u)
theorem op2_iss {f : Value → Value → Sem Value} {g : Bool → Bool} (h1 : OpR X f (fun x y H Q => ∃ a b, x = .bl a ∧ y = .bl b ∧ Q (.bl (g (decide (a = b)))) H))
    (h2 : OpR X f (fun x y H Q => y = .non ∧ Q (.bl (g (decide (x = .non)))) H)) : Op2 X W f (fun a b S => match mIsB a b with | some k => .ok (.bl (g k)) S | none => .bad) := by
  refine ⟨_, h1.or h2, fun ρ S H σ d e x y Q s r1 r2 o => ?_⟩
  dsimp only at o
  split at o
  · rename_i k hk
    have o' := o ρ H _ (.refl _ _) s (VR_bl.mpr rfl)
    unfold mIsB at hk
    split at hk
    · cases hk
      exact .inl ⟨_, _, VR_bl.mp r1, VR_bl.mp r2, o'⟩
    · cases hk
      rw [VR_non] at r1 r2; subst r1 r2
      exact .inr ⟨rfl, o'⟩
    · cases hk
    · rename_i n1 n2
      cases hk
      refine .inr ⟨VR_non.mp r2, ?_⟩
      rwa [decide_eq_false (VR.nonD r1 n1 n2)]
    · cases hk
  · exact o.elim
theorem op2_is : Op2 X W (compareOp .Is) mIs := op2_iss (g := id) op_is_bl op_isN
theorem op2_isNot : Op2 X W (compareOp .IsNot) mIsNot := op2_iss (g := not) op_isnot_bl op_notN
end
end Mir

namespace Mir
open PySem L2
section
variable {X : Cx} {W : WX} {a b c : Expr} {fa fb fc : ME} {pos : Pos}

/-! ### sequences -/
/-- the items of a list or tuple -/
def D.items (S : ST) : D → Option (List D)
  | .tup ds => some ds
  | .fl ds => some ds
  | .ref n => match S[n]? with | some (.lst ds) => some ds | _ => none
  | _ => none
theorem items_ok {ρ : List Addr} {S : ST} {H : Hp} {d : D} {v : V} {ds : List D} (s : Sim X.K X.mg ρ S H) (r : VR X.K ρ H d v) (h : d.items S = some ds) :
    ∃ p vs, v = .ref p ∧ (SqL X.K H p vs ∨ SqT X.K H p vs) ∧ VRs X.K ρ H ds vs := by
  unfold D.items at h
  split at h
  · cases h
    obtain ⟨p, vs, e, q, r⟩ := VR_tup.mp r
    exact ⟨p, vs, e, .inr q, r⟩
  · cases h
    obtain ⟨p, vs, e, q, r⟩ := VR_fl.mp r
    exact ⟨p, vs, e, .inl q.sql, r⟩
  · split at h
    · rename_i h1
      cases h
      obtain ⟨p, e, p1, vs, w1, v1⟩ := s.ref r h1
      exact ⟨p, vs, e, .inl (SqL.of w1), v1⟩
    · cases h
  · cases h

/-! ### in -/
def D.flat : D → Bool
  | .non => true | .bl _ => true | .int _ => true | .str _ => true | _ => false
def D.toV : D → V
  | .non => .non | .bl b => .bl b | .int i => .int i | .str x => .str x | _ => .non
def eqF : D → D → Bool
  | .int i, .int j => decide (i = j)
  | .str x, .str y => decide (x = y)
  | .bl x, .bl y => decide (x = y)
  | .non, .non => true
  | .bl x, .int j => decide ((if x then 1 else 0) = j)
  | .int i, .bl y => decide (i = if y then 1 else 0)
  | _, _ => false
theorem VR.flat {K : PySem.W.Frag} {ρ : List Addr} {H : Hp} {d : D} {v : V} (h : VR K ρ H d v) (f : d.flat = true) : v = d.toV ∧ flatV v = true := by
  cases d <;> first | (simp [D.flat] at f; done) | skip
  · rw [VR_non] at h; subst h; exact ⟨rfl, rfl⟩
  · rw [VR_bl] at h; subst h; exact ⟨rfl, rfl⟩
  · rw [VR_int] at h; subst h; exact ⟨rfl, rfl⟩
  · rw [VR_str] at h; subst h; exact ⟨rfl, rfl⟩
theorem VRs.flat {K : PySem.W.Frag} {ρ : List Addr} {H : Hp} : ∀ {ds : List D} {vs : List V}, VRs K ρ H ds vs → ds.all D.flat = true → vs = ds.map D.toV ∧ vs.all flatV = true
  | [], vs, h, f => by rw [h.nil_l]; exact ⟨rfl, rfl⟩
  | d :: ds, vs, h, f => by
    obtain ⟨v, r, rfl, h1, h2⟩ := h.cons_l
    rw [List.all_cons, Bool.and_eq_true] at f
    obtain ⟨e1, e2⟩ := h1.flat f.1
    obtain ⟨e3, e4⟩ := VRs.flat h2 f.2
    refine ⟨by rw [List.map_cons, ← e1, ← e3], by rw [List.all_cons, e2, e4]; rfl⟩
theorem eqV_toV {d e : D} (f : d.flat = true) (g : e.flat = true) : eqV d.toV e.toV = eqF d e := by
  cases d <;> first | (simp [D.flat] at f; done) | skip
  all_goals (cases e <;> first | (simp [D.flat] at g; done) | skip)
  all_goals first | rfl | (simp [D.toV, eqV, eqF, Bool.beq_eq_decide_eq])
theorem inV_toV {d : D} (f : d.flat = true) : ∀ {ds : List D}, ds.all D.flat = true → inV d.toV (ds.map D.toV) = ds.any fun y => eqF y d
  | [], _ => rfl
  | e :: ds, g => by
    rw [List.all_cons, Bool.and_eq_true] at g
    have ih := inV_toV f g.2
    unfold inV at ih ⊢
    rw [List.map_cons, List.any_cons, List.any_cons, ih, eqV_toV g.1 f]
def look {κ α : Type} [DecidableEq κ] (kvs : List (κ × α)) (k : κ) : Option α := (kvs.find? fun kv => decide (kv.1 = k)).map (·.2)
def VRo (K : PySem.W.Frag) (ρ : List Addr) (H : Hp) : Option D → Option V → Prop
  | some d, some v => VR K ρ H d v
  | none, none => True
  | _, _ => False
theorem FR.look {κ : Type} [DecidableEq κ] {K : PySem.W.Frag} {ρ : List Addr} {H : Hp} : ∀ {kvs : List (κ × D)} {ws : List (κ × V)} (k : κ), FR K ρ H kvs ws →
    VRo K ρ H (Mir.look kvs k) (valV ws k)
  | [], ws, k, h => by
    have : ws = [] := by
      have := h.1
      cases ws with
      | nil => rfl
      | cons _ _ => simp at this
    subst this
    simp [Mir.look, valV, VRo]
  | (j, d) :: kvs, [], k, h => by
    have := h.1
    simp at this
  | (j, d) :: kvs, (j', v) :: ws, k, h => by
    obtain ⟨h1, h2⟩ := h
    simp only [List.map_cons, List.cons.injEq] at h1 h2
    obtain ⟨rfl, h1⟩ := h1
    obtain ⟨r1, r2⟩ := h2.cons_inv
    by_cases e : j = k
    · subst e
      simp [Mir.look, valV, List.find?_cons]
      exact r1
    · have ih := FR.look (kvs := kvs) (ws := ws) k ⟨h1, r2⟩
      have e1 : Mir.look ((j, d) :: kvs) k = Mir.look kvs k := by simp [Mir.look, List.find?_cons, e]
      rw [e1, valV_neg e]
      exact ih
def D.key : D → Option Key
  | .int i => some (.inl i)
  | .str x => some (.inr x)
  | _ => none
theorem VR.key {K : PySem.W.Frag} {ρ : List Addr} {H : Hp} {d : D} {v : V} {k : Key} (h : VR K ρ H d v) (e : d.key = some k) : v = kV k := by
  unfold D.key at e
  split at e
  · cases e; exact VR_int.mp h
  · cases e; exact VR_str.mp h
  · cases e
/-- what a dict holds -/
def D.isDict (S : ST) : D → Bool
  | .ref n => match S[n]? with | some (.dk _) => true | some (.dt _) => true | _ => false
  | _ => false
def dGet (S : ST) (d k : D) : Option (Option D) := match d with
  | .ref n => match S[n]? with
    | some (.dk kvs) => k.key.map fun k => look kvs k
    | _ => none
  | _ => none
theorem dGet_ok {ρ : List Addr} {S : ST} {H : Hp} {d k : D} {v u : V} {o : Option D} (s : Sim X.K X.mg ρ S H) (r : VR X.K ρ H d v) (rk : VR X.K ρ H k u) (h : dGet S d k = some o) :
    ∃ a w, v = .ref a ∧ DGet H a u w ∧ VRo X.K ρ H o w := by
  cases d with
  | ref n =>
    unfold dGet at h
    dsimp only at h
    split at h
    · rename_i h1
      obtain ⟨a, e, p1, ws, w1, v1⟩ := s.ref r h1
      simp only [Option.map_eq_some_iff] at h
      obtain ⟨k', e1, rfl⟩ := h
      have e2 := rk.key e1
      subst e2
      exact ⟨a, _, e, DGet.k w1, v1.look k'⟩
    · cases h
  | _ => cases h
def inB (S : ST) (a b : D) : Option Bool := match b with
  | .str z => match a with
    | .str x => if x.cps.size = 1 then some (decide (x.cps.getD 0 0 ∈ z.cps.toList)) else some (!(Builtin.Str.occurrences z x 0 z.length 1).isEmpty)
    | _ => none
  | b => match b.items S with
    | some ds => if (a.flat && ds.all D.flat) = true then some (ds.any fun y => eqF y a) else
        match b.pyS S, a.py with
        | some (.list ps), some p => if (SeqAt.shaped p && SeqAt.shaped (.list ps)) = true then some (ps.any fun z => PyData.eqv z p) else none
        | _, _ => none
    | none => none
def mInG (g : Bool → Bool) : D → D → C D := fun a b S => if b.isDict S = true then (match dGet S b a with | some o => .ok (.bl (g o.isSome)) S | none => .bad) else match inB S a b with | some k => .ok (.bl (g k)) S | none => .bad
def mIn : D → D → C D := mInG id
def mNotIn : D → D → C D := mInG not
theorem str_one {x : Str} (h : x.cps.size = 1) : x = ⟨#[x.cps.getD 0 0]⟩ := by
  obtain ⟨⟨l⟩⟩ := x
  match l, h with
  | [c], _ => rfl
abbrev rInA (X : Cx) (g : Bool → Bool) : R2 := fun x y H Q => (∃ (c : Nat) (z : Str), x = .str ⟨#[c]⟩ ∧ y = .str z ∧ Q (.bl (g (decide (c ∈ z.cps.toList)))) H) ∨
  (∃ i j, x = .str i ∧ y = .str j ∧ Q (.bl (g (!(Builtin.Str.occurrences j i 0 j.length 1).isEmpty))) H) ∨
  (∃ p xs, y = .ref p ∧ (SqL X.K H p xs ∨ SqT X.K H p xs) ∧ flatV x = true ∧ xs.all flatV = true ∧ Q (.bl (g (inV x xs))) H) ∨
  (∃ d ds, Dp X.K H x d ∧ Dp X.K H y (.list ds) ∧ SeqAt.shaped d = true ∧ SeqAt.shaped (.list ds) = true ∧ Q (.bl (g (ds.any fun z => PyData.eqv z d))) H)
theorem in_split {g : Bool → Bool} {ρ : List Addr} {S : ST} {H : Hp} {d e : D} {x y : V} {Q : VK} {k : Bool} (s : Sim X.K X.mg ρ S H) (r1 : VR X.K ρ H d x) (r2 : VR X.K ρ H e y) (hk : inB S d e = some k) (q : Q (.bl (g k)) H) :
    rInA X g x y H Q := by
  unfold inB at hk
  split at hk
  · split at hk
    · rename_i z x'
      rw [VR_str] at r1 r2
      subst r1 r2
      split at hk
      · rename_i h1
        cases hk
        refine .inl ⟨_, _, ?_, rfl, q⟩
        rw [← str_one h1]
      · cases hk
        exact .inr (.inl ⟨_, _, rfl, rfl, q⟩)
    · cases hk
  · split at hk
    · rename_i ds hi
      obtain ⟨p, vs, e1, q1, v1⟩ := items_ok s r2 hi
      split at hk
      · rename_i hf
        rw [Bool.and_eq_true] at hf
        cases hk
        obtain ⟨e2, f2⟩ := r1.flat hf.1
        obtain ⟨e3, f3⟩ := v1.flat hf.2
        refine .inr (.inr (.inl ⟨p, vs, e1, q1, f2, f3, ?_⟩))
        rw [e2, e3, inV_toV hf.1 hf.2]
        exact q
      · split at hk
        · rename_i ps p' h1 h2
          split at hk
          · rename_i c
            rw [Bool.and_eq_true] at c
            cases hk
            exact .inr (.inr (.inr ⟨_, _, VR.dp r1 h2, VR.dpS s r2 h1, c.1, c.2, q⟩))
          · cases hk
        · cases hk
    · cases hk
theorem e2_or {m m1 m2 : D → D → C D} {σ : St} {H : Hp} {Q : VK} (hm : ∀ a b S, m a b S = m1 a b S ∨ m a b S = m2 a b S) (h : tE X W (e2 m fa fb) σ H Q) : tE X W (e2 m1 fa fb) σ H Q ∨ tE X W (e2 m2 fa fb) σ H Q := by
  obtain ⟨ρ, G, S, g, s, o⟩ := h
  have key : e2 m fa fb G S = e2 m1 fa fb G S ∨ e2 m fa fb G S = e2 m2 fa fb G S := by
    unfold e2
    cases fa G S with
    | ok a S1 =>
      simp only [R.bind_ok]
      cases fb G S1 with
      | ok b S2 => simp only [R.bind_ok]; exact hm a b S2
      | exc c fs S => exact .inl rfl
      | bad => exact .inl rfl
    | exc c fs S => exact .inl rfl
    | bad => exact .inl rfl
  rcases key with k | k
  · rw [k] at o; exact .inl ⟨ρ, G, S, g, s, o⟩
  · rw [k] at o; exact .inr ⟨ρ, G, S, g, s, o⟩
def mInS (g : Bool → Bool) : D → D → C D := fun a b S => match inB S a b with | some k => .ok (.bl (g k)) S | none => .bad
def mInD (g : Bool → Bool) : D → D → C D := fun a b S => match dGet S b a with | some o => .ok (.bl (g o.isSome)) S | none => .bad
theorem mInG_or (g : Bool → Bool) (a b : D) (S : ST) : mInG g a b S = mInS g a b S ∨ mInG g a b S = mInD g a b S := by
  unfold mInG
  split
  · exact .inr rfl
  · exact .inl rfl
theorem inS_end {g : Bool → Bool} (ρ : List Addr) (S : ST) (H : Hp) (σ : St) (d e : D) (x y : V) (Q : VK) (s : Sim X.K X.mg ρ S H) (r1 : VR X.K ρ H d x) (r2 : VR X.K ρ H e y) (o : OutG X W (rV X) ρ σ H (mInS g d e S) Q) : rInA X g x y H Q := by
  unfold mInS at o
  split at o
  · rename_i k hk
    exact in_split s r1 r2 hk (o ρ H _ (.refl _ _) s (VR_bl.mpr rfl))
  · exact o.elim
theorem inD_end {g : Bool → Bool} (ρ : List Addr) (S : ST) (H : Hp) (σ : St) (d e : D) (x y : V) (Q : VK) (s : Sim X.K X.mg ρ S H) (r1 : VR X.K ρ H d x) (r2 : VR X.K ρ H e y) (o : OutG X W (rV X) ρ σ H (mInD g d e S) Q) :
    ∃ a o, y = .ref a ∧ DGet H a x o ∧ Q (.bl (g o.isSome)) H := by
  unfold mInD at o
  split at o
  · rename_i o' hk
    obtain ⟨a, w, e2, g1, m⟩ := dGet_ok s r2 r1 hk
    refine ⟨a, w, e2, g1, ?_⟩
    have : w.isSome = o'.isSome := by
      cases o' <;> cases w <;> first | rfl | exact m.elim
    rw [this]
    exact o ρ H _ (.refl _ _) s (VR_bl.mpr rfl)
  · exact o.elim
theorem op_inA (hu : X.A.units + 65 < cLine) : OpR X (compareOp .In) (rInA X id) := op_in_sign.or (op_in_str.or (op_in_seq.or (op_inD hu)))
theorem op_notInA (hu : X.A.units + 65 < cLine) : OpR X (compareOp .NotIn) (rInA X not) := op_notIn_sign.or (op_notin_str.or (op_notIn_seq.or (op_notInD hu)))
theorem de_in (hu : X.A.units + 65 < cLine) (ha : DE X W a fa) (hb : DE X W b fb) (hm : behindInMarks .In b = false := by rfl) : DE X W (.Compare a [.In] [b] pos) (e2 mIn fa fb) :=
  PE.weak (PE.orr (pe_cmpR (op_inA hu) ha hb hm) (pe_cmp (pc_din (by omega) ha hb) hm)) fun σ H Q h =>
    (e2_or (mInG_or id) h).elim (fun h => .inl (two inS_end h)) fun h => .inr (two (r := fun x y H Q => ∃ a o, y = .ref a ∧ DGet H a x o ∧ Q (.bl (id o.isSome)) H) inD_end h)
theorem de_notIn (hu : X.A.units + 65 < cLine) (ha : DE X W a fa) (hb : DE X W b fb) (hm : behindInMarks .NotIn b = false := by rfl) : DE X W (.Compare a [.NotIn] [b] pos) (e2 mNotIn fa fb) :=
  PE.weak (PE.orr (pe_cmpR (op_notInA hu) ha hb hm) (pe_cmp (pc_dnotin (by omega) ha hb) hm)) fun σ H Q h =>
    (e2_or (mInG_or not) h).elim (fun h => .inl (two inS_end h)) fun h => .inr (two (r := fun x y H Q => ∃ a o, y = .ref a ∧ DGet H a x o ∧ Q (.bl (not o.isSome)) H) inD_end h)
theorem dt_in (hu : X.A.units + 65 < cLine) (ha : DE X W a fa) (hb : DE X W b fb) (hm : behindInMarks .In b = false := by rfl) : DT X W (.Compare a [.In] [b] pos) (tb (e2 mIn fa fb)) :=
  ⟨fun pins s σ H Q I q => by
    have q1 : tTest (tOp (rInA X id) (tE X W fa) (tE X W fb)) σ H Q ∨ tTest (tDIn (tE X W fa) (tE X W fb)) σ H Q := by
      obtain ⟨ρ, G, S, g, s', o⟩ := q
      have o1 : tE X W (e2 mIn fa fb) σ H (fun x H' => ∃ k, x = .bl k ∧ Q k H') := by
        refine tb_test (t := tE X W (e2 mIn fa fb)) (fun Q h => h) ⟨ρ, G, S, g, s', o⟩
      exact (e2_or (mInG_or id) o1).elim (fun h => .inl (two inS_end h)) fun h => .inr (two (r := fun x y H Q => ∃ a o, y = .ref a ∧ DGet H a x o ∧ Q (.bl (id o.isSome)) H) inD_end h)
    exact q1.elim ((pt_cmpR (op_inA hu) ha hb hm).run pins s σ H Q I) ((pt_cmp (pc_din (by omega) ha hb) hm).run pins s σ H Q I)⟩
theorem dt_notIn (hu : X.A.units + 65 < cLine) (ha : DE X W a fa) (hb : DE X W b fb) (hm : behindInMarks .NotIn b = false := by rfl) : DT X W (.Compare a [.NotIn] [b] pos) (tb (e2 mNotIn fa fb)) :=
  ⟨fun pins s σ H Q I q => by
    have q1 : tTest (tOp (rInA X not) (tE X W fa) (tE X W fb)) σ H Q ∨ tTest (tDNotIn (tE X W fa) (tE X W fb)) σ H Q := by
      have o1 : tE X W (e2 mNotIn fa fb) σ H (fun x H' => ∃ k, x = .bl k ∧ Q k H') := tb_test (t := tE X W (e2 mNotIn fa fb)) (fun Q h => h) q
      exact (e2_or (mInG_or not) o1).elim (fun h => .inl (two inS_end h)) fun h => .inr (two (r := fun x y H Q => ∃ a o, y = .ref a ∧ DGet H a x o ∧ Q (.bl (not o.isSome)) H) inD_end h)
    exact q1.elim ((pt_cmpR (op_notInA hu) ha hb hm).run pins s σ H Q I) ((pt_cmp (pc_dnotin (by omega) ha hb) hm).run pins s σ H Q I)⟩

/-! ### subscripts -/
theorem VRs.atI {K : PySem.W.Frag} {ρ : List Addr} {H : Hp} {ds : List D} {vs : List V} {i : Int} {d : D} (h : VRs K ρ H ds vs) (e : atI ds i = some d) : ∃ v, L2.atI vs i = some v ∧ VR K ρ H d v := by
  unfold L2.atI at e ⊢
  rw [← h.length]
  cases q : ixN ds.length i with
  | none => rw [q] at e; cases e
  | some j =>
    rw [q] at e
    exact h.get (i := j) e
def ixS (S : ST) (a b : D) : Option D := match b with
  | .int i => match a with
    | .str z => if z.length ≤ SZ then (atI z.cps.toList i).map fun c => .str ⟨#[c]⟩ else none
    | a => match a.items S with | some ds => atI ds i | none => none
  | _ => none
def mIxS : D → D → C D := fun a b S => match ixS S a b with | some d => .ok d S | none => .bad
def mIxD : D → D → C D := fun a b S => match dGet S a b with | some (some d) => .ok d S | _ => .bad
/-- a[b] -/
def mIx : D → D → C D := fun a b S => if a.isDict S = true then mIxD a b S else mIxS a b S
theorem mIx_or (a b : D) (S : ST) : mIx a b S = mIxS a b S ∨ mIx a b S = mIxD a b S := by
  unfold mIx
  split
  · exact .inr rfl
  · exact .inl rfl
theorem ixS_end (ρ : List Addr) (S : ST) (H : Hp) (σ : St) (d e : D) (x y : V) (Q : VK) (s : Sim X.K X.mg ρ S H) (r1 : VR X.K ρ H d x) (r2 : VR X.K ρ H e y) (o : OutG X W (rV X) ρ σ H (mIxS d e S) Q) : rIx X.K x y H Q := by
  unfold mIxS at o
  split at o
  · rename_i v hv
    unfold ixS at hv
    split at hv
    · split at hv
      · split at hv
        · rename_i hz
          rw [Option.map_eq_some_iff] at hv
          obtain ⟨c, e1, rfl⟩ := hv
          exact .inr (.inr ⟨_, _, c, VR_str.mp r1, VR_int.mp r2, by rw [sizeLine_eq]; exact hz, e1, o ρ H _ (.refl _ _) s (VR_str.mpr rfl)⟩)
        · cases hv
      · split at hv
        · rename_i hi
          obtain ⟨p, vs, e1, q1, v1⟩ := items_ok s r1 hi
          obtain ⟨w, e2, r⟩ := v1.atI hv
          rcases q1 with q1 | q1
          · exact .inl ⟨p, vs, _, w, e1, VR_int.mp r2, q1, e2, o ρ H _ (.refl _ _) s r⟩
          · exact .inr (.inl ⟨p, vs, _, w, e1, VR_int.mp r2, q1, e2, o ρ H _ (.refl _ _) s r⟩)
        · cases hv
    · cases hv
  · exact o.elim
theorem ixD_end (ρ : List Addr) (S : ST) (H : Hp) (σ : St) (d e : D) (x y : V) (Q : VK) (s : Sim X.K X.mg ρ S H) (r1 : VR X.K ρ H d x) (r2 : VR X.K ρ H e y) (o : OutG X W (rV X) ρ σ H (mIxD d e S) Q) : ∃ a v, x = .ref a ∧ DGet H a y (some v) ∧ Q v H := by
  unfold mIxD at o
  split at o
  · rename_i v hv
    obtain ⟨a, w, e2, g1, m⟩ := dGet_ok s r1 r2 hv
    cases w with
    | none => exact m.elim
    | some w => exact ⟨a, w, e2, g1, o ρ H _ (.refl _ _) s m⟩
  · exact o.elim
theorem de_ix (hu : X.A.units + 65 < cLine) (ha : DE X W a fa) (hb : DE X W b fb) (hs : ∀ o i, subscripted b false o i = operate [o, i] (getItem o i) := by intro _ _; rfl) : DE X W (.Subscript a b pos) (e2 mIx fa fb) :=
  PE.weak (PE.orr (pe_ix ix_seq ha hb hs) (pe_dget (by omega) ha hb hs)) fun σ H Q h =>
    (e2_or mIx_or h).elim (fun h => .inl (two ixS_end h)) fun h => .inr (two (r := fun x y H Q => ∃ a v, x = .ref a ∧ DGet H a y (some v) ∧ Q v H) ixD_end h)

/-! ### slices -/
theorem VRs.cut {K : PySem.W.Frag} {ρ : List Addr} {H : Hp} {ds : List D} {vs : List V} (h : VRs K ρ H ds vs) (lo hi : Option Int) : VRs K ρ H ((ds.drop (HT.sIx ds.length 0 lo)).take (HT.sIx ds.length ds.length hi - HT.sIx ds.length 0 lo)) (cutV vs lo hi) := by
  unfold cutV
  rw [← h.length]
  exact (h.drop _).take _
def cutD (ds : List D) (lo hi : Option Int) : List D := (ds.drop (HT.sIx ds.length 0 lo)).take (HT.sIx ds.length ds.length hi - HT.sIx ds.length 0 lo)
abbrev MO := GE → ST → R (Option Int)
abbrev DO (X : Cx) (W : WX) (e : Option Expr) (f : MO) : Prop := PO X e (tG X W (fun _ _ a b => b = a) f)
def oNone : MO := fun _ S => .ok none S
def oSome (f : ME) : MO := fun G S => (f G S).bind fun d S1 => match d with | .int i => .ok (some i) S1 | _ => .bad
theorem PO.weak {X : Cx} {e : Option Expr} {t t' : TO} (h : PO X e t) (i : ∀ σ H Q, t' σ H Q → t σ H Q) : PO X e t' := ⟨fun pins s σ H Q I q => h.run pins s σ H Q I (i σ H Q q)⟩
theorem do_none : DO X W none oNone := PO.weak po_none fun σ H Q h => by
  obtain ⟨ρ, G, S, g, s, o⟩ := h
  exact o ρ H none (.refl _ _) s rfl
theorem do_some (ha : DE X W a fa) : DO X W (some a) (oSome fa) := PO.weak (po_some ha) fun σ H Q h => by
  refine tG_mono (tG_bind (f := fa) (g := fun d G S1 => match d with | .int i => R.ok (some i) S1 | _ => .bad) h) fun x H1 q => ?_
  obtain ⟨ρ, G, S, d, g, s, r1, o⟩ := q
  cases d <;> first | exact o.elim | skip
  rename_i i
  exact ⟨i, VR_int.mp r1, o ρ H1 _ (.refl _ _) s rfl⟩
def mSl (d : D) (lo hi : Option Int) : C D := fun S => match d with
  | .tup ds => .ok (.tup (cutD ds lo hi)) S
  | .str z => if z.length ≤ SZ then .ok (.str (cutS z lo hi)) S else .bad
  | d => match d.items S with | some ds => allocO (.lst (cutD ds lo hi)) S | none => .bad
def eSl (fe : ME) (fl fh : MO) : ME := fun G S => (fe G S).bind fun d S1 => (fl G S1).bind fun lo S2 => (fh G S2).bind fun hi S3 => mSl d lo hi S3
theorem cut_all (ds : List D) (lo hi : Option Int) (h : HT.sIx ds.length 0 lo = 0 ∧ HT.sIx ds.length ds.length hi = ds.length) : cutD ds lo hi = ds := by
  unfold cutD
  rw [h.1, h.2]
  simp
theorem de_slice {lo hi : Option Expr} {fl fh : MO} {p2 : Pos} (ha : DE X W a fa) (hl : DO X W lo fl) (hh : DO X W hi fh) : DE X W (.Subscript a (.Slice lo hi none p2) pos) (eSl fa fl fh) := by
  refine PE.weak (pe_slice (sl_tupA.or (sl_str.or sl_list)) ha hl hh) fun σ H Q h => ?_
  refine tG_mono (tG_bind (f := fa) (g := fun d G S1 => (fl G S1).bind fun lo S2 => (fh G S2).bind fun hi S3 => mSl d lo hi S3) h) fun x H1 q => ?_
  obtain ⟨ρ, G, S, d, g, s, r1, o⟩ := q
  refine ⟨ρ, G, S, g, s, OutG.mono (out_bind (rel := fun _ _ a b => b = a) o) (.refl _ _) fun y H2 q2 => ?_⟩
  obtain ⟨ρ2, S2, e, x2, s2, r2, o2⟩ := q2
  subst r2
  refine ⟨ρ2, G, S2, g.mono x2, s2, OutG.mono (out_bind (rel := fun _ _ a b => b = a) o2) (.refl _ _) fun z H3 q3 => ?_⟩
  obtain ⟨ρ3, S3, e3, x3, s3, r3, o3⟩ := q3
  subst r3
  have rd : VR X.K ρ3 H3 d x := VR.mono (x2.trans x3) r1
  unfold mSl at o3
  split at o3
  · obtain ⟨p, vs, e1, q1, v1⟩ := VR_tup.mp rd
    refine .inl ⟨p, vs, e1, q1, fun c => ?_, fun c => ?_⟩
    · rw [← v1.length] at c
      rw [cut_all _ _ _ c] at o3
      exact o3 ρ3 H3 _ (.refl _ _) s3 (VR_tup.mpr ⟨p, vs, rfl, q1, v1⟩)
    · exact new_tup s3 o3 (v1.cut y z)
  · split at o3
    · rename_i hz
      exact .inr (.inl ⟨_, VR_str.mp rd, by rw [sizeLine_eq]; exact hz, o3 ρ3 H3 _ (.refl _ _) s3 (VR_str.mpr rfl)⟩)
    · exact o3.elim
  · rename_i nt ns
    split at o3
    · rename_i ds hi'
      cases d with
      | tup ds => exact absurd rfl (nt ds)
      | fl ds =>
        obtain ⟨p, vs, e1, q1, v1⟩ := VR_fl.mp rd
        cases hi'
        exact .inr (.inr ⟨p, vs, e1, q1.sql, alloc_lst s3 o3 (v1.cut y z)⟩)
      | ref n =>
        obtain ⟨p, vs, e1, q1, v1⟩ := items_ok s3 rd hi'
        unfold D.items at hi'
        dsimp only at hi'
        split at hi'
        · rename_i h1
          cases hi'
          obtain ⟨p, e1, p1, vs, w1, v1⟩ := s3.ref rd h1
          exact .inr (.inr ⟨p, vs, e1, SqL.of w1, alloc_lst s3 o3 (v1.cut y z)⟩)
        · cases hi'
      | _ => cases hi'
    · exact o3.elim
def mRev (d : D) : C D := fun S => match d with
  | .tup _ => .bad
  | d => match d.items S with | some ds => allocO (.lst ds.reverse) S | none => .bad
theorem de_rev {k : Nat} {p1 p2 p3 : Pos} (ha : DE X W a fa) : DE X W (.Subscript a (.Slice none none (some (.UnaryOp .USub (.Constant (.int 1) k p1) p2)) p3) pos) (e1 mRev fa) := by
  refine PE.weak (pe_revL ha) fun σ H Q h => ?_
  refine one (r := fun x H1 Q => ∃ a xs, x = .ref a ∧ SqL X.K H1 a xs ∧ ∀ p, H1 p = none → Q (.ref p) (upd H1 p (.lst xs.reverse))) (fun ρ S H σ d x Q s rd o3 => ?_) h
  unfold mRev at o3
  split at o3
  · exact o3.elim
  · rename_i nt
    split at o3
    · rename_i ds hi'
      cases d with
      | tup ds => exact absurd rfl (nt ds)
      | fl ds =>
        obtain ⟨p, vs, e1, q1, v1⟩ := VR_fl.mp rd
        cases hi'
        exact ⟨p, vs, e1, q1.sql, alloc_lst s o3 v1.reverse⟩
      | ref n =>
        unfold D.items at hi'
        dsimp only at hi'
        split at hi'
        · rename_i h1
          cases hi'
          obtain ⟨p, e1, p1, vs, w1, v1⟩ := s.ref rd h1
          exact ⟨p, vs, e1, SqL.of w1, alloc_lst s o3 v1.reverse⟩
        · cases hi'
      | _ => cases hi'
    · exact o3.elim

/-! ### truth -/
def truD (S : ST) : D → Option Bool
  | .non => some false
  | .bl b => some b
  | .int i => some (decide (i ≠ 0))
  | .str z => if z.length ≤ SZ then some (decide (z.length ≠ 0)) else none
  | .ref n => match S[n]? with
    | some (.lst ds) => some (!ds.isEmpty)
    | some (.dk kvs) => some (!kvs.isEmpty)
    | _ => none
  | .tup ds => some (!ds.isEmpty)
  | .fl ds => some (!ds.isEmpty)
  | .opq _ => none
theorem VRs.empty {K : PySem.W.Frag} {ρ : List Addr} {H : Hp} {ds : List D} {vs : List V} (h : VRs K ρ H ds vs) : (!ds.isEmpty) = !vs.isEmpty := by
  cases ds with
  | nil => rw [h.nil_l]; rfl
  | cons d ds => obtain ⟨v, r, rfl, _⟩ := h.cons_l; rfl
theorem truD_ok {ρ : List Addr} {S : ST} {H : Hp} {d : D} {v : V} {k : Bool} (s : Sim X.K X.mg ρ S H) (r : VR X.K ρ H d v) (h : truD S d = some k) : TruV X.K v H k := by
  cases d with
  | non => rw [VR_non] at r; subst r; cases h; exact rfl
  | bl b => rw [VR_bl] at r; subst r; cases h; exact rfl
  | int i =>
    rw [VR_int] at r; subst r; cases h
    show decide (i ≠ 0) = (i != 0)
    by_cases e : i = 0 <;> simp [e]
  | str z =>
    rw [VR_str] at r; subst r
    simp only [truD] at h
    split at h
    · rename_i hz
      cases h
      refine ⟨by rw [sizeLine_eq]; exact hz, ?_⟩
      by_cases e : z.length = 0 <;> simp [e]
    · cases h
  | tup ds =>
    obtain ⟨p, vs, rfl, q, v1⟩ := VR_tup.mp r
    cases h
    exact .inr (.inl ⟨vs, q, v1.empty⟩)
  | fl ds =>
    obtain ⟨p, vs, rfl, q, v1⟩ := VR_fl.mp r
    cases h
    exact .inl ⟨vs, q.sql, v1.empty⟩
  | ref n =>
    unfold truD at h
    dsimp only at h
    split at h
    · rename_i h1
      cases h
      obtain ⟨p, rfl, p1, vs, w1, v1⟩ := s.ref r h1
      exact .inl ⟨vs, SqL.of w1, v1.empty⟩
    · rename_i h1
      cases h
      obtain ⟨p, rfl, p1, ws, w1, v1⟩ := s.ref r h1
      refine .inr (.inr ⟨ws, w1, ?_⟩)
      have e := congrArg List.length v1.1
      rw [List.length_map, List.length_map] at e
      rename_i kvs
      cases ws <;> cases kvs <;> simp_all
    · cases h
  | opq u => cases h
def tTru (f : ME) : MT := fun G S => (f G S).bind fun d S1 => match truD S1 d with | some k => .ok k S1 | none => .bad
theorem dt_tru (ha : DE X W a fa) (he : ∀ whole, isTrue a X.env whole = (do let v ← whole; standAt a.pos; holding [v] (truthy v)) := by intro _; rfl) : DT X W a (tTru fa) := by
  refine PT.weak (pt_truth ha he) fun σ H Q h => ?_
  refine tG_mono (tG_bind (f := fa) (g := fun d G S1 => match truD S1 d with | some k => R.ok k S1 | none => .bad) h) fun x H1 q => ?_
  obtain ⟨ρ, G, S, d, g, s, r1, o⟩ := q
  split at o
  · rename_i k hk
    exact ⟨k, truD_ok s r1 hk, o ρ H1 k (.refl _ _) s rfl⟩
  · exact o.elim

/-! ### and, or, not -/
variable {ga gb : MT} {rest : List Expr}
def tAnd (f g : MT) : MT := fun G S => (f G S).bind fun b S1 => if b = true then g G S1 else .ok false S1
def tOr (f g : MT) : MT := fun G S => (f G S).bind fun b S1 => if b = true then .ok true S1 else g G S1
def tNot (f : MT) : MT := fun G S => (f G S).bind fun b S1 => .ok (!b) S1
theorem dw_and1 (ha : DT X W a ga) : DW X W (.BoolOp .And [a] pos) ga := pw_and1 ha
theorem dw_or1 (ha : DT X W a ga) : DW X W (.BoolOp .Or [a] pos) ga := pw_or1 ha
theorem dw_and (ha : DT X W a ga) (hb : DW X W (.BoolOp .And (b :: rest) pos) gb) : DW X W (.BoolOp .And (a :: b :: rest) pos) (tAnd ga gb) := by
  refine PW.weak (pw_and ha hb) fun σ H Q h => ?_
  refine tG_mono (tG_bind (f := ga) (g := fun b G S1 => if b = true then gb G S1 else R.ok false S1) h) fun x H1 q => ?_
  obtain ⟨ρ, G, S, d, g, s, r1, o⟩ := q
  have r1 : x = d := r1
  subst r1
  by_cases c : x = true
  · rw [if_pos c] at o ⊢
    exact ⟨ρ, G, S, g, s, o⟩
  · rw [if_neg c] at o ⊢
    exact o ρ H1 _ (.refl _ _) s rfl
theorem dw_or (ha : DT X W a ga) (hb : DW X W (.BoolOp .Or (b :: rest) pos) gb) : DW X W (.BoolOp .Or (a :: b :: rest) pos) (tOr ga gb) := by
  refine PW.weak (pw_or ha hb) fun σ H Q h => ?_
  refine tG_mono (tG_bind (f := ga) (g := fun b G S1 => if b = true then R.ok true S1 else gb G S1) h) fun x H1 q => ?_
  obtain ⟨ρ, G, S, d, g, s, r1, o⟩ := q
  have r1 : x = d := r1
  subst r1
  by_cases c : x = true
  · rw [if_pos c] at o ⊢
    exact o ρ H1 _ (.refl _ _) s rfl
  · rw [if_neg c] at o ⊢
    exact ⟨ρ, G, S, g, s, o⟩
theorem dt_w (h : DW X W a ga) : DT X W a ga := h.pt
theorem dt_not (ha : DT X W a ga) : DT X W (.UnaryOp .Not a pos) (tNot ga) := by
  refine PT.weak (pt_not ha) fun σ H Q h => ?_
  refine tG_mono (tG_bind (f := ga) (g := fun b G S1 => R.ok (!b) S1) h) fun x H1 q => ?_
  obtain ⟨ρ, G, S, d, g, s, r1, o⟩ := q
  have r1 : x = d := r1
  subst r1
  exact o ρ H1 _ (.refl _ _) s rfl
/-- as values -/
def eAnd (f g : ME) : ME := fun G S => (f G S).bind fun d S1 => match truD S1 d with | some true => g G S1 | some false => .ok d S1 | none => .bad
def eOr (f g : ME) : ME := fun G S => (f G S).bind fun d S1 => match truD S1 d with | some true => .ok d S1 | some false => g G S1 | none => .bad
def eNot (f : ME) : ME := fun G S => (f G S).bind fun d S1 => match truD S1 d with | some k => .ok (.bl (!k)) S1 | none => .bad
theorem de_one {op} (ha : DE X W a fa) : DE X W (.BoolOp op [a] pos) fa := pe_one ha
theorem de_and (ha : DE X W a fa) (hb : DE X W (.BoolOp .And (b :: rest) pos) fb) : DE X W (.BoolOp .And (a :: b :: rest) pos) (eAnd fa fb) := by
  refine PE.weak (pe_andT ha hb) fun σ H Q h => ?_
  refine tG_mono (tG_bind (f := fa) (g := fun d G S1 => match truD S1 d with | some true => fb G S1 | some false => R.ok d S1 | none => .bad) h) fun x H1 q => ?_
  obtain ⟨ρ, G, S, d, g, s, r1, o⟩ := q
  split at o
  · rename_i hk
    exact ⟨true, truD_ok s r1 hk, by rw [if_pos rfl]; exact ⟨ρ, G, S, g, s, o⟩⟩
  · rename_i hk
    exact ⟨false, truD_ok s r1 hk, by rw [if_neg (by decide)]; exact o ρ H1 _ (.refl _ _) s r1⟩
  · exact o.elim
theorem de_or (ha : DE X W a fa) (hb : DE X W (.BoolOp .Or (b :: rest) pos) fb) : DE X W (.BoolOp .Or (a :: b :: rest) pos) (eOr fa fb) := by
  refine PE.weak (pe_orT ha hb) fun σ H Q h => ?_
  refine tG_mono (tG_bind (f := fa) (g := fun d G S1 => match truD S1 d with | some true => R.ok d S1 | some false => fb G S1 | none => .bad) h) fun x H1 q => ?_
  obtain ⟨ρ, G, S, d, g, s, r1, o⟩ := q
  split at o
  · rename_i hk
    exact ⟨true, truD_ok s r1 hk, by rw [if_pos rfl]; exact o ρ H1 _ (.refl _ _) s r1⟩
  · rename_i hk
    exact ⟨false, truD_ok s r1 hk, by rw [if_neg (by decide)]; exact ⟨ρ, G, S, g, s, o⟩⟩
  · exact o.elim
theorem de_not (ha : DE X W a fa) : DE X W (.UnaryOp .Not a pos) (eNot fa) := by
  refine PE.weak (pe_notT ha) fun σ H Q h => ?_
  refine tG_mono (tG_bind (f := fa) (g := fun d G S1 => match truD S1 d with | some k => R.ok (D.bl (!k)) S1 | none => .bad) h) fun x H1 q => ?_
  obtain ⟨ρ, G, S, d, g, s, r1, o⟩ := q
  split at o
  · rename_i k hk
    exact ⟨k, truD_ok s r1 hk, o ρ H1 _ (.refl _ _) s (VR_bl.mpr rfl)⟩
  · exact o.elim
def eIf (t : MT) (f g : ME) : ME := fun G S => (t G S).bind fun b S1 => if b = true then f G S1 else g G S1
theorem de_ifExp (hc : DT X W c ga) (ha : DE X W a fa) (hb : DE X W b fb) : DE X W (.IfExp c a b pos) (eIf ga fa fb) := by
  refine PE.weak (pe_ifExp hc ha hb) fun σ H Q h => ?_
  refine tG_mono (tG_bind (f := ga) (g := fun b G S1 => if b = true then fa G S1 else fb G S1) h) fun x H1 q => ?_
  obtain ⟨ρ, G, S, d, g, s, r1, o⟩ := q
  have r1 : x = d := r1
  subst r1
  by_cases c : x = true
  · rw [if_pos c] at o ⊢
    exact ⟨ρ, G, S, g, s, o⟩
  · rw [if_neg c] at o ⊢
    exact ⟨ρ, G, S, g, s, o⟩
/-- a op b op' c -/
def eChain (m m' : D → D → C D) (fa fb fc : ME) : ME := fun G S => (fa G S).bind fun a S1 => (fb G S1).bind fun b S2 => (m a b S2).bind fun k S3 => match k with
  | .bl true => (fc G S3).bind fun c S4 => m' b c S4
  | .bl false => .ok (.bl false) S3
  | _ => .bad
theorem chain_end {m m' : D → D → C D} {r r' : R2} {σ : St} {H : Hp} {Q : VK}
    (hr : ∀ (ρ : List Addr) (S : ST) (H : Hp) (σ : St) (d e : D) (x y : V) (Q : VK), Sim X.K X.mg ρ S H → VR X.K ρ H d x → VR X.K ρ H e y → OutG X W (rV X) ρ σ H (m d e S) Q → r x y H Q)
    (hr' : ∀ (ρ : List Addr) (S : ST) (H : Hp) (σ : St) (d e : D) (x y : V) (Q : VK), Sim X.K X.mg ρ S H → VR X.K ρ H d x → VR X.K ρ H e y → OutG X W (rV X) ρ σ H (m' d e S) Q → r' x y H Q)
    (h : tE X W (eChain m m' fa fb fc) σ H Q) : tChain r r' (tE X W fa) (tE X W fb) (tE X W fc) σ H Q := by
  refine tG_mono (tG_bind (f := fa) (g := fun a G S1 => (fb G S1).bind fun b S2 => (m a b S2).bind fun k S3 => match k with
    | .bl true => (fc G S3).bind fun c S4 => m' b c S4
    | .bl false => .ok (.bl false) S3
    | _ => .bad) h) fun x H1 q => ?_
  obtain ⟨ρ, G, S, d, g, s, r1, o⟩ := q
  refine ⟨ρ, G, S, g, s, OutG.mono (out_bind (rel := rV X) o) (.refl _ _) fun y H2 q2 => ?_⟩
  obtain ⟨ρ2, S2, e, x2, s2, r2, o2⟩ := q2
  refine hr ρ2 S2 H2 σ d e x y _ s2 (VR.mono x2 r1) r2 (OutG.mono (out_bind (rel := rV X) o2) (.refl _ _) fun z H3 q3 => ?_)
  obtain ⟨ρ3, S3, k, x3, s3, r3, o3⟩ := q3
  cases k <;> first | exact o3.elim | skip
  rename_i b
  refine ⟨b, VR_bl.mp r3, ?_⟩
  cases b with
  | false => rw [if_neg (by decide)]; exact o3 ρ3 H3 _ (.refl _ _) s3 (VR_bl.mpr rfl)
  | true =>
    rw [if_pos rfl]
    refine ⟨ρ3, G, S3, (g.mono x2).mono x3, s3, OutG.mono (out_bind (rel := rV X) o3) (.refl _ _) fun w H4 q4 => ?_⟩
    obtain ⟨ρ4, S4, e4, x4, s4, r4, o4⟩ := q4
    exact hr' ρ4 S4 H4 σ e e4 y w Q s4 (VR.mono (x3.trans x4) r2) r4 o4
theorem de_chain {op op' : CmpOp} {m m' : D → D → C D} (ho : Op2 X W (compareOp op) m) (ho' : Op2 X W (compareOp op') m') (ha : DE X W a fa) (hb : DE X W b fb) (hc : DE X W c fc) (hm : lastMarks [op, op'] [b, c] = false := by with_unfolding_all rfl) :
    DE X W (.Compare a [op, op'] [b, c] pos) (eChain m m' fa fb fc) := by
  obtain ⟨r, h1, h2⟩ := ho
  obtain ⟨r', h1', h2'⟩ := ho'
  exact PE.weak (pe_chain h1 h1' ha hb hc hm) fun σ H Q h => chain_end h2 h2' h
theorem dt_chain {op op' : CmpOp} {m m' : D → D → C D} (ho : Op2 X W (compareOp op) m) (ho' : Op2 X W (compareOp op') m') (ha : DE X W a fa) (hb : DE X W b fb) (hc : DE X W c fc) (hm : lastMarks [op, op'] [b, c] = false := by with_unfolding_all rfl) :
    DT X W (.Compare a [op, op'] [b, c] pos) (tb (eChain m m' fa fb fc)) := by
  obtain ⟨r, h1, h2⟩ := ho
  obtain ⟨r', h1', h2'⟩ := ho'
  exact PT.weak (pt_chain h1 h1' ha hb hc hm) fun σ H Q h => tb_test (fun Q h => chain_end h2 h2' h) h
end
end Mir

namespace Mir
open PySem L2
section
variable {X : Cx} {W : WX} {a b c e : Expr} {es : List Expr} {fa fb fc fe : ME} {ga : MA} {pos p : Pos} {x : Str}

/-! ### argument lists, displays -/
def aNil : MA := fun _ S => .ok [] S
def aCons (f : ME) (g : MA) : MA := fun G S => (f G S).bind fun d S1 => (g G S1).bind fun ds S2 => .ok (d :: ds) S2
theorem da_nil : DA X W [] aNil := PA.weak pa_nil fun σ H Q h => by
  obtain ⟨ρ, G, S, g, s, o⟩ := h
  exact o ρ H [] (.refl _ _) s .nil
theorem da_cons (ha : DE X W e fe) (hr : DA X W es ga) (hs : starEach (e :: es) X.env = (false, eval e X.env) :: starEach es X.env := by rfl) : DA X W (e :: es) (aCons fe ga) := by
  refine PA.weak (pa_cons ha hr hs) fun σ H Q h => ?_
  refine tG_mono (tG_bind (f := fe) (g := fun d G S1 => (ga G S1).bind fun ds S2 => R.ok (d :: ds) S2) h) fun x H1 q => ?_
  obtain ⟨ρ, G, S, d, g, s, r1, o⟩ := q
  refine ⟨ρ, G, S, g, s, OutG.mono (out_bind (rel := rVs X) o) (.refl _ _) fun y H2 q2 => ?_⟩
  obtain ⟨ρ2, S2, e, x2, s2, r2, o2⟩ := q2
  exact o2 ρ2 H2 _ (.refl _ _) s2 (.cons (VR.mono x2 r1) r2)
def eTup (f : MA) : ME := fun G S => (f G S).bind fun ds S1 => if ds.length ≤ SZ then .ok (.tup ds) S1 else .bad
def eLst (f : MA) : ME := fun G S => (f G S).bind fun ds S1 => if ds.length ≤ SZ then allocO (.lst ds) S1 else .bad
theorem de_tup {k} (h : DA X W es ga) : DE X W (.Tuple es k pos) (eTup ga) := by
  refine PE.weak (pe_tup h) fun σ H Q h => ?_
  refine tG_mono (tG_bind (f := ga) (g := fun ds G S1 => if ds.length ≤ SZ then R.ok (D.tup ds) S1 else .bad) h) fun x H1 q => ?_
  obtain ⟨ρ, G, S, d, g, s, r1, o⟩ := q
  have r1 : VRs X.K ρ H1 d x := r1
  split at o
  · rename_i c
    exact ⟨by rw [sizeLine_eq, ← r1.length]; exact c, new_tup s o r1⟩
  · exact o.elim
theorem de_lst (h : DA X W es ga) : DE X W (.List es pos) (eLst ga) := by
  refine PE.weak (pe_lst h) fun σ H Q h => ?_
  refine tG_mono (tG_bind (f := ga) (g := fun ds G S1 => if ds.length ≤ SZ then allocO (.lst ds) S1 else .bad) h) fun x H1 q => ?_
  obtain ⟨ρ, G, S, d, g, s, r1, o⟩ := q
  have r1 : VRs X.K ρ H1 d x := r1
  split at o
  · rename_i c
    exact ⟨by rw [sizeLine_eq, ← r1.length]; exact c, alloc_lst s o r1⟩
  · exact o.elim

/-! ### calls of built-ins -/
def Bi (X : Cx) (W : WX) (f : Value) (m : List D → C D) : Prop :=
  ∃ r : List V → Hp → VK → Prop, CallR X f r ∧ ∀ (ρ : List Addr) (S : ST) (H : Hp) (σ : St) (ds : List D) (xs : List V) (Q : VK), Sim X.K X.mg ρ S H → VRs X.K ρ H ds xs → OutG X W (rV X) ρ σ H (m ds S) Q → r xs H Q
def eCall (m : List D → C D) (f : MA) : ME := fun G S => (f G S).bind fun ds S1 => m ds S1
theorem call_end {m : List D → C D} {r : List V → Hp → VK → Prop} {σ : St} {H : Hp} {Q : VK}
    (hr : ∀ (ρ : List Addr) (S : ST) (H : Hp) (σ : St) (ds : List D) (xs : List V) (Q : VK), Sim X.K X.mg ρ S H → VRs X.K ρ H ds xs → OutG X W (rV X) ρ σ H (m ds S) Q → r xs H Q)
    (h : tE X W (eCall m ga) σ H Q) : tCB r (tA X W ga) σ H Q := by
  refine tG_mono (tG_bind (f := ga) (g := fun ds G S1 => m ds S1) h) fun x H1 q => ?_
  obtain ⟨ρ, G, S, d, g, s, r1, o⟩ := q
  exact hr ρ S H1 σ d x Q s r1 o
theorem de_callB {id : String} {m : List D → C D} (hc : Bi X W (.builtin id) m) (hg : Gl X x) (hm : X.mg x = none) (hv : bootBuiltins x = some (.builtin id)) (ha : DA X W (e :: es) ga) (hn : x ≠ "__name__" := by decide) (hdb : (x == ("__debug__" : Str)) = false := by decide)
    (he : starEach (e :: es) X.env = (false, eval e X.env) :: starEach es X.env := by rfl) (hpl : (backTo pos (starEach es X.env)).any (·.1) = false := by rfl) : DE X W (.Call (.Name x p) (e :: es) [] pos) (eCall m ga) := by
  obtain ⟨r, h1, h2⟩ := hc
  exact PE.weak (pe_callB h1 hg hm hv ha hn hdb he hpl) fun σ H Q h => call_end h2 h
theorem de_callTy {T : String} {m : List D → C D} (hc : Bi X W (.type T) m) (hg : Gl X x) (hm : X.mg x = none) (hv : bootBuiltins x = some (.type T)) (ha : DA X W (e :: es) ga) (hn : x ≠ "__name__" := by decide) (hdb : (x == ("__debug__" : Str)) = false := by decide)
    (he : starEach (e :: es) X.env = (false, eval e X.env) :: starEach es X.env := by rfl) (hpl : (backTo pos (starEach es X.env)).any (·.1) = false := by rfl) : DE X W (.Call (.Name x p) (e :: es) [] pos) (eCall m ga) := by
  obtain ⟨r, h1, h2⟩ := hc
  exact PE.weak (pe_callTy h1 hg hm hv ha hn hdb he hpl) fun σ H Q h => call_end h2 h
theorem Bi.or {f : Value} {m m1 m2 : List D → C D} (h1 : Bi X W f m1) (h2 : Bi X W f m2) (hm : ∀ ds S, m ds S = m1 ds S ∨ m ds S = m2 ds S) : Bi X W f m := by
  obtain ⟨r, a1, b1⟩ := h1
  obtain ⟨r', a2, b2⟩ := h2
  refine ⟨_, a1.or a2, fun ρ S H σ ds xs Q s r1 o => ?_⟩
  rcases hm ds S with k | k
  · rw [k] at o; exact .inl (b1 ρ S H σ ds xs Q s r1 o)
  · rw [k] at o; exact .inr (b2 ρ S H σ ds xs Q s r1 o)
section
variable {ρ : List Addr} {H : Hp} {K : PySem.W.Frag} {xs : List V} {d d' : D}
theorem VRs.one (h : VRs K ρ H [d] xs) : ∃ v, xs = [v] ∧ VR K ρ H d v := by
  obtain ⟨v, r, rfl, h1, h2⟩ := h.cons_l
  rw [h2.nil_l]
  exact ⟨v, rfl, h1⟩
theorem VRs.two (h : VRs K ρ H [d, d'] xs) : ∃ v w, xs = [v, w] ∧ VR K ρ H d v ∧ VR K ρ H d' w := by
  obtain ⟨v, r, rfl, h1, h2⟩ := h.cons_l
  obtain ⟨w, rfl, h3⟩ := h2.one
  exact ⟨v, w, rfl, h1, h3⟩
end
def bAbs : List D → C D := fun ds S => match ds with | [.int i] => .ok (.int (if i < 0 then -i else i)) S | _ => .bad
theorem bi_abs : Bi X W (.builtin "abs") bAbs := by
  refine ⟨_, call_abs, fun ρ S H σ ds xs Q s r o => ?_⟩
  unfold bAbs at o
  split at o
  · obtain ⟨v, rfl, r1⟩ := r.one
    rw [VR_int] at r1; subst r1
    exact ⟨_, rfl, o ρ H _ (.refl _ _) s (VR_int.mpr rfl)⟩
  · exact o.elim
def bInt : List D → C D := fun ds S => match ds with | [.int i] => .ok (.int i) S | [.bl k] => .ok (.int (if k = true then 1 else 0)) S | _ => .bad
theorem bi_int : Bi X W (.type "int") bInt := by
  refine ⟨_, call_int1, fun ρ S H σ ds xs Q s r o => ?_⟩
  unfold bInt at o
  split at o
  · obtain ⟨v, rfl, r1⟩ := r.one
    rw [VR_int] at r1; subst r1
    exact .inl ⟨_, rfl, o ρ H _ (.refl _ _) s (VR_int.mpr rfl)⟩
  · obtain ⟨v, rfl, r1⟩ := r.one
    rw [VR_bl] at r1; subst r1
    exact .inr ⟨_, rfl, o ρ H _ (.refl _ _) s (VR_int.mpr rfl)⟩
  · exact o.elim
def bStr : List D → C D := fun ds S => match ds with | [.int i] => if lim64 i = true then .ok (.str (toString i)) S else .bad | _ => .bad
theorem bi_str : Bi X W (.type "str") bStr := by
  refine ⟨_, call_str_int, fun ρ S H σ ds xs Q s r o => ?_⟩
  unfold bStr at o
  split at o
  · rename_i i
    split at o
    · rename_i c
      obtain ⟨v, rfl, r1⟩ := r.one
      rw [VR_int] at r1; subst r1
      rw [lim64_iff] at c
      exact ⟨_, rfl, Nat.lt_of_lt_of_le (PySem.Flt.log2_lt_of (by decide : 0 < 64) (show i.natAbs < 2 ^ 64 by omega)) (by decide), o ρ H _ (.refl _ _) s (VR_str.mpr rfl)⟩
    · exact o.elim
  · exact o.elim
def lenD (S : ST) : D → Option Nat
  | .str z => if z.length ≤ SZ then some z.length else none
  | .ref n => match S[n]? with | some (.lst ds) => some ds.length | some (.dk kvs) => some kvs.length | _ => none
  | .tup ds => some ds.length
  | .fl ds => some ds.length
  | _ => none
def bLen : List D → C D := fun ds S => match ds with | [d] => (match lenD S d with | some n => .ok (.int n) S | none => .bad) | _ => .bad
theorem bi_len : Bi X W (.builtin "len") bLen := by
  refine ⟨_, call_len.or call_lenD, fun ρ S H σ ds xs Q s r o => ?_⟩
  unfold bLen at o
  split at o
  · rename_i d
    obtain ⟨v, rfl, r1⟩ := r.one
    split at o
    · rename_i n hn
      have o' := o ρ H _ (.refl _ _) s (VR_int.mpr rfl)
      cases d with
      | str z =>
        rw [VR_str] at r1; subst r1
        simp only [lenD] at hn
        split at hn
        · rename_i hz
          cases hn
          exact .inl ⟨_, _, rfl, ⟨by rw [sizeLine_eq]; exact hz, rfl⟩, o'⟩
        · cases hn
      | tup ds =>
        obtain ⟨p, vs, rfl, q, v1⟩ := VR_tup.mp r1
        cases hn
        exact .inl ⟨_, _, rfl, .inr ⟨vs, q, v1.length⟩, o'⟩
      | fl ds =>
        obtain ⟨p, vs, rfl, q, v1⟩ := VR_fl.mp r1
        cases hn
        exact .inl ⟨_, _, rfl, .inl ⟨vs, q.sql, v1.length⟩, o'⟩
      | ref m =>
        unfold lenD at hn
        dsimp only at hn
        split at hn
        · rename_i h1
          cases hn
          obtain ⟨p, rfl, p1, vs, w1, v1⟩ := s.ref r1 h1
          exact .inl ⟨_, _, rfl, .inl ⟨vs, SqL.of w1, v1.length⟩, o'⟩
        · rename_i kvs h1
          cases hn
          obtain ⟨p, rfl, p1, ws, w1, v1⟩ := s.ref r1 h1
          have e := congrArg List.length v1.1
          rw [List.length_map, List.length_map] at e
          refine .inr ⟨_, ws, rfl, w1, ?_⟩
          rw [← e]; exact o'
        · cases hn
      | _ => cases hn
    · exact o.elim
  · exact o.elim
def bMax2 : List D → C D := fun ds S => match ds with | [.int i, .int j] => .ok (.int (max i j)) S | _ => .bad
theorem bi_max2 (hc : X.calm = true) : Bi X W (.builtin "max") bMax2 := by
  refine ⟨_, call_max2 hc, fun ρ S H σ ds xs Q s r o => ?_⟩
  unfold bMax2 at o
  split at o
  · rename_i i j
    obtain ⟨v, w, rfl, r1, r2⟩ := r.two
    rw [VR_int] at r1 r2; subst r1 r2
    refine ⟨i, j, rfl, ?_⟩
    have := o ρ H _ (.refl _ _) s (VR_int.mpr rfl)
    rwa [show (if j > i then j else i) = max i j by split <;> omega]
  · exact o.elim
def bMin2 : List D → C D := fun ds S => match ds with | [.int i, .int j] => .ok (.int (min i j)) S | _ => .bad
theorem bi_min2 (hc : X.calm = true) : Bi X W (.builtin "min") bMin2 := by
  refine ⟨_, call_min2 hc, fun ρ S H σ ds xs Q s r o => ?_⟩
  unfold bMin2 at o
  split at o
  · rename_i i j
    obtain ⟨v, w, rfl, r1, r2⟩ := r.two
    rw [VR_int] at r1 r2; subst r1 r2
    refine ⟨i, j, rfl, ?_⟩
    have := o ρ H _ (.refl _ _) s (VR_int.mpr rfl)
    rwa [show (if j < i then j else i) = min i j by split <;> omega]
  · exact o.elim
/-- lists of ints -/
def intsD : List D → Option (List Int)
  | [] => some []
  | .int i :: r => (intsD r).map (i :: ·)
  | _ :: _ => none
theorem intsD_eq : ∀ {ds : List D} {ns : List Int}, intsD ds = some ns → ds = ns.map D.int
  | [], ns, h => by cases h; rfl
  | d :: r, ns, h => by
    cases d with
    | int i =>
      unfold intsD at h
      rw [Option.map_eq_some_iff] at h
      obtain ⟨ms, h1, rfl⟩ := h
      rw [intsD_eq h1]; rfl
    | _ => cases h
@[simp] theorem intsD_map : ∀ ns : List Int, intsD (ns.map D.int) = some ns
  | [] => rfl
  | n :: ns => by simp [intsD, intsD_map ns]
/-- the items of a list (no tuple) -/
def D.litems (S : ST) : D → Option (List D)
  | .fl ds => some ds
  | .ref n => match S[n]? with | some (.lst ds) => some ds | _ => none
  | _ => none
theorem litems_ok {ρ : List Addr} {S : ST} {H : Hp} {d : D} {v : V} {ds : List D} (s : Sim X.K X.mg ρ S H) (r : VR X.K ρ H d v) (h : d.litems S = some ds) :
    ∃ p vs, v = .ref p ∧ SqL X.K H p vs ∧ VRs X.K ρ H ds vs := by
  cases d with
  | fl ds =>
    cases h
    obtain ⟨p, vs, e, q, r⟩ := VR_fl.mp r
    exact ⟨p, vs, e, q.sql, r⟩
  | ref n =>
    unfold D.litems at h
    dsimp only at h
    split at h
    · rename_i h1
      cases h
      obtain ⟨p, e, p1, vs, w1, v1⟩ := s.ref r h1
      exact ⟨p, vs, e, SqL.of w1, v1⟩
    · cases h
  | _ => cases h
def bSum : List D → C D := fun ds S => match ds with | [d] => (match (d.litems S).bind intsD with | some ns => .ok (.int ns.sum) S | none => .bad) | _ => .bad
theorem bi_sum (hc : X.calm = true) : Bi X W (.builtin "sum") bSum := by
  refine ⟨_, cr_sum hc, fun ρ S H σ ds xs Q s r o => ?_⟩
  unfold bSum at o
  split at o
  · obtain ⟨v, rfl, r1⟩ := r.one
    split at o
    · rename_i ns hn
      rw [Option.bind_eq_some_iff] at hn
      obtain ⟨es, h1, h2⟩ := hn
      obtain ⟨p, vs, rfl, q, v1⟩ := litems_ok s r1 h1
      rw [intsD_eq h2] at v1
      rw [v1.ints] at q
      exact ⟨p, ns, rfl, q, o ρ H _ (.refl _ _) s (VR_int.mpr rfl)⟩
    · exact o.elim
  · exact o.elim
def bList : List D → C D := fun ds S => match ds with | [d] => (match d.items S with | some es => allocO (.lst es) S | none => .bad) | _ => .bad
theorem bi_list : Bi X W (.type "list") bList := by
  refine ⟨_, call_list_of, fun ρ S H σ ds xs Q s r o => ?_⟩
  unfold bList at o
  split at o
  · obtain ⟨v, rfl, r1⟩ := r.one
    split at o
    · rename_i es he
      obtain ⟨p, vs, rfl, q, v1⟩ := items_ok s r1 he
      exact ⟨p, vs, rfl, q, alloc_lst s o v1⟩
    · exact o.elim
  · exact o.elim
def bTuple : List D → C D := fun ds S => match ds with | [d] => (match d.items S with | some es => .ok (.tup es) S | none => .bad) | _ => .bad
theorem bi_tuple : Bi X W (.type "tuple") bTuple := by
  refine ⟨_, call_tuple_of, fun ρ S H σ ds xs Q s r o => ?_⟩
  unfold bTuple at o
  split at o
  · rename_i d
    obtain ⟨v, rfl, r1⟩ := r.one
    split at o
    · rename_i es he
      cases d with
      | tup ds =>
        cases he
        obtain ⟨p, vs, rfl, q, v1⟩ := VR_tup.mp r1
        exact ⟨p, vs, rfl, .inr ⟨q, o ρ H _ (.refl _ _) s r1⟩⟩
      | fl ds =>
        obtain ⟨p, vs, rfl, q, v1⟩ := litems_ok (ds := es) s r1 he
        exact ⟨p, vs, rfl, .inl ⟨q, new_tup s o v1⟩⟩
      | ref n =>
        obtain ⟨p, vs, rfl, q, v1⟩ := litems_ok (ds := es) s r1 he
        exact ⟨p, vs, rfl, .inl ⟨q, new_tup s o v1⟩⟩
      | _ => cases he
    · exact o.elim
  · exact o.elim

/-! ### methods of built-in types -/
def Bm (X : Cx) (W : WX) (id : String) (m : D → List D → C D) : Prop :=
  ∃ r : V → List V → Hp → VK → Prop, MtR X id r ∧ ∀ (ρ : List Addr) (S : ST) (H : Hp) (σ : St) (d : D) (ds : List D) (x : V) (xs : List V) (Q : VK), Sim X.K X.mg ρ S H → VR X.K ρ H d x → VRs X.K ρ H ds xs → OutG X W (rV X) ρ σ H (m d ds S) Q → r x xs H Q
def tyD (T : String) (S : ST) : D → Bool
  | .str _ => T == "str"
  | .fl _ => T == "list"
  | .ref n => match S[n]? with | some (.lst _) => T == "list" | some (.dk _) => T == "dict" | some (.dt _) => T == "dict" | _ => false
  | _ => false
theorem tyD_ok {T : String} {ρ : List Addr} {S : ST} {H : Hp} {d : D} {v : V} (s : Sim X.K X.mg ρ S H) (r : VR X.K ρ H d v) (h : tyD T S d = true) : tyV X.K T v H := by
  cases d with
  | str z => rw [VR_str] at r; subst r; exact beq_iff_eq.mp h
  | fl ds =>
    obtain ⟨p, vs, rfl, q, v1⟩ := VR_fl.mp r
    exact .inl ⟨beq_iff_eq.mp h, vs, q.sql⟩
  | ref n =>
    unfold tyD at h
    dsimp only at h
    split at h
    · rename_i h1
      obtain ⟨p, rfl, p1, vs, w1, v1⟩ := s.ref r h1
      exact .inl ⟨beq_iff_eq.mp h, vs, SqL.of w1⟩
    · rename_i h1
      obtain ⟨p, rfl, p1, vs, w1, v1⟩ := s.ref r h1
      exact .inr (.inr (.inl ⟨beq_iff_eq.mp h, .inl ⟨_, w1⟩⟩))
    · rename_i h1
      obtain ⟨p, rfl, p1, vs, w1, v1⟩ := s.ref r h1
      exact .inr (.inr (.inl ⟨beq_iff_eq.mp h, .inr ⟨_, w1⟩⟩))
    · cases h
  | _ => cases h
def eBm (T : String) (m : D → List D → C D) (f : ME) (g : MA) : ME := fun G S => (f G S).bind fun d S1 => if tyD T S1 d = true then (g G S1).bind fun ds S2 => m d ds S2 else .bad
theorem de_bm {T id : String} {name : Str} {apos cpos : Pos} {o : Expr} {fo : ME} {m : D → List D → C D} (hm : Bm X W id m) (pa : PlainAttrs T) (slot : Slot T name id) (hty : typeOf (.builtin id) = pure (.type "method_descriptor")) (ho : DE X W o fo) (ha : DA X W (e :: es) ga)
    (hbase : attributeBase o name X.env (eval o X.env) = eval o X.env := by rfl)
    (hfew : ((backTo cpos (starEach (e :: es) X.env)).all (fun x => !x.1) && (backToKw cpos (keywordEach [] X.env)).all (fun x => x.1.isSome) && decide ((e :: es).length + ([] : List Keyword).length + (if ([] : List Keyword).isEmpty then 0 else 1) < 30)) = true := by rfl)
    (hline : (apos.endLine == cpos.line) = true := by rfl) (hs : starEach (e :: es) X.env = (false, eval e X.env) :: starEach es X.env := by rfl) (hplain : (backTo cpos (starEach es X.env)).any (·.1) = false := by rfl) :
    DE X W (.Call (.Attribute o name apos) (e :: es) [] cpos) (eBm T m fo ga) := by
  obtain ⟨r, h1, h2⟩ := hm
  refine PE.weak (pe_bm pa slot hty h1 ho ha hbase hfew hline hs hplain) fun σ H Q h => ?_
  refine tG_mono (tG_bind (f := fo) (g := fun d G S1 => if tyD T S1 d = true then (ga G S1).bind fun ds S2 => m d ds S2 else .bad) h) fun x H1 q => ?_
  obtain ⟨ρ, G, S, d, g, s, r1, o⟩ := q
  split at o
  · rename_i c
    refine ⟨tyD_ok s r1 c, ρ, G, S, g, s, OutG.mono (out_bind (rel := rVs X) o) (.refl _ _) fun y H2 q2 => ?_⟩
    obtain ⟨ρ2, S2, e, x2, s2, r2, o2⟩ := q2
    exact h2 ρ2 S2 H2 σ d e x y Q s2 (VR.mono x2 r1) r2 o2
  · exact o.elim
def eBm0 (T : String) (m : D → List D → C D) (f : ME) : ME := fun G S => (f G S).bind fun d S1 => if tyD T S1 d = true then m d [] S1 else .bad
theorem de_bm0 {T id : String} {name : Str} {apos cpos : Pos} {o : Expr} {fo : ME} {m : D → List D → C D} (hm : Bm X W id m) (pa : PlainAttrs T) (slot : Slot T name id) (hty : typeOf (.builtin id) = pure (.type "method_descriptor")) (ho : DE X W o fo)
    (hbase : attributeBase o name X.env (eval o X.env) = eval o X.env := by rfl) (hline : (apos.endLine == cpos.line) = true := by rfl) : DE X W (.Call (.Attribute o name apos) [] [] cpos) (eBm0 T m fo) := by
  obtain ⟨r, h1, h2⟩ := hm
  refine PE.weak (pe_bm0 pa slot hty h1 ho hbase hline) fun σ H Q h => ?_
  refine tG_mono (tG_bind (f := fo) (g := fun d G S1 => if tyD T S1 d = true then m d [] S1 else .bad) h) fun x H1 q => ?_
  obtain ⟨ρ, G, S, d, g, s, r1, o⟩ := q
  split at o
  · rename_i c
    exact ⟨tyD_ok s r1 c, h2 ρ S H1 σ d [] x [] Q s r1 .nil o⟩
  · exact o.elim
/-- a list in the store, for a method that writes it -/
def withL (d : D) (S : ST) (k : Nat → List D → R D) : R D := match d with
  | .ref n => match S[n]? with | some (.lst ds) => k n ds | _ => .bad
  | _ => .bad
theorem withL_ok {ρ : List Addr} {S : ST} {H : Hp} {σ : St} {d : D} {x : V} {Q : VK} {k : Nat → List D → R D} (s : Sim X.K X.mg ρ S H) (r : VR X.K ρ H d x) (o : OutG X W (rV X) ρ σ H (withL d S k) Q) :
    ∃ n ds a vs, x = .ref a ∧ ρ[n]? = some a ∧ S[n]? = some (.lst ds) ∧ H a = some (.lst vs) ∧ VRs X.K ρ H ds vs ∧ OutG X W (rV X) ρ σ H (k n ds) Q := by
  unfold withL at o
  split at o
  · split at o
    · rename_i h1
      obtain ⟨a, e, p1, vs, w1, v1⟩ := s.ref r h1
      exact ⟨_, _, a, vs, e, p1, h1, w1, v1, o⟩
    · exact o.elim
  · exact o.elim
/-- the list is written, a value given -/
theorem write_lst {ρ : List Addr} {S : ST} {H : Hp} {σ : St} {n : Nat} {a : Addr} {es : List D} {vs ws : List V} {d : D} {v : V} {Q : VK} (s : Sim X.K X.mg ρ S H) (p1 : ρ[n]? = some a) (w1 : H a = some (.lst vs))
    (o : OutG X W (rV X) ρ σ H (.ok d (S.set n (.lst es))) Q) (re : VRs X.K ρ H es ws) (rd : VR X.K ρ H d v) : Q v (upd H a (.lst ws)) := by
  have hm : Mut (H a) := by rw [w1]; exact True.intro
  exact o ρ _ v (.write hm) (s.write p1 hm ⟨ws, upd_same, re.mono (.write hm)⟩) (VR.mono (.write hm) rd)
def bAppend : D → List D → C D := fun d ds S => match ds with
  | [y] => withL d S fun n es => if es.length < SZ then .ok .non (S.set n (.lst (es ++ [y]))) else .bad
  | _ => .bad
theorem bm_append : Bm X W "list.append" bAppend := by
  refine ⟨_, mt_append, fun ρ S H σ d ds x xs Q s r1 r2 o => ?_⟩
  unfold bAppend at o
  split at o
  · obtain ⟨v, rfl, r3⟩ := r2.one
    obtain ⟨n, es, a, vs, rfl, p1, h1, w1, v1, o⟩ := withL_ok s r1 o
    split at o
    · rename_i c
      exact ⟨a, vs, v, rfl, rfl, w1, by rw [sizeLine_eq, ← v1.length]; exact c, write_lst s p1 w1 o (v1.append (.cons r3 .nil)) (VR_non.mpr rfl)⟩
    · exact o.elim
  · exact o.elim
def bPop : D → List D → C D := fun d ds S => match ds with
  | [] => withL d S fun n es => match es[es.length - 1]? with | some y => .ok y (S.set n (.lst es.dropLast)) | none => .bad
  | _ => .bad
theorem bm_pop : Bm X W "list.pop" bPop := by
  refine ⟨_, mt_pop, fun ρ S H σ d ds x xs Q s r1 r2 o => ?_⟩
  unfold bPop at o
  split at o
  · obtain ⟨n, es, a, vs, rfl, p1, h1, w1, v1, o⟩ := withL_ok s r1 o
    split at o
    · rename_i y c
      obtain ⟨v, e2, r3⟩ := v1.get c
      exact ⟨a, vs, v, rfl, r2.nil_l, w1, by rw [← v1.length]; exact e2, write_lst s p1 w1 o v1.dropLast r3⟩
    · exact o.elim
  · exact o.elim
def bPopAt : D → List D → C D := fun d ds S => match ds with
  | [.int i] => withL d S fun n es => match ixN es.length i with
    | some k => (match es[k]? with | some y => if es.length ≤ SZ then .ok y (S.set n (.lst (es.eraseIdx k))) else .bad | none => .bad)
    | none => .bad
  | _ => .bad
theorem bm_popAt : Bm X W "list.pop" bPopAt := by
  refine ⟨_, mt_popAt, fun ρ S H σ d ds x xs Q s r1 r2 o => ?_⟩
  unfold bPopAt at o
  split at o
  · rename_i i
    obtain ⟨w, rfl, r4⟩ := r2.one
    rw [VR_int] at r4; subst r4
    obtain ⟨n, es, a, vs, rfl, p1, h1, w1, v1, o⟩ := withL_ok s r1 o
    split at o
    · rename_i k hk
      split at o
      · rename_i y c
        split at o
        · rename_i hl
          obtain ⟨v, e2, r3⟩ := v1.get c
          obtain ⟨q1, q2, q3, q4⟩ := ixN_seq hk
          simp only [SZ] at hl
          exact ⟨a, vs, i, k, v, rfl, rfl, w1, by omega, by omega, by rw [← v1.length]; exact q1, e2, write_lst s p1 w1 o (v1.eraseIdx k) r3⟩
        · exact o.elim
      · exact o.elim
    · exact o.elim
  · exact o.elim
def bInsert : D → List D → C D := fun d ds S => match ds with
  | [.int i, y] => withL d S fun n es => if es.length < SZ ∧ 0 ≤ i ∧ i < 16777216 then .ok .non (S.set n (.lst (es.take i.toNat ++ [y] ++ es.drop i.toNat))) else .bad
  | _ => .bad
theorem bm_insert : Bm X W "list.insert" bInsert := by
  refine ⟨_, mt_insert, fun ρ S H σ d ds x xs Q s r1 r2 o => ?_⟩
  unfold bInsert at o
  split at o
  · rename_i i y
    obtain ⟨w, v, rfl, r4, r3⟩ := r2.two
    rw [VR_int] at r4; subst r4
    obtain ⟨n, es, a, vs, rfl, p1, h1, w1, v1, o⟩ := withL_ok s r1 o
    split at o
    · rename_i c
      exact ⟨a, vs, i, v, rfl, rfl, w1, by rw [sizeLine_eq, ← v1.length]; exact c.1, c.2.1, by omega, write_lst s p1 w1 o (((v1.take _).append (.cons r3 .nil)).append (v1.drop _)) (VR_non.mpr rfl)⟩
    · exact o.elim
  · exact o.elim
/-- list.remove of an int -/
def idxI (ns : List Int) (k : Int) : Option Nat := ns.findIdx? fun n => decide (n = k)
def bRemove : D → List D → C D := fun d ds S => match ds with
  | [.int k] => withL d S fun n es => match intsD es with
    | some ns => (match idxI ns k with | some j => .ok .non (S.set n (.lst ((ns.eraseIdx j).map D.int))) | none => .bad)
    | none => .bad
  | _ => .bad
theorem bm_remove : Bm X W "list.remove" bRemove := by
  refine ⟨_, mt_remove, fun ρ S H σ d ds x xs Q s r1 r2 o => ?_⟩
  unfold bRemove at o
  split at o
  · rename_i k
    obtain ⟨w, rfl, r4⟩ := r2.one
    rw [VR_int] at r4; subst r4
    obtain ⟨n, es, a, vs, rfl, p1, h1, w1, v1, o⟩ := withL_ok s r1 o
    split at o
    · rename_i ns hn
      split at o
      · rename_i j hj
        have e := intsD_eq hn
        subst e
        have ev := v1.ints
        subst ev
        unfold idxI at hj
        rw [List.findIdx?_eq_some_iff_getElem] at hj
        obtain ⟨hl, e1, e2⟩ := hj
        refine ⟨a, ns, k, j, rfl, rfl, w1, ?_, fun m hm z => ?_, write_lst s p1 w1 o (VRs.of_ints _) (VR_non.mpr rfl)⟩
        · rw [List.getElem?_eq_getElem hl]
          simpa using e1
        · have hml : m < ns.length := by omega
          have := e2 m hm
          rw [List.getElem?_eq_getElem hml] at z
          simp at this z
          exact this z
      · exact o.elim
    · exact o.elim
  · exact o.elim
def bExtend : D → List D → C D := fun d ds S => match ds with
  | [.ref m] => withL d S fun n es => match S[m]? with | some (.lst zs) => if es.length + zs.length ≤ SZ then .ok .non (S.set n (.lst (es ++ zs))) else .bad | _ => .bad
  | _ => .bad
theorem bm_extend : Bm X W "list.extend" bExtend := by
  refine ⟨_, mt_extend, fun ρ S H σ d ds x xs Q s r1 r2 o => ?_⟩
  unfold bExtend at o
  split at o
  · obtain ⟨w, rfl, r4⟩ := r2.one
    obtain ⟨n, es, a, vs, rfl, p1, h1, w1, v1, o⟩ := withL_ok s r1 o
    split at o
    · rename_i h2
      obtain ⟨b, rfl, p2, ws, w2, v2⟩ := s.ref r4 h2
      split at o
      · rename_i c
        exact ⟨a, b, vs, ws, rfl, rfl, w1, w2, by rw [sizeLine_eq, ← v1.length, ← v2.length]; exact c, write_lst s p1 w1 o (v1.append v2) (VR_non.mpr rfl)⟩
      · exact o.elim
    · exact o.elim
  · exact o.elim
end
end Mir

namespace Mir
open PySem L2
theorem ofString_inj {a b : String} : (Str.ofString a = Str.ofString b) ↔ a = b := by
  constructor
  · intro h
    rw [Str.ofString_eq_toList, Str.ofString_eq_toList] at h
    have h1 : (a.toList.map Char.toNat) = b.toList.map Char.toNat := by
      have := congrArg (fun x : Str => x.cps.toList) h
      simpa using this
    have h2 : a.toList = b.toList := (List.map_inj_right fun x y e => Char.toNat_inj.mp e).mp h1
    rw [← String.ofList_toList (s := a), ← String.ofList_toList (s := b), h2]
  · exact fun h => by rw [h]

/-! ### statements -/
def R.s {α : Type} (r : R α) (G : GE) (k : α → ST → RS) : RS := match r with
  | .ok a S => k a S
  | .exc c fs S => .exc c fs G S
  | .bad => .bad
@[simp] theorem R.s_ok {α : Type} (a : α) (S : ST) (G : GE) (k : α → ST → RS) : (R.ok a S).s G k = k a S := rfl
@[simp] theorem R.s_exc {α : Type} (c fs) (S : ST) (G : GE) (k : α → ST → RS) : (R.exc c fs S : R α).s G k = .exc c fs G S := rfl
@[simp] theorem R.s_bad {α : Type} (G : GE) (k : α → ST → RS) : (R.bad : R α).s G k = .bad := rfl
section
variable {X : Cx} {W : WX} {a b c e : Expr} {es : List Expr} {fa fb fc fe : ME} {ga : MA} {pos p : Pos} {x : Str} {α β : Type} {rel : List Addr → Hp → α → β → Prop}
/-- an expression, then the rest of a statement -/
theorem tS_bind {f : GE → ST → R α} {k : α → GE → ST → RS} {Dn : Ends} {σ : St} {H : Hp} (h : tS X W (fun G S => (f G S).s G fun a S1 => k a G S1) Dn σ H) :
    tG X W rel f σ H fun v H1 => ∃ ρ G S a, GR X.K ρ H1 G σ ∧ Sim X.K X.mg ρ S H1 ∧ rel ρ H1 a v ∧ OutS X W ρ H1 (k a G S) Dn := by
  obtain ⟨ρ, G, S, g, s, o⟩ := h
  refine ⟨ρ, G, S, g, s, ?_⟩
  dsimp only at o
  cases e : f G S with
  | ok a S1 =>
    rw [e] at o
    exact fun ρ1 H1 v x1 s1 r1 => ⟨ρ1, G, S1, a, g.mono x1, s1, r1, OutS.mono (r := k a G S1) o x1⟩
  | exc c fs S1 =>
    rw [e] at o
    exact fun ρ1 H1 cls dx x1 s1 r1 => o ρ1 H1 σ cls dx x1 s1 (g.mono x1) r1
  | bad =>
    rw [e] at o
    exact o
theorem outS_bind {ρ : List Addr} {σ : St} {H : Hp} {r : R α} {G : GE} {k : α → ST → RS} {Dn : Ends} (g : GR X.K ρ H G σ) (o : OutS X W ρ H (r.s G k) Dn) :
    OutG X W rel ρ σ H r fun v H1 => ∃ ρ1 S1 a, Ext ρ H ρ1 H1 ∧ Sim X.K X.mg ρ1 S1 H1 ∧ rel ρ1 H1 a v ∧ OutS X W ρ1 H1 (k a S1) Dn := by
  cases r with
  | ok a S1 => exact fun ρ1 H1 v x1 s1 r1 => ⟨ρ1, S1, a, x1, s1, r1, OutS.mono (r := k a S1) o x1⟩
  | exc c fs S1 => exact fun ρ1 H1 cls dx x1 s1 r1 => o ρ1 H1 σ cls dx x1 s1 (g.mono x1) r1
  | bad => exact o
/-- behind a statement that goes on -/
theorem outS_nx {ρ : List Addr} {σ : St} {H : Hp} {G : GE} {S : ST} {Dn : Ends} (g : GR X.K ρ H G σ) (s : Sim X.K X.mg ρ S H) (o : OutS X W ρ H (.nx G S) Dn) : Dn.nx σ H := o ρ H σ (.refl _ _) s g
def sNil : MS := fun G S => .nx G S
def sSeq (f g : MS) : MS := fun G S => match f G S with
  | .nx G' S' => g G' S'
  | r => r
theorem dss_nil : DSs X W [] sNil := PSs.weak pss_nil fun D σ H h => by
  obtain ⟨ρ, G, S, g, s, o⟩ := h
  exact outS_nx g s o
theorem dss_one {st : Stmt} {f : MS} (h : DS X W st f) : DSs X W [st] f := pss_one h
theorem tS_seq {f g : MS} {Dn : Ends} {σ : St} {H : Hp} (h : tS X W (sSeq f g) Dn σ H) : tS X W f { Dn with nx := tS X W g Dn } σ H := by
  obtain ⟨ρ, G, S, gr, s, o⟩ := h
  refine ⟨ρ, G, S, gr, s, ?_⟩
  unfold sSeq at o
  cases e : f G S with
  | nx G' S' =>
    rw [e] at o
    exact fun ρ1 H1 σ1 x1 s1 g1 => ⟨ρ1, G', S', g1, s1, o.mono x1⟩
  | rt d S' => rw [e] at o; exact o
  | bk G' S' => rw [e] at o; exact o
  | ct G' S' => rw [e] at o; exact o
  | exc c fs G' S' => rw [e] at o; exact o
  | bad => rw [e] at o; exact o
theorem dss_cons {st : Stmt} {rest : List Stmt} {f g : MS} (h1 : DS X W st f) (h2 : DSs X W rest g) : DSs X W (st :: rest) (sSeq f g) := PSs.weak (pss_cons h1 h2) fun D σ H h => tS_seq h
def sBreak : MS := fun G S => .bk G S
def sCont : MS := fun G S => .ct G S
theorem ds_pass : DS X W (.Pass pos) sNil := PS.weak ps_pass fun D σ H h => by
  obtain ⟨ρ, G, S, g, s, o⟩ := h
  exact outS_nx g s o
theorem ds_break : DS X W (.Break pos) sBreak := PS.weak ps_break fun D σ H h => by
  obtain ⟨ρ, G, S, g, s, o⟩ := h
  exact o ρ H σ (.refl _ _) s g
theorem ds_continue : DS X W (.Continue pos) sCont := PS.weak ps_continue fun D σ H h => by
  obtain ⟨ρ, G, S, g, s, o⟩ := h
  exact o ρ H σ (.refl _ _) s g
theorem ds_doc {x j pos pos'} : DS X W (.Expr (.Constant (.str x) j pos) pos') sNil := PS.weak ps_doc fun D σ H h => by
  obtain ⟨ρ, G, S, g, s, o⟩ := h
  exact outS_nx g s o
def sExpr (f : ME) : MS := fun G S => (f G S).s G fun _ S1 => .nx G S1
theorem ds_expr (he : DE X W e fe) (hs : swapsWith e none pos.line X.env = pure false := by rfl) : DS X W (.Expr e pos) (sExpr fe) := PS.weak (ps_expr he hs) fun D σ H h => by
  refine tG_mono (tS_bind (f := fe) (k := fun _ G S1 => .nx G S1) (rel := rV X) h) fun v H1 q => ?_
  obtain ⟨ρ, G, S, d, g, s, r, o⟩ := q
  exact outS_nx g s o
def sRet (f : ME) : MS := fun G S => (f G S).s G fun d S1 => .rt d S1
theorem ds_ret (he : DE X W e fe) : DS X W (.Return (some e) pos) (sRet fe) := PS.weak (ps_ret he) fun D σ H h => by
  refine tG_mono (tS_bind (f := fe) (k := fun d G S1 => .rt d S1) (rel := rV X) h) fun v H1 q => ?_
  obtain ⟨ρ, G, S, d, g, s, r, o⟩ := q
  exact o ρ H1 v (.refl _ _) s r
def sRetN : MS := fun _ S => .rt .non S
theorem ds_retN : DS X W (.Return none pos) sRetN := PS.weak ps_retN fun D σ H h => by
  obtain ⟨ρ, G, S, g, s, o⟩ := h
  exact o ρ H .non (.refl _ _) s (VR_non.mpr rfl)
def sIf (t : MT) (f g : MS) : MS := fun G S => (t G S).s G fun k S1 => if k = true then f G S1 else g G S1
theorem ds_if {t : MT} {f g : MS} {p q : List Stmt} (hc : DT X W c t) (ha : DSs X W p f) (hb : DSs X W q g) : DS X W (.If c p q pos) (sIf t f g) := PS.weak (ps_if hc ha hb) fun D σ H h => by
  refine tG_mono (tS_bind (f := t) (k := fun k G S1 => if k = true then f G S1 else g G S1) (rel := rB) h) fun v H1 q => ?_
  obtain ⟨ρ, G, S, d, gr, s, r, o⟩ := q
  have r : v = d := r
  subst r
  by_cases k : v = true
  · rw [if_pos k] at o ⊢; exact ⟨ρ, G, S, gr, s, o⟩
  · rw [if_neg k] at o ⊢; exact ⟨ρ, G, S, gr, s, o⟩

/-! ### targets -/
inductive Tg where
  | nm (i : Nat)
  | tp (is : List Nat)
def setG (G : GE) : List Nat → List D → GE
  | i :: is, d :: ds => setG (G.set i (some d)) is ds
  | _, _ => G
def setσ (σ : St) : List Nat → List V → St
  | i :: is, v :: vs => setσ (σ.set i (some v)) is vs
  | _, _ => σ
theorem GR.sets {ρ : List Addr} {H : Hp} : ∀ {is : List Nat} {G : GE} {σ : St} {ds : List D} {vs : List V}, GR X.K ρ H G σ → VRs X.K ρ H ds vs → GR X.K ρ H (setG G is ds) (setσ σ is vs)
  | [], G, σ, ds, vs, g, r => by
    cases ds <;> cases vs <;> exact g
  | i :: is, G, σ, [], vs, g, r => by rw [r.nil_l]; exact g
  | i :: is, G, σ, d :: ds, vs, g, r => by
    obtain ⟨v, r', rfl, h1, h2⟩ := r.cons_l
    exact GR.sets (is := is) (g.set i h1) h2
def gNames : List Nat → TGs
  | [] => gNil
  | i :: is => gCons (gName i) (gNames is)
theorem gNames_ok : ∀ {is : List Nat} {vs : List V} {σ : St} {H : Hp} {Q : St → Hp → Prop}, vs.length = is.length → Q (setσ σ is vs) H → gNames is vs σ H Q
  | [], vs, σ, H, Q, e, q => by
    have : vs = [] := List.length_eq_zero_iff.mp (by simpa using e)
    subst this
    exact ⟨rfl, q⟩
  | i :: is, [], σ, H, Q, e, q => by simp at e
  | i :: is, v :: vs, σ, H, Q, e, q => ⟨v, vs, rfl, gNames_ok (by simpa using e) q⟩
def tgOf (K : PySem.W.Frag) : Tg → TG
  | .nm i => gName i
  | .tp is => fun v σ H Q => gTup K is.length (gNames is) v σ H Q ∨ gUnl K is.length (gNames is) v σ H Q
/-- a judgement of a target -/
def DG (X : Cx) (tg : Expr) (t : Tg) : Prop := PG X tg (tgOf X.K t)
theorem dg_name {i : Nat} {pos : Pos} (hN : X.N.Nodup) (hi : X.N[i]? = some x) (hx : Loc X.env.scope x) (hf : X.fn x = true ∨ X.env.scope.names.lookup x = some .local := by first | exact .inl rfl | exact .inr rfl | assumption) : DG X (.Name x pos) (.nm i) := pg_name hN hi hx hf
theorem dgs_nil : PGs X [] (gNames []) := pgs_nil
theorem dgs_cons {i : Nat} {is : List Nat} (h1 : DG X e (.nm i)) (h2 : PGs X es (gNames is)) (hs : (assignEach (e :: es) X.env).map (·.2) = assign e X.env :: (assignEach es X.env).map (·.2) := by rfl) : PGs X (e :: es) (gNames (i :: is)) := pgs_cons h1 h2 hs
theorem dg_tup {is : List Nat} {k : Nat} (hc : X.calm = true) (h : PGs X es (gNames is)) (hn : (assignEach es X.env).length = is.length := by rfl) (hst : (assignEach es X.env).findIdx? (·.1) = none := by rfl) : DG X (.Tuple es k pos) (.tp is) :=
  ⟨fun pins s σ H v u Q I r q => q.elim ((pg_tup hc h hn hst).run pins s σ H v u Q I r) ((pg_unl hc h hn hst).run pins s σ H v u Q I r)⟩
def bindT (t : Tg) (d : D) (G : GE) (S : ST) : Option GE := match t with
  | .nm i => some (G.set i (some d))
  | .tp is => match d.items S with | some ds => if ds.length = is.length then some (setG G is ds) else none | none => none
def Tg.slots : Tg → List Nat
  | .nm i => [i]
  | .tp is => is
theorem bindT_ok {t : Tg} {d : D} {G G' : GE} {S : ST} {ρ : List Addr} {H : Hp} {σ : St} {v : V} {Q : St → Hp → Prop} (s : Sim X.K X.mg ρ S H) (g : GR X.K ρ H G σ) (r : VR X.K ρ H d v) (h : bindT t d G S = some G')
    (q : ∀ vs, vs.length = t.slots.length → GR X.K ρ H G' (setσ σ t.slots vs) → Q (setσ σ t.slots vs) H) : tgOf X.K t v σ H Q := by
  cases t with
  | nm i =>
    cases h
    exact q [v] rfl (g.set i r)
  | tp is =>
    unfold bindT at h
    dsimp only at h
    split at h
    · rename_i ds hi
      split at h
      · rename_i hl
        cases h
        obtain ⟨p, vs, rfl, q1, v1⟩ := items_ok s r hi
        have e : vs.length = is.length := by rw [← v1.length]; exact hl
        have q' := q vs e (g.sets v1)
        rcases q1 with q1 | q1
        · exact .inr ⟨p, vs, rfl, q1, e, gNames_ok e q'⟩
        · exact .inl ⟨p, vs, rfl, q1, e, gNames_ok e q'⟩
      · cases h
    · cases h
def sSetT (t : Tg) (f : ME) : MS := fun G S => (f G S).s G fun d S1 => match bindT t d G S1 with | some G' => .nx G' S1 | none => .bad
theorem setT_end {t : Tg} {D : Ends} {σ : St} {H : Hp} (h : tS X W (sSetT t fe) D σ H) : tAsg (tE X W fe) (tgOf X.K t) D σ H := by
  refine tG_mono (tS_bind (f := fe) (k := fun d G S1 => match bindT t d G S1 with | some G' => .nx G' S1 | none => .bad) (rel := rV X) h) fun v H1 q => ?_
  obtain ⟨ρ, G, S, d, g, s, r, o⟩ := q
  split at o
  · rename_i G' hG
    exact bindT_ok s g r hG fun vs _ g' => outS_nx g' s o
  · exact o.elim
theorem ds_asg {tg : Expr} {t : Tg} (he : DE X W e fe) (hg : DG X tg t) (hs : swapsWithSole [tg] e pos.line X.env = pure false := by rfl) (hw : swappedStores [tg] e X.env = pure none := by rfl) (h1 : (assignEach [tg] X.env).map (·.2) = [assign tg X.env] := by rfl) :
    DS X W (.Assign [tg] e pos) (sSetT t fe) := PS.weak (ps_asg he hg hs hw h1) fun D σ H h => setT_end h
def sSet (i : Nat) (f : ME) : MS := fun G S => (f G S).s G fun d S1 => .nx (G.set i (some d)) S1
theorem set_end {i : Nat} {D : Ends} {σ : St} {H : Hp} (h : tS X W (sSet i fe) D σ H) : tAsg (tE X W fe) (gName i) D σ H := by
  refine tG_mono (tS_bind (f := fe) (k := fun d G S1 => .nx (G.set i (some d)) S1) (rel := rV X) h) fun v H1 q => ?_
  obtain ⟨ρ, G, S, d, g, s, r, o⟩ := q
  exact outS_nx (g.set i r) s o
theorem ds_set {i : Nat} {pos' : Pos} (hN : X.N.Nodup) (hi : X.N[i]? = some x) (hx : Loc X.env.scope x) (he : DE X W e fe) (hs : swapsWith e (some (.Name x pos')) pos.line X.env = pure false := by rfl) (hf : X.fn x = true ∨ X.env.scope.names.lookup x = some .local := by first | exact .inl rfl | exact .inr rfl | assumption) :
    DS X W (.Assign [.Name x pos'] e pos) (sSet i fe) := PS.weak (ps_set hN hi hx he hs hf) fun D σ H h => set_end h
/-- a, b = e1, e2 -/
def sPar (i j : Nat) (f : MA) : MS := fun G S => (f G S).s G fun ds S1 => match ds with | [d, e] => .nx ((G.set i (some d)).set j (some e)) S1 | _ => .bad
theorem ds_par {i j : Nat} {x y : Str} {a b : Expr} {ga : MA} {px py pt : Pos} {kt k2 pt2} (hc : X.calm = true) (hN : X.N.Nodup) (hi : X.N[i]? = some x) (hj : X.N[j]? = some y) (hij : i ≠ j)
    (hx : X.env.scope.names.lookup x = some .local) (hy : X.env.scope.names.lookup y = some .local) (ha : DA X W [a, b] ga)
    (hw : swappedStores [.Tuple [.Name x px, .Name y py] kt pt] (.Tuple [a, b] k2 pt2) X.env = pure (some [x, y]) := by rfl)
    (hs : swapsWithSole [.Tuple [.Name x px, .Name y py] kt pt] (.Tuple [a, b] k2 pt2) pos.line X.env = pure false := by rfl) :
    DS X W (.Assign [.Tuple [.Name x px, .Name y py] kt pt] (.Tuple [a, b] k2 pt2) pos) (sPar i j ga) := PS.weak (ps_par hc hN hi hj hij hx hy ha hw hs) fun D σ H h => by
  refine tG_mono (tS_bind (f := ga) (k := fun ds G S1 => match ds with | [d, e] => .nx ((G.set i (some d)).set j (some e)) S1 | _ => .bad) (rel := rVs X) h) fun v H1 q => ?_
  obtain ⟨ρ, G, S, d, g, s, r, o⟩ := q
  split at o
  · obtain ⟨v, w, rfl, r1, r2⟩ := VRs.two r
    exact ⟨v, w, rfl, outS_nx ((g.set i r1).set j r2) s o⟩
  · exact o.elim
/-- x op= e -/
def sAug (i : Nat) (m : D → D → C D) (f : ME) : MS := fun G S => match G[i]? with
  | some (some d) => (f G S).s G fun e S1 => (m d e S1).s G fun z S2 => .nx (G.set i (some z)) S2
  | _ => .bad
theorem ds_aug {i : Nat} {op : Operator} {m : D → D → C D} {pos' : Pos} (hN : X.N.Nodup) (hi : X.N[i]? = some x) (hx : Loc X.env.scope x) (he : DE X W e fe) (ho : Op2 X W (inplaceOp op) m) (hf : X.fn x = true ∨ X.env.scope.names.lookup x = some .local := by first | exact .inl rfl | exact .inr rfl | assumption) :
    DS X W (.AugAssign (.Name x pos') op e pos) (sAug i m fe) := by
  obtain ⟨r, h1, h2⟩ := ho
  refine PS.weak (ps_aug hN hi hx he (ti := r) (fun pins s σ H x y v u Q I rx ry q => h1 pins s σ H x y v u Q I rx ry q) hf) fun D σ H h => ?_
  obtain ⟨ρ, G, S, g, s, o⟩ := h
  unfold sAug at o
  split at o
  · rename_i d hd
    obtain ⟨v, e1, rd⟩ := g.get i d hd
    refine ⟨v, e1, ?_⟩
    refine ⟨ρ, G, S, g, s, OutG.mono (outS_bind (rel := rV X) g o) (.refl _ _) fun y H1 q => ?_⟩
    obtain ⟨ρ1, S1, e, x1, s1, r1, o1⟩ := q
    refine h2 ρ1 S1 H1 σ d e v y _ s1 (VR.mono x1 rd) r1 (OutG.mono (outS_bind (rel := rV X) (g.mono x1) o1) (.refl _ _) fun z H2 q2 => ?_)
    obtain ⟨ρ2, S2, e2, x2, s2, r2, o2⟩ := q2
    exact outS_nx (((g.mono x1).mono x2).set i r2) s2 o2
  · exact o.elim

/-! ### o[i] = e -/
end
/-- a key's value: in its place, or at the end -/
def dput {κ α : Type} [DecidableEq κ] (kvs : List (κ × α)) (k : κ) (v : α) : List (κ × α) :=
  if kvs.any (fun kv => decide (kv.1 = k)) = true then kvs.map fun kv => if kv.1 = k then (kv.1, v) else kv else kvs ++ [(k, v)]
section
variable {κ : Type} [DecidableEq κ] {K : PySem.W.Frag} {ρ : List Addr} {H : Hp}
theorem FR.nil_l {α : Type} {ws : List (α × V)} (h : FR K ρ H ([] : List (α × D)) ws) : ws = [] := by
  have := h.1
  cases ws with
  | nil => rfl
  | cons _ _ => simp at this
theorem FR.cons_l {α : Type} {k : α} {d : D} {kvs : List (α × D)} {ws : List (α × V)} (h : FR K ρ H ((k, d) :: kvs) ws) : ∃ v r, ws = (k, v) :: r ∧ VR K ρ H d v ∧ FR K ρ H kvs r := by
  obtain ⟨h1, h2⟩ := h
  cases ws with
  | nil => simp at h1
  | cons p r =>
    obtain ⟨k', v⟩ := p
    simp only [List.map_cons, List.cons.injEq] at h1 h2
    obtain ⟨rfl, h1⟩ := h1
    obtain ⟨a, b⟩ := h2.cons_inv
    exact ⟨v, r, rfl, a, h1, b⟩
theorem FR.cons {α : Type} {k : α} {d : D} {v : V} {kvs : List (α × D)} {ws : List (α × V)} (r : VR K ρ H d v) (h : FR K ρ H kvs ws) : FR K ρ H ((k, d) :: kvs) ((k, v) :: ws) :=
  ⟨by simp [h.1], by simpa using VRs.cons r h.2⟩
theorem FR.nil {α : Type} : FR K ρ H ([] : List (α × D)) [] := ⟨rfl, by simpa using VRs.nil⟩
theorem FR.append {α : Type} : ∀ {kvs kvs' : List (α × D)} {ws ws' : List (α × V)}, FR K ρ H kvs ws → FR K ρ H kvs' ws' → FR K ρ H (kvs ++ kvs') (ws ++ ws')
  | [], _, _, _, h, t => by rw [h.nil_l]; exact t
  | (k, d) :: kvs, _, _, _, h, t => by
    obtain ⟨v, r, rfl, h1, h2⟩ := h.cons_l
    exact .cons h1 (FR.append h2 t)
theorem FR.length {α : Type} {kvs : List (α × D)} {ws : List (α × V)} (h : FR K ρ H kvs ws) : kvs.length = ws.length := by
  have := congrArg List.length h.1
  simpa using this
theorem FR.any {kvs : List (κ × D)} {ws : List (κ × V)} (k : κ) (h : FR K ρ H kvs ws) : (kvs.any fun kv => decide (kv.1 = k)) = ws.any fun kv => decide (kv.1 = k) := by
  have e : ∀ {β : Type} (l : List (κ × β)), (l.any fun kv => decide (kv.1 = k)) = (l.map (·.1)).any fun j => decide (j = k) := fun l => by rw [List.any_map]; rfl
  rw [e, e, h.1]
theorem FR.repl {k : κ} {d : D} {v : V} (r : VR K ρ H d v) : ∀ {kvs : List (κ × D)} {ws : List (κ × V)}, FR K ρ H kvs ws → FR K ρ H (kvs.map fun kv => if kv.1 = k then (kv.1, d) else kv) (ws.map fun kv => if kv.1 = k then (kv.1, v) else kv)
  | [], ws, h => by rw [h.nil_l]; exact .nil
  | (j, e) :: kvs, ws, h => by
    obtain ⟨u, t, rfl, h1, h2⟩ := h.cons_l
    have ih := FR.repl (k := k) r h2
    rw [List.map_cons, List.map_cons]
    by_cases q : j = k
    · simp only [q, if_true]; exact .cons r ih
    · simp only [q, if_false]; exact .cons h1 ih
theorem FR.put {kvs : List (κ × D)} {ws : List (κ × V)} {k : κ} {d : D} {v : V} (h : FR K ρ H kvs ws) (r : VR K ρ H d v) : FR K ρ H (dput kvs k d) (putK ws k v) := by
  unfold dput putK
  rw [h.any k]
  split
  · exact h.repl r
  · exact h.append (.cons r .nil)
end
section
variable {X : Cx} {W : WX} {a b c e o i : Expr} {es : List Expr} {fa fb fc fe fo fi : ME} {ga : MA} {pos p : Pos} {x : Str}
/-- the store behind d[k] = v -/
def putD (S : ST) (d k v : D) : Option ST := match d with
  | .ref n => match S[n]? with
    | some (.lst ds) => (match k with | .int i => (ixN ds.length i).map fun j => S.set n (.lst (ds.set j v)) | _ => none)
    | some (.dk kvs) => (match k.key with | some k => if kvs.length < SZ then some (S.set n (.dk (dput kvs k v))) else none | none => none)
    | _ => none
  | _ => none
/-- the heap behind it -/
def PutV (H : Hp) (o i v : V) (H' : Hp) : Prop := (∃ p xs k j, o = .ref p ∧ i = .int k ∧ H p = some (.lst xs) ∧ ixN xs.length k = some j ∧ H' = upd H p (.lst (xs.set j v))) ∨ ∃ a, o = .ref a ∧ DPut H a i v H'
theorem putD_ok {ρ : List Addr} {S S' : ST} {H : Hp} {d k v : D} {x y z : V} (s : Sim X.K X.mg ρ S H) (r1 : VR X.K ρ H d x) (r2 : VR X.K ρ H k y) (r3 : VR X.K ρ H v z) (h : putD S d k v = some S') :
    ∃ H', PutV H x y z H' ∧ Ext ρ H ρ H' ∧ Sim X.K X.mg ρ S' H' := by
  cases d with
  | ref n =>
    unfold putD at h
    dsimp only at h
    split at h
    · rename_i ds h1
      obtain ⟨a, rfl, p1, vs, w1, v1⟩ := s.ref r1 h1
      have hm : Mut (H a) := by rw [w1]; exact True.intro
      split at h
      · rw [Option.map_eq_some_iff] at h
        obtain ⟨j, e1, rfl⟩ := h
        rw [VR_int] at r2; subst r2
        exact ⟨_, .inl ⟨a, vs, _, j, rfl, rfl, w1, by rw [← v1.length]; exact e1, rfl⟩, .write hm, s.write p1 hm ⟨_, upd_same, (v1.set j r3).mono (.write hm)⟩⟩
      · cases h
    · rename_i kvs h1
      obtain ⟨a, rfl, p1, ws, w1, v1⟩ := s.ref r1 h1
      have hm : Mut (H a) := by rw [w1]; exact True.intro
      split at h
      · rename_i k' e1
        split at h
        · rename_i hl
          cases h
          have e2 := r2.key e1
          subst e2
          exact ⟨_, .inr ⟨a, rfl, DPut.k w1 (by rw [sizeLine_eq, ← v1.length]; exact hl)⟩, .write hm, s.write p1 hm ⟨_, upd_same, (v1.put r3).mono (.write hm)⟩⟩
        · cases h
      · cases h
    · cases h
  | _ => cases h
def sPut (fo fi fe : ME) : MS := fun G S => (fe G S).s G fun v S1 => (fo G S1).s G fun o S2 => (fi G S2).s G fun i S3 => match putD S3 o i v with | some S4 => .nx G S4 | none => .bad
def rPut : V → V → V → Hp → (Hp → Prop) → Prop := fun o i v H Q => rSetL o i v H Q ∨ rSetD o i v H Q
theorem set_both (hu : X.A.units + 65 < cLine) : PSet X rPut := fun pins s σ H o i v ov iv u Q I r1 r2 r3 h =>
  h.elim (set_list pins s σ H o i v ov iv u Q I r1 r2 r3) (set_dict (by omega) pins s σ H o i v ov iv u Q I r1 r2 r3)
theorem PutV.r {H H' : Hp} {o i v : V} {Q : Hp → Prop} (h : PutV H o i v H') (q : Q H') : rPut o i v H Q := by
  rcases h with ⟨p, xs, k, j, rfl, rfl, h1, h2, rfl⟩ | ⟨a, rfl, g⟩
  · exact .inl ⟨p, xs, k, j, rfl, rfl, h1, h2, q⟩
  · exact .inr ⟨a, H', rfl, g, q⟩
theorem ds_put (hu : X.A.units + 65 < cLine) {tpos : Pos} (ho : DE X W o fo) (hi : DE X W i fi) (he : DE X W e fe)
    (hs : swapsWithSole [.Subscript o i tpos] e pos.line X.env = pure false := by rfl) (hw : swappedStores [.Subscript o i tpos] e X.env = pure none := by rfl) (h1 : (assignEach [.Subscript o i tpos] X.env).map (·.2) = [assign (.Subscript o i tpos) X.env] := by rfl)
    (ha : ∀ v, assign (.Subscript o i tpos) X.env v = (do
      let ov ← holding [v] (eval o X.env)
      let iv ← holding [v, ov] (eval i X.env)
      standAt tpos
      holding [v, ov, iv] (setItem ov iv v)
      release [v, ov, iv] []) := by intro _; rfl) :
    DS X W (.Assign [.Subscript o i tpos] e pos) (sPut fo fi fe) := PS.weak (ps_asg he (pg_sub ho hi (set_both hu) ha) hs hw h1) fun D σ H h => by
  refine tG_mono (tS_bind (f := fe) (k := fun v G S1 => (fo G S1).s G fun o S2 => (fi G S2).s G fun i S3 => match putD S3 o i v with | some S4 => .nx G S4 | none => .bad) (rel := rV X) h) fun v H1 q => ?_
  obtain ⟨ρ, G, S, d, g, s, r, o⟩ := q
  refine ⟨ρ, G, S, g, s, OutG.mono (outS_bind (rel := rV X) g o) (.refl _ _) fun y H2 q => ?_⟩
  obtain ⟨ρ2, S2, d2, x2, s2, r2, o2⟩ := q
  refine ⟨ρ2, G, S2, g.mono x2, s2, OutG.mono (outS_bind (rel := rV X) (g.mono x2) o2) (.refl _ _) fun z H3 q => ?_⟩
  obtain ⟨ρ3, S3, d3, x3, s3, r3, o3⟩ := q
  split at o3
  · rename_i S4 h4
    obtain ⟨H4, pv, x4, s4⟩ := putD_ok s3 (VR.mono x3 r2) r3 (VR.mono (x2.trans x3) r) h4
    refine pv.r ?_
    have g3 := (g.mono x2).mono x3
    exact o3 ρ3 H4 σ x4 s4 (g3.mono x4)
  · exact o3.elim
/-- d[k] op= e, a dict -/
def sPutAug (m : D → D → C D) (fo fi fe : ME) : MS := fun G S => (fo G S).s G fun o S1 => (fi G S1).s G fun i S2 => match dGet S2 o i with
  | some (some old) => (fe G S2).s G fun v S3 => (m old v S3).s G fun z S4 => (match (if o.isDict S4 = true then putD S4 o i z else none) with | some S5 => .nx G S5 | none => .bad)
  | _ => .bad
theorem ds_putAug (hu : X.A.units + 65 < cLine) {tpos : Pos} {op : Operator} {m : D → D → C D} (ho : DE X W o fo) (hi : DE X W i fi) (he : DE X W e fe) (hm : Op2 X W (inplaceOp op) m)
    (ha : ∀ ov iv new, augStore i ov iv new = (do holding [new, ov, iv] (setItem ov iv new); release [new, ov, iv] []; pure .next) := by intros; rfl) :
    DS X W (.AugAssign (.Subscript o i tpos) op e pos) (sPutAug m fo fi fe) := by
  obtain ⟨r, h1, h2⟩ := hm
  refine PS.weak (ps_daug (by omega) ho hi he (rd := r) (fun pins s σ H x y u v Q I rx ry q => h1 pins s σ H x y u v Q I rx ry q) ha) fun Dn σ H h => ?_
  refine tG_mono (tS_bind (f := fo) (k := fun o G S1 => (fi G S1).s G fun i S2 => match dGet S2 o i with
    | some (some old) => (fe G S2).s G fun v S3 => (m old v S3).s G fun z S4 => (match (if o.isDict S4 = true then putD S4 o i z else none) with | some S5 => .nx G S5 | none => .bad)
    | _ => .bad) (rel := rV X) h) fun x H1 q => ?_
  obtain ⟨ρ, G, S, d, g, s, r1, o⟩ := q
  refine ⟨ρ, G, S, g, s, OutG.mono (outS_bind (rel := rV X) g o) (.refl _ _) fun y H2 q => ?_⟩
  obtain ⟨ρ2, S2, d2, x2, s2, r2, o2⟩ := q
  split at o2
  · rename_i old hold
    obtain ⟨a, w, ea, gd, vo⟩ := dGet_ok s2 (VR.mono x2 r1) r2 hold
    cases w with
    | none => exact vo.elim
    | some w =>
      refine ⟨a, w, ea, gd, ?_⟩
      have g2 := g.mono x2
      refine ⟨ρ2, G, S2, g2, s2, OutG.mono (outS_bind (rel := rV X) g2 o2) (.refl _ _) fun z H3 q => ?_⟩
      obtain ⟨ρ3, S3, d3, x3, s3, r3, o3⟩ := q
      have g3 := g2.mono x3
      refine h2 ρ3 S3 H3 σ old d3 w z _ s3 (VR.mono x3 vo) r3 (OutG.mono (outS_bind (rel := rV X) g3 o3) (.refl _ _) fun z4 H4 q => ?_)
      obtain ⟨ρ4, S4, d4, x4, s4, r4, o4⟩ := q
      split at o4
      · rename_i S5 h5
        split at h5
        · rename_i hd
          obtain ⟨H5, pv, x5, s5⟩ := putD_ok s4 (VR.mono ((x2.trans x3).trans x4) r1) (VR.mono (x3.trans x4) r2) r4 h5
          refine ⟨H5, ?_, o4 ρ4 H5 σ x5 s5 ((g3.mono x4).mono x5)⟩
          rcases pv with ⟨p, xs, k, j, e1, e2, w1, e3, rfl⟩ | ⟨a', e1, gp⟩
          · -- a list is no dict
            exfalso
            cases d with
            | ref n =>
              have r1' := VR.mono ((x2.trans x3).trans x4) r1
              unfold D.isDict at hd
              dsimp only at hd
              split at hd
              · rename_i h6
                obtain ⟨q1, e4, p1, ws, w2, v1⟩ := s4.ref r1' h6
                rw [e4] at e1; cases e1
                rw [w1] at w2; cases w2
              · rename_i h6
                obtain ⟨q1, e4, p1, ws, w2, v1⟩ := s4.ref r1' h6
                rw [e4] at e1; cases e1
                rw [w1] at w2; cases w2
              · cases hd
            | _ => cases hd
          · rw [ea] at e1; cases e1; exact gp
        · cases h5
      · exact o4.elim
  · exact o2.elim

/-! ### attributes -/
/-- the classes that may bear the attribute f -/
def Bears (X : Cx) (cs : List Str) (f : Str) : Prop := ∀ c ∈ cs, ∀ C, X.mg c = some (.ref C) → Cls X.K C ∧ NoAttr X.K C f
theorem FR.lookup {K : PySem.W.Frag} {ρ : List Addr} {H : Hp} (f : Str) : ∀ {fs : List (Str × D)} {gs : List (Str × V)}, FR K ρ H fs gs → VRo K ρ H (fs.lookup f) (gs.lookup f)
  | [], gs, h => by rw [h.nil_l]; exact True.intro
  | (k, d) :: fs, gs, h => by
    obtain ⟨v, r, rfl, h1, h2⟩ := h.cons_l
    simp only [List.lookup]
    cases e : f == k with
    | true => exact h1
    | false => exact FR.lookup f h2
/-- the attributes with one put -/
def putA (f : Str) (v : D) : List (Str × D) → List (Str × D)
  | [] => [(f, v)]
  | (g, x) :: r => if g = f then (g, v) :: r else (g, x) :: putA f v r
theorem FR.putA {K : PySem.W.Frag} {ρ : List Addr} {H : Hp} {f : Str} {d : D} {v : V} (r : VR K ρ H d v) : ∀ {fs : List (Str × D)} {gs : List (Str × V)}, FR K ρ H fs gs → FR K ρ H (Mir.putA f d fs) (putF f v gs)
  | [], gs, h => by rw [h.nil_l]; exact .cons r .nil
  | (k, e) :: fs, gs, h => by
    obtain ⟨u, t, rfl, h1, h2⟩ := h.cons_l
    unfold Mir.putA putF
    by_cases q : k = f
    · rw [if_pos q, if_pos q]; exact .cons r h2
    · rw [if_neg q, if_neg q]; exact .cons h1 (FR.putA r h2)
def mFld (cs : List Str) (f : Str) : D → C D := fun d S => match d with
  | .ref n => (match S[n]? with
    | some (.ins c fs) => if c ∈ cs then (match fs.lookup f with | some d => .ok d S | none => .bad) else .bad
    | _ => .bad)
  | _ => .bad
theorem de_fld {cs : List Str} {f : Str} (hb : Bears X cs f) (he : DE X W e fe) (hba : attributeBase e f X.env (eval e X.env) = eval e X.env := by rfl) : DE X W (.Attribute e f pos) (e1 (mFld cs f) fe) := by
  refine PE.weak (pe_fld he hba) fun σ H Q h => ?_
  refine one (r := fun x H1 Q => ∃ a C dx fs v, x = .ref a ∧ H1 a = some (.ins C dx fs) ∧ Cls X.K C ∧ NoAttr X.K C f ∧ fs.lookup f = some v ∧ Q v H1) (fun ρ S H σ d x Q s r o => ?_) h
  unfold mFld at o
  split at o
  · split at o
    · rename_i h1
      split at o
      · rename_i hc
        split at o
        · rename_i d' hd
          obtain ⟨a, rfl, p1, C, dx, gs, hmg, w1, v1⟩ := s.ref r h1
          obtain ⟨k1, k2⟩ := hb _ hc C hmg
          have q := v1.lookup f
          rw [hd] at q
          cases e : gs.lookup f with
          | none => rw [e] at q; exact q.elim
          | some v => rw [e] at q; exact ⟨a, C, dx, gs, v, rfl, w1, k1, k2, e, o ρ H v (.refl _ _) s q⟩
        · exact o.elim
      · exact o.elim
    · exact o.elim
  · exact o.elim
/-- the store behind o.f = v -/
def putFD (cs : List Str) (f : Str) (S : ST) (o v : D) : Option ST := match o with
  | .ref n => (match S[n]? with
    | some (.ins c fs) => if c ∈ cs ∧ fs.length < 1000 then some (S.set n (.ins c (putA f v fs))) else none
    | _ => none)
  | _ => none
theorem putFD_ok {cs : List Str} {f : Str} {ρ : List Addr} {S S' : ST} {H : Hp} {d v : D} {x z : V} (hb : Bears X cs f) (s : Sim X.K X.mg ρ S H) (r1 : VR X.K ρ H d x) (r3 : VR X.K ρ H v z) (h : putFD cs f S d v = some S') :
    ∃ a C dx fs, x = .ref a ∧ H a = some (.ins C dx fs) ∧ Cls X.K C ∧ NoAttr X.K C f ∧ fs.length < 1000 ∧ Ext ρ H ρ (upd H a (.ins C dx (putF f z fs))) ∧ Sim X.K X.mg ρ S' (upd H a (.ins C dx (putF f z fs))) := by
  unfold putFD at h
  split at h
  · split at h
    · rename_i h1
      split at h
      · rename_i hc
        cases h
        obtain ⟨a, rfl, p1, C, dx, gs, hmg, w1, v1⟩ := s.ref r1 h1
        obtain ⟨k1, k2⟩ := hb _ hc.1 C hmg
        have hm : Mut (H a) := by rw [w1]; exact True.intro
        exact ⟨a, C, dx, gs, rfl, w1, k1, k2, by rw [← v1.length]; exact hc.2, .write hm, s.write p1 hm ⟨C, dx, _, hmg, upd_same, (v1.putA r3).mono (.write hm)⟩⟩
      · cases h
    · cases h
  · cases h
def sFld (cs : List Str) (f : Str) (fo fe : ME) : MS := fun G S => (fe G S).s G fun v S1 => (fo G S1).s G fun o S2 => match putFD cs f S2 o v with | some S3 => .nx G S3 | none => .bad
theorem ds_fld {cs : List Str} {f : Str} {pos' : Pos} (hb : Bears X cs f) (ho : DE X W o fo) (he : DE X W e fe) (hs : swapsWith e (some (.Attribute o f pos')) pos.line X.env = pure false := by rfl) : DS X W (.Assign [.Attribute o f pos'] e pos) (Mir.sFld cs f fo fe) :=
  PS.weak (ps_fld ho he hs) fun D σ H h => by
  refine tG_mono (tS_bind (f := fe) (k := fun v G S1 => (fo G S1).s G fun o S2 => match putFD cs f S2 o v with | some S3 => .nx G S3 | none => .bad) (rel := rV X) h) fun v H1 q => ?_
  obtain ⟨ρ, G, S, d, g, s, r, o⟩ := q
  refine ⟨ρ, G, S, g, s, OutG.mono (outS_bind (rel := rV X) g o) (.refl _ _) fun y H2 q => ?_⟩
  obtain ⟨ρ2, S2, d2, x2, s2, r2, o2⟩ := q
  split at o2
  · rename_i S3 h3
    obtain ⟨a, C, dx, fs, rfl, w1, k1, k2, hl, x3, s3⟩ := putFD_ok hb s2 r2 (VR.mono x2 r) h3
    exact ⟨a, C, dx, fs, rfl, w1, k1, k2, hl, o2 ρ2 _ σ x3 s3 ((g.mono x2).mono x3)⟩
  · exact o2.elim
/-- o.f op= e -/
def sFldAug (c : Str) (f : Str) (m : D → D → C D) (fo fe : ME) : MS := fun G S => (fo G S).s G fun o S1 => (mFld [c] f o S1).s G fun old S2 => (fe G S2).s G fun v S3 => (m old v S3).s G fun z S4 => match putFD [c] f S4 o z with | some S5 => .nx G S5 | none => .bad
theorem ds_fldAug {c : Str} {f : Str} {tpos : Pos} {op : Operator} {m : D → D → C D} (hb : Bears X [c] f) (ho : DE X W o fo) (he : DE X W e fe) (hm : Op2 X W (inplaceOp op) m) : DS X W (.AugAssign (.Attribute o f tpos) op e pos) (Mir.sFldAug c f m fo fe) := by
  obtain ⟨r, h1, h2⟩ := hm
  refine PS.weak (ps_fldaug ho he (rd := r) (fun pins s σ H x y u v Q I rx ry q => h1 pins s σ H x y u v Q I rx ry q)) fun D σ H h => ?_
  refine tG_mono (tS_bind (f := fo) (k := fun o G S1 => (mFld [c] f o S1).s G fun old S2 => (fe G S2).s G fun v S3 => (m old v S3).s G fun z S4 => match putFD [c] f S4 o z with | some S5 => .nx G S5 | none => .bad) (rel := rV X) h) fun x H1 q => ?_
  obtain ⟨ρ, G, S, d, g, s, r1, o⟩ := q
  unfold mFld at o
  split at o
  · rename_i n
    split at o
    · rename_i c0 fs0 h5
      split at o
      · rename_i hc
        split at o
        · rename_i d' hd
          obtain ⟨a, rfl, p1, C, dx, gs, hmg, w1, v1⟩ := s.ref r1 h5
          obtain ⟨k1, k2⟩ := hb _ hc C hmg
          have q := v1.lookup f
          rw [hd] at q
          cases e : gs.lookup f with
          | none => rw [e] at q; exact q.elim
          | some v =>
            rw [e] at q
            have q : VR X.K ρ H1 d' v := q
            refine ⟨a, C, dx, gs, v, rfl, w1, k1, k2, e, ?_⟩
            rw [R.s_ok] at o
            refine ⟨ρ, G, S, g, s, OutG.mono (outS_bind (rel := rV X) g o) (.refl _ _) fun y H2 q2 => ?_⟩
            obtain ⟨ρ2, S2, d2, x2, s2, r2, o2⟩ := q2
            refine h2 ρ2 S2 H2 σ d' d2 v y _ s2 (VR.mono x2 q) r2 (OutG.mono (outS_bind (rel := rV X) (g.mono x2) o2) (.refl _ _) fun z H3 q3 => ?_)
            obtain ⟨ρ3, S3, d3, x3, s3, r3, o3⟩ := q3
            split at o3
            · rename_i S4 h4
              obtain ⟨a', C', dx', fs', e', w1', k1', k2', hl, x4, s4⟩ := putFD_ok hb s3 (VR.mono (x2.trans x3) r1) r3 h4
              cases e'
              -- the class is the same
              have hC : C' = C := by
                have hc1 : c0 = c := by simpa using hc
                unfold putFD at h4
                dsimp only at h4
                split at h4
                · rename_i c2 fs2 h6
                  split at h4
                  · rename_i hc2
                    have hc3 : c2 = c := by simpa using hc2.1
                    obtain ⟨a2, e2, p2, C2, dx2, gs2, hmg2, w2, v2⟩ := s3.ref (VR.mono (x2.trans x3) r1) h6
                    cases e2
                    rw [w2] at w1'
                    cases w1'
                    rw [hc3, ← hc1, hmg] at hmg2
                    cases hmg2
                    rfl
                  · cases h4
                · cases h4
              subst hC
              exact ⟨dx', fs', w1', hl, o3 ρ3 _ σ x4 s4 (((g.mono x2).mono x3).mono x4)⟩
            · exact o3.elim
        · exact o.elim
      · exact o.elim
    · exact o.elim
  · exact o.elim
end
end Mir

namespace Mir
open PySem L2 PyProof.Rows

/-! ### functions -/
/-- what a def of the mirror promises -/
def spM (K : PySem.W.Frag) (mg : Str → Option Value) (n : Nat) (m : Fn) : Sp := fun vs H Q E => ∃ ρ S ds, VRs K ρ H ds vs ∧ ds.length = n ∧ Sim K mg ρ S H ∧ OutK K mg (fun c d _ H => E c d H) (fun ρ H => VR K ρ H) ρ [] H (m ds S) Q
def mkFn (n k : Nat) (body : MS) : Fn := fun ds S => if ds.length = n then (match body (ds.map some ++ List.replicate k none) S with
  | .nx _ S' => .ok .non S'
  | .rt d S' => .ok d S'
  | .exc c fs _ S' => .exc c fs S'
  | _ => .bad) else .bad
theorem spM_len {K : PySem.W.Frag} {mg : Str → Option Value} {n : Nat} {m : Fn} {ps : List Str} (hn : ps.length = n) : ∀ vs H Q E, spM K mg n m vs H Q E → vs.length = ps.length := fun vs H Q E h => by
  obtain ⟨ρ, S, ds, r, l, _⟩ := h
  rw [← r.length, l, hn]
theorem GR.start {K : PySem.W.Frag} {ρ : List Addr} {H : Hp} {ds : List D} {vs : List V} (r : VRs K ρ H ds vs) (k : Nat) : GR K ρ H (ds.map some ++ List.replicate k none) (vs.map some ++ List.replicate k none) := by
  refine ⟨by simp [r.length], fun i d h => ?_⟩
  by_cases hi : i < ds.length
  · rw [List.getElem?_append_left (by simpa using hi)] at h
    rw [List.getElem?_append_left (by simpa [← r.length] using hi)]
    rw [List.getElem?_map] at h ⊢
    cases e : ds[i]? with
    | none => rw [e] at h; cases h
    | some d' =>
      rw [e] at h
      cases h
      obtain ⟨v, e1, r1⟩ := r.get e
      exact ⟨v, by rw [e1]; rfl, r1⟩
  · rw [List.getElem?_append_right (by simpa using Nat.not_lt.mp hi)] at h
    rw [List.getElem?_replicate] at h
    split at h <;> cases h
section
variable {P : Program} {w : World} {K : PySem.W.Frag} {mg : Str → Option Value} {base : Heap}
abbrev W0 : WX := fun _ _ _ _ => False
/-- a def's body ends as the mirror says -/
theorem body_end {X : Cx} {E : XK} {N : List Str} {n k : Nat} {body : MS} {vs : List V} {H : Hp} {Q : VK} (hN : N.length = n + k) (h : spM X.K X.mg n (mkFn n k body) vs H Q E) :
    tS X (fun c d _ H => E c d H) body { nx := fun _ H' => Q .non H', rt := Q } (L2.start N vs) H := by
  obtain ⟨ρ, S, ds, r, l, s, o⟩ := h
  have hl : vs.length = n := by rw [← r.length, l]
  refine ⟨ρ, ds.map some ++ List.replicate k none, S, ?_, s, ?_⟩
  · have e : L2.start N vs = vs.map some ++ List.replicate k none := by
      unfold L2.start
      rw [hN, hl]
      simp
    rw [e]
    exact GR.start r k
  · unfold mkFn at o
    rw [if_pos l] at o
    cases e : body (ds.map some ++ List.replicate k none) S with
    | nx G' S' => rw [e] at o; exact fun ρ' H' σ' x1 s1 _ => o ρ' H' .non x1 s1 (VR_non.mpr rfl)
    | rt d S' => rw [e] at o; exact o
    | exc c fs G' S' => rw [e] at o; exact fun ρ' H' σ' cls dx x1 s1 _ r1 => o ρ' H' cls dx x1 s1 r1
    | bk G' S' => rw [e] at o; exact (show False from o).elim
    | ct G' S' => rw [e] at o; exact (show False from o).elim
    | bad => rw [e] at o; exact o
/-- a def that lets no exception out -/
theorem fn0 {x qual : Str} {st : Stmt} {f : Addr} {fd : FuncData} {N ps : List Str} {l n k : Nat} {body : MS} (F : Fun K x qual st f fd) (Sc : FnScope N ps (defScope st)) (hN : N.length = n + k) (hp : ps.length = n)
    (hb : ∀ (cdv : Value) (A : Around) (outer : List Env) (s : Shared) (H : Hp) (E : XK), Room l (A.deeper (envOfC qual (defScope st) s.heap.objs.size f cdv)) →
      DSs (cxOf CX0 P w K mg base N qual (defScope st) f cdv A outer s H E).nox (fun c d _ H => E c d H) (defBody st) body) :
    FnOk P w K mg base CX0 (l + 1) f fd ps (spM K mg n (mkFn n k body)) := by
  refine F.ok Sc (spM_len hp) (fun cdv A outer s H vs Q E hr h => ?_)
  exact ⟨_, hb cdv A outer s H E hr, body_end (X := (cxOf CX0 P w K mg base N qual (defScope st) f cdv A outer s H E).nox) hN h⟩
/-- a def that may raise -/
theorem fnX {x qual : Str} {st : Stmt} {f : Addr} {fd : FuncData} {N ps : List Str} {l n k : Nat} {body : MS} (F : Fun K x qual st f fd) (Sc : FnScope N ps (defScope st)) (hN : N.length = n + k) (hp : ps.length = n)
    (hb : ∀ (cdv : Value) (A : Around) (outer : List Env) (s : Shared) (H : Hp) (E : XK), Room l (A.deeper (envOfC qual (defScope st) s.heap.objs.size f cdv)) →
      DSs (cxOf (L2.CX P w) P w K mg base N qual (defScope st) f cdv A outer s H E) (fun c d _ H => E c d H) (defBody st) body) :
    FnOk P w K mg base (L2.CX P w) (l + 1) f fd ps (spM K mg n (mkFn n k body)) := by
  refine F.okX Sc (spM_len hp) (fun cdv A outer s H vs Q E hr h => ?_)
  exact ⟨_, hb cdv A outer s H E hr, body_end (X := cxOf (L2.CX P w) P w K mg base N qual (defScope st) f cdv A outer s H E) hN h⟩
end

section
variable {X : Cx} {W : WX} {a b c e o i : Expr} {es : List Expr} {fa fb fc fe fo fi : ME} {ga : MA} {pos p apos : Pos} {x : Str}
/-- what a callee's errors come to -/
def Hx (CX : CXT) (X : Cx) (W : WX) : Prop := ∀ σ, PassesAt CX X σ (WE W σ)
theorem hx0 : Hx CX0 X W := fun _ _ _ _ _ _ _ h => h.elim
theorem hxX (tk : Takes X W) : Hx (L2.CX X.prog X.w) X W := fun σ => passAt tk σ
/-- f(..) -/
def eFn (n : Nat) (m : Fn) (f : MA) : ME := fun G S => (f G S).bind fun ds S1 => if ds.length = n then m ds S1 else .bad
theorem fn_end {n : Nat} {m : Fn} {σ : L2.St} {H : Hp} {Q : VK} {ga : MA} (h : tE X W (eFn n m ga) σ H Q) : tCallSD (spM X.K X.mg n m) [] (fun σ => WE W σ) (tA X W ga) σ H Q := by
  refine tG_mono (tG_bind (f := ga) (g := fun ds G S1 => if ds.length = n then m ds S1 else .bad) h) fun xs H1 q => ?_
  obtain ⟨ρ, G, S, ds, g, s, r, o⟩ := q
  split at o
  · rename_i l
    refine ⟨ρ, S, ds, by rw [List.append_nil]; exact r, l, s, ?_⟩
    cases e : m ds S with
    | ok d S' => rw [e] at o; exact o
    | exc c fs S' => rw [e] at o; exact o
    | bad => rw [e] at o; exact o
  · exact o.elim
theorem de_fn {CX : CXT} {k n : Nat} {f : Addr} {fd : FuncData} {ps : List Str} {m : Fn} (F : FnOk X.prog X.w X.K X.mg X.base CX k f fd ps (spM X.K X.mg n m)) (hr : Room k X.A) (hg : Gl X x) (hm : X.mg x = some (.ref f)) (hk : PySem.W.keepIn X.K (.ref f) = true) (hb : Binds X.K fd ps []) (hx : Hx CX X W)
    (ha : DA X W (e :: es) ga) (hdb : (x == ("__debug__" : Str)) = false := by decide) (he : starEach (e :: es) X.env = (false, eval e X.env) :: starEach es X.env := by rfl) (hpl : (backTo pos (starEach es X.env)).any (·.1) = false := by rfl) :
    DE X W (.Call (.Name x p) (e :: es) [] pos) (eFn n m ga) :=
  PE.weak (pe_callSD F hr hg hm hk hb .nil hx ha hdb he hpl) fun σ H Q h => fn_end h
/-- f() -/
theorem de_fn0 {CX : CXT} {k n : Nat} {f : Addr} {fd : FuncData} {ps : List Str} {m : Fn} (F : FnOk X.prog X.w X.K X.mg X.base CX k f fd ps (spM X.K X.mg n m)) (hr : Room k X.A) (hg : Gl X x) (hm : X.mg x = some (.ref f)) (hk : PySem.W.keepIn X.K (.ref f) = true) (hb : Binds X.K fd ps []) (hx : Hx CX X W)
    (hdb : (x == ("__debug__" : Str)) = false := by decide) : DE X W (.Call (.Name x p) [] [] pos) (eFn n m aNil) := by
  refine ⟨fun pins s σ H Q I h => ?_⟩
  have h1 : tCallSD (spM X.K X.mg n m) [] (fun σ => WE W σ) tNil σ H Q := by
    have q := fn_end h
    obtain ⟨ρ, G, S, g, s', o⟩ := q
    exact o ρ H [] (.refl _ _) s' .nil
  exact wpAny_Call_Name_kw (ld_glob I hg hm (PySem.W.callWith_K0 I.kIn hk (run_fnSD (us := []) F hr hb .nil (hx σ) I .nil h1)) hdb)

/-! ### methods -/
/-- one class's method of that name -/
structure MethOf (X : Cx) (W : WX) (name : Str) (c : Str) (m : Fn) : Prop where
  ex : ∀ C, X.mg c = some (.ref C) → ∃ (g : Addr) (CX : CXT) (k n : Nat) (fd : FuncData) (ps : List Str), Cls X.K C ∧ Meth X.K C name g ∧ FnOk X.prog X.w X.K X.mg X.base CX k g fd ps (spM X.K X.mg n m) ∧ Room k X.A ∧ Binds X.K fd ps [] ∧ Hx CX X W ∧ ∀ ds S, ds.length ≠ n → m ds S = .bad
def MethTab (X : Cx) (W : WX) (name : Str) (tab : List (Str × Fn)) : Prop := ∀ c m, tab.lookup c = some m → MethOf X W name c m
theorem mt_nil {name : Str} : MethTab X W name [] := fun c m h => by cases h
theorem mt_cons {name c : Str} {m : Fn} {tab : List (Str × Fn)} (h : MethOf X W name c m) (t : MethTab X W name tab) : MethTab X W name ((c, m) :: tab) := fun c' m' e => by
  simp only [List.lookup] at e
  split at e
  · rename_i q
    have q := beq_iff_eq.mp q
    subst q
    cases e
    exact h
  · exact t c' m' e
/-- the method of an instance -/
def methD (name : Str) (tab : List (Str × Fn)) (S : ST) : D → Option Fn
  | .ref n => match S[n]? with | some (.ins c fs) => (match fs.lookup name with | none => tab.lookup c | some _ => none) | _ => none
  | _ => none
def eMeth (name : Str) (tab : List (Str × Fn)) (fo : ME) (ga : MA) : ME := fun G S => (fo G S).bind fun o S1 => match methD name tab S1 o with
  | some m => (ga G S1).bind fun ds S2 => m (o :: ds) S2
  | none => .bad
theorem methD_ok {name : Str} {tab : List (Str × Fn)} {ρ : List Addr} {S : ST} {H : Hp} {d : D} {v : V} {m : Fn} (s : Sim X.K X.mg ρ S H) (r : VR X.K ρ H d v) (h : methD name tab S d = some m) :
    ∃ a c C dx fs, v = .ref a ∧ X.mg c = some (.ref C) ∧ H a = some (.ins C dx fs) ∧ fs.lookup name = none ∧ tab.lookup c = some m := by
  unfold methD at h
  split at h
  · split at h
    · rename_i h1
      obtain ⟨a, rfl, p1, C, dx, gs, hmg, w1, v1⟩ := s.ref r h1
      split at h
      · rename_i hl
        have q := v1.lookup name
        rw [hl] at q
        cases e : gs.lookup name with
        | some v => rw [e] at q; exact q.elim
        | none => exact ⟨a, _, C, dx, gs, rfl, hmg, w1, e, h⟩
      · cases h
    · cases h
  · cases h
/-- what lies between: the promise, for a receiver and arguments -/
theorem meth_sp {n : Nat} {m : Fn} {ρ : List Addr} {S : ST} {H : Hp} {σ : L2.St} {ds : List D} {vs : List V} {Q : VK} (hl : ∀ ds S, ds.length ≠ n → m ds S = .bad) (s : Sim X.K X.mg ρ S H) (r : VRs X.K ρ H ds vs) (o : OutG X W (rV X) ρ σ H (m ds S) Q) : spM X.K X.mg n m (vs ++ []) H Q (WE W σ) := by
  have l : ds.length = n := by
    by_cases c : ds.length = n
    · exact c
    · rw [hl _ _ c] at o; exact o.elim
  refine ⟨ρ, S, ds, by rw [List.append_nil]; exact r, l, s, ?_⟩
  cases e : m ds S with
  | ok d S' => rw [e] at o; exact o
  | exc c fs S' => rw [e] at o; exact o
  | bad => rw [e] at o; exact o
theorem de_meth {name : Str} {tab : List (Str × Fn)} {pl : Sem Bool} (ht : MethTab X W name tab) (ho : DE X W o fo) (ha : DA X W (e :: es) ga) (hst : starEach (e :: es) X.env = (false, eval e X.env) :: starEach es X.env := by rfl) (hpl : (backTo pos (starEach es X.env)).any (·.1) = false := by rfl)
    (hx : eval (.Call (.Attribute o name apos) (e :: es) [] pos) X.env = (do
      let ov ← eval o X.env
      standAt apos.atName
      let (f, first) ← holding [ov] (getMethod ov name pl)
      callWith pos f first (backTo pos (starEach (e :: es) X.env)) (backToKw pos (keywordEach [] X.env))) := by rfl) :
    DE X W (.Call (.Attribute o name apos) (e :: es) [] pos) (eMeth name tab fo ga) := by
  refine ⟨fun pins s σ H Q I h => ?_⟩
  refine methcall_of (Q := EP X pins σ Q) (pl := pl) ho I ?_ hx
  refine tG_mono (tG_bind (f := fo) (g := fun o G S1 => match methD name tab S1 o with
    | some m => (ga G S1).bind fun ds S2 => m (o :: ds) S2
    | none => .bad) h) fun x H1 q => ?_
  obtain ⟨ρ, G, S, d, g, sm, r, out⟩ := q
  split at out
  · rename_i m hm
    obtain ⟨a, c, C, dx, fs, rfl, hmg, w1, hl, htb⟩ := methD_ok sm r hm
    obtain ⟨f, CX, k, n, fd, ps, kc, km, F, hr, hb, hxx, hln⟩ := (ht c m htb).ex C hmg
    refine ⟨a, C, dx, fs, f, rfl, w1, kc, km, hl, fun s1 I1 => ?_⟩
    have arg : tA X W ga σ H1 fun vs H2 => spM X.K X.mg n m ((.ref a :: vs) ++ []) H2 Q (WE W σ) := by
      refine ⟨ρ, G, S, g, sm, OutG.mono (out_bind (rel := rVs X) out) (.refl _ _) fun vs H2 q2 => ?_⟩
      obtain ⟨ρ2, S2, ds, x2, s2, r2, o2⟩ := q2
      exact meth_sp hln s2 (.cons (VR.mono x2 r) r2) o2
    refine PySem.W.callWith_K (first := [.ref a]) (h₀ := X.base) I.ok.mod.kin km.kp (thn (ha.run pos pins s1 σ H1 _ I1 arg) fun us s2 ⟨vs, H2, I2, rv, q2⟩ => ⟨I2.kIn, ?_⟩) hst hpl
    exact run_fnSD (us := .ref a :: us) (vs := .ref a :: vs) (dvs := []) (E := fun σ => WE W σ) F hr hb .nil (hxx σ) I2 (.cons rfl rv) q2
  · exact out.elim
theorem de_meth0 {name : Str} {tab : List (Str × Fn)} {pl : Sem Bool} (ht : MethTab X W name tab) (ho : DE X W o fo)
    (hx : eval (.Call (.Attribute o name apos) [] [] pos) X.env = (do
      let ov ← eval o X.env
      standAt apos.atName
      let (f, first) ← holding [ov] (getMethod ov name pl)
      callWith pos f first (backTo pos (starEach [] X.env)) (backToKw pos (keywordEach [] X.env))) := by rfl) :
    DE X W (.Call (.Attribute o name apos) [] [] pos) (eMeth name tab fo aNil) := by
  refine ⟨fun pins s σ H Q I h => ?_⟩
  refine methcall_of (Q := EP X pins σ Q) (pl := pl) ho I ?_ hx
  refine tG_mono (tG_bind (f := fo) (g := fun o G S1 => match methD name tab S1 o with
    | some m => (aNil G S1).bind fun ds S2 => m (o :: ds) S2
    | none => .bad) h) fun x H1 q => ?_
  obtain ⟨ρ, G, S, d, g, sm, r, out⟩ := q
  split at out
  · rename_i m hm
    obtain ⟨a, c, C, dx, fs, rfl, hmg, w1, hl, htb⟩ := methD_ok sm r hm
    obtain ⟨f, CX, k, n, fd, ps, kc, km, F, hr, hb, hxx, hln⟩ := (ht c m htb).ex C hmg
    refine ⟨a, C, dx, fs, f, rfl, w1, kc, km, hl, fun s1 I1 => ?_⟩
    have q2 : spM X.K X.mg n m ([.ref a] ++ []) H1 Q (WE W σ) := meth_sp hln sm (.cons r .nil) out
    exact PySem.W.callWith_K0 (first := [.ref a]) I1.kIn km.kp (run_fnSD (us := [.ref a]) (vs := [.ref a]) (dvs := []) (E := fun σ => WE W σ) F hr hb .nil (hxx σ) I1 (.cons rfl .nil) q2)
  · exact out.elim

/-! ### new instances -/
/-- c(..), whose __init__ lets nothing out -/
def eMake (c : Str) (n : Nat) (m : Fn) (ga : MA) : ME := fun G S => (ga G S).bind fun ds S1 => if ds.length + 1 = n then (match m (.ref S1.length :: ds) (S1 ++ [.ins c []]) with
  | .ok .non S2 => .ok (.ref S1.length) S2
  | _ => .bad) else .bad
theorem make_sp {c : Str} {C : Addr} {n : Nat} {m : Fn} {ρ : List Addr} {S : ST} {H : Hp} {σ : L2.St} {ds : List D} {vs : List V} {Q : VK} (hmg : X.mg c = some (.ref C)) (s : Sim X.K X.mg ρ S H) (r : VRs X.K ρ H ds vs) (hl : ds.length + 1 = n)
    (o : OutG X W (rV X) ρ σ H (match m (.ref S.length :: ds) (S ++ [.ins c []]) with | .ok .non S2 => .ok (.ref S.length) S2 | _ => .bad) Q) :
    ∀ x dx, H x = none → H dx = none → dx ≠ x → spM X.K X.mg n m (.ref x :: (vs ++ [])) (upd (upd H dx (.own x)) x (.ins C dx [])) (fun v H2 => v = .non ∧ Q (.ref x) H2) E0 := by
  intro x dx hx hdx hne
  have hx1 : upd H dx (.own x) x = none := by rw [upd_ne (Ne.symm hne)]; exact hx
  have s1 : Sim X.K X.mg ρ S (upd H dx (.own x)) := s.junk hdx
  have e1 : Ext ρ H ρ (upd H dx (.own x)) := .junk hdx
  have s2 := s1.alloc (ho := .ins C dx []) (o := .ins c []) hx1 ⟨C, dx, [], hmg, upd_same, .nil⟩
  have e2 : Ext ρ H (ρ ++ [x]) (upd (upd H dx (.own x)) x (.ins C dx [])) := e1.trans (.alloc hx1)
  have rx : VR X.K (ρ ++ [x]) (upd (upd H dx (.own x)) x (.ins C dx [])) (.ref S.length) (.ref x) := VR.alloc s1
  refine ⟨ρ ++ [x], S ++ [.ins c []], .ref S.length :: ds, .cons rx (by rw [List.append_nil]; exact r.mono e2), by simpa using hl, s2, ?_⟩
  cases q : m (.ref S.length :: ds) (S ++ [.ins c []]) with
  | ok d S2 =>
    rw [q] at o
    cases d <;> first | exact o.elim | skip
    exact fun ρ3 H3 v x3 s3 r3 => ⟨VR_non.mp r3, o ρ3 H3 _ (e2.trans x3) s3 (VR.mono x3 rx)⟩
  | exc c fs S2 => rw [q] at o; exact o.elim
  | bad => rw [q] at o; exact o.elim
theorem de_make {c : Str} {C : Addr} {k n : Nat} {f : Addr} {fd : FuncData} {ps : List Str} {m : Fn} (M : Mk X.K C f) (F : FnOk X.prog X.w X.K X.mg X.base CX0 k f fd ps (spM X.K X.mg n m)) (hr : Room (k + 1) X.A) (hg : Gl X c) (hm : X.mg c = some (.ref C)) (hb : Binds X.K fd ps [])
    (ha : DA X W (e :: es) ga) (hdb : (c == ("__debug__" : Str)) = false := by decide) (he : starEach (e :: es) X.env = (false, eval e X.env) :: starEach es X.env := by rfl) (hpl : (backTo pos (starEach es X.env)).any (·.1) = false := by rfl) :
    DE X W (.Call (.Name c p) (e :: es) [] pos) (eMake c n m ga) := by
  refine PE.weak (pe_make M F hr hg hm hb .nil pass0 ha hdb he hpl) fun σ H Q h => ?_
  refine tG_mono (tG_bind (f := ga) (g := fun ds G S1 => if ds.length + 1 = n then (match m (.ref S1.length :: ds) (S1 ++ [.ins c []]) with
    | .ok .non S2 => R.ok (D.ref S1.length) S2
    | _ => .bad) else .bad) h) fun xs H1 q => ?_
  obtain ⟨ρ, G, S, ds, g, s, r, o⟩ := q
  split at o
  · rename_i l
    exact make_sp hm s r l o
  · exact o.elim
theorem de_make0 {c : Str} {C : Addr} {k n : Nat} {f : Addr} {fd : FuncData} {ps : List Str} {m : Fn} (M : Mk X.K C f) (F : FnOk X.prog X.w X.K X.mg X.base CX0 k f fd ps (spM X.K X.mg n m)) (hr : Room (k + 1) X.A) (hg : Gl X c) (hm : X.mg c = some (.ref C)) (hb : Binds X.K fd ps [])
    (hdb : (c == ("__debug__" : Str)) = false := by decide) : DE X W (.Call (.Name c p) [] [] pos) (eMake c n m aNil) := by
  refine PE.weak (pe_make0 M F hr hg hm hb .nil pass0 hdb) fun σ H Q h => ?_
  obtain ⟨ρ, G, S, g, s, o⟩ := h
  unfold eMake aNil at o
  rw [R.bind_ok] at o
  split at o
  · rename_i l
    exact make_sp hm s .nil l o
  · exact o.elim

/-! ### dict displays -/
def pairsF : List (ME × ME) → GE → ST → R (List (D × D))
  | [], _, S => .ok [] S
  | (f, g) :: r, G, S => (f G S).bind fun k S1 => (g G S1).bind fun v S2 => (pairsF r G S2).bind fun ps S3 => .ok ((k, v) :: ps) S3
abbrev trsOf (X : Cx) (W : WX) (fs : List (ME × ME)) : List (TE × TE) := fs.map fun p => (tE X W p.1, tE X W p.2)
theorem dps_nil {pos : Pos} : PPs X pos [] [] (trsOf X W []) := pps_nil
theorem dps_cons {pos : Pos} {k v : Expr} {ks : List (Option Expr)} {vs : List Expr} {fk fv : ME} {fs : List (ME × ME)} (hk : DE X W k fk) (hv : DE X W v fv) (hr : PPs X pos ks vs (trsOf X W fs)) : PPs X pos (some k :: ks) (v :: vs) (trsOf X W ((fk, fv) :: fs)) := pps_cons hk hv hr
theorem tPairs_mono : ∀ {fs : List (ME × ME)} {σ : L2.St} {H : Hp} {Q Q' : List (V × V) → Hp → Prop}, tPairs (trsOf X W fs) σ H Q → (∀ v H, Q v H → Q' v H) → tPairs (trsOf X W fs) σ H Q'
  | [], _, _, _, _, h, q => q _ _ h
  | p :: r, _, _, _, _, h, q => tG_mono h fun _ _ h1 => tG_mono h1 fun _ _ h2 => tPairs_mono (fs := r) h2 fun _ _ h3 => q _ _ h3
theorem pairs_end : ∀ {fs : List (ME × ME)} {ρ : List Addr} {G : GE} {S : ST} {σ : L2.St} {H : Hp} {Q : List (V × V) → Hp → Prop} (g : GR X.K ρ H G σ) (s : Sim X.K X.mg ρ S H)
    (h : OutG X W (fun ρ H (ps : List (D × D)) (qs : List (V × V)) => VRs X.K ρ H (ps.map (·.1)) (qs.map (·.1)) ∧ VRs X.K ρ H (ps.map (·.2)) (qs.map (·.2))) ρ σ H (pairsF fs G S) Q), tPairs (trsOf X W fs) σ H Q
  | [], ρ, G, S, σ, H, Q, g, s, h => h ρ H [] (.refl _ _) s ⟨.nil, .nil⟩
  | (f, f') :: r, ρ, G, S, σ, H, Q, g, s, h => by
    unfold pairsF at h
    refine ⟨ρ, G, S, g, s, OutG.mono (out_bind (rel := rV X) h) (.refl _ _) fun x H1 q => ?_⟩
    obtain ⟨ρ1, S1, k, x1, s1, r1, o1⟩ := q
    refine ⟨ρ1, G, S1, g.mono x1, s1, OutG.mono (out_bind (rel := rV X) o1) (.refl _ _) fun y H2 q => ?_⟩
    obtain ⟨ρ2, S2, v, x2, s2, r2, o2⟩ := q
    refine pairs_end (fs := r) ((g.mono x1).mono x2) s2 (OutG.mono (out_bind o2) (.refl _ _) fun qs H3 q => ?_)
    obtain ⟨ρ3, S3, ps, x3, s3, r3, o3⟩ := q
    exact o3 ρ3 H3 _ (.refl _ _) s3 ⟨.cons (VR.mono (x2.trans x3) r1) r3.1, .cons (VR.mono x3 r2) r3.2⟩
def keysD : List (D × D) → Option (List (Key × D))
  | [] => some []
  | (k, v) :: r => match k.key, keysD r with | some k, some t => some ((k, v) :: t) | _, _ => none
def dmerge (kvs : List (Key × D)) : List (Key × D) := kvs.foldl (fun acc kv => dput acc kv.1 kv.2) []
def eDict (fs : List (ME × ME)) : ME := fun G S => (pairsF fs G (S ++ [.dk []])).bind fun ps S1 => match S1[S.length]?, keysD ps with
  | some (.dk []), some kvs => if kvs.length ≤ 15 then .ok (.ref S.length) (S1.set S.length (.dk (dmerge kvs))) else .bad
  | _, _ => .bad
theorem keysD_ok {K : PySem.W.Frag} {ρ : List Addr} {H : Hp} : ∀ {ps : List (D × D)} {qs : List (V × V)} {kvs : List (Key × D)}, VRs K ρ H (ps.map (·.1)) (qs.map (·.1)) → VRs K ρ H (ps.map (·.2)) (qs.map (·.2)) → keysD ps = some kvs →
    ∃ ws : List (Key × V), qs = ws.map (fun kv => (kV kv.1, kv.2)) ∧ FR K ρ H kvs ws
  | [], [], kvs, h1, h2, e => by cases e; exact ⟨[], rfl, .nil⟩
  | [], q :: qs, kvs, h1, h2, e => by cases h1.nil_l
  | (k, v) :: ps, [], kvs, h1, h2, e => by
    obtain ⟨_, _, e, _⟩ := h1.cons_l
    cases e
  | (k, v) :: ps, (x, y) :: qs, kvs, h1, h2, e => by
    obtain ⟨a1, b1⟩ := h1.cons_inv
    obtain ⟨a2, b2⟩ := h2.cons_inv
    unfold keysD at e
    split at e
    · rename_i k' t e1 e2
      cases e
      obtain ⟨ws, rfl, fr⟩ := keysD_ok b1 b2 e2
      have := a1.key e1
      have hx : x = kV k' := this
      subst hx
      exact ⟨(k', y) :: ws, rfl, .cons a2 fr⟩
    · cases e
theorem FR.fold {K : PySem.W.Frag} {ρ : List Addr} {H : Hp} : ∀ {kvs : List (Key × D)} {ws : List (Key × V)} {acc : List (Key × D)} {acc' : List (Key × V)}, FR K ρ H kvs ws → FR K ρ H acc acc' → FR K ρ H (kvs.foldl (fun acc kv => dput acc kv.1 kv.2) acc) (mergeK acc' ws)
  | [], ws, acc, acc', h, a => by rw [h.nil_l]; exact a
  | (k, d) :: kvs, ws, acc, acc', h, a => by
    obtain ⟨v, r, rfl, h1, h2⟩ := h.cons_l
    show FR K ρ H (kvs.foldl (fun acc kv => dput acc kv.1 kv.2) (dput acc k d)) (mergeK (putK acc' k v) r)
    exact FR.fold (kvs := kvs) h2 (a.put h1)
theorem de_dict {keys : List (Option Expr)} {values : List Expr} {fs : List (ME × ME)} (h : PPs X pos keys values (trsOf X W fs)) (hall : keys.all (·.isSome) = true := by rfl) (hl : keys.length = values.length := by rfl) (h0 : keys ≠ [] := by exact fun z => by cases z)
    (h15 : keys.length ≤ 15 := by decide) : DE X W (.Dict keys values pos) (eDict fs) := by
  refine PE.weak (pe_disp h hall hl h0 h15) fun σ H Q h => ?_
  obtain ⟨ρ, G, S, g, s, o⟩ := h
  intro p hp
  have s1 := s.alloc (ho := .dK []) (o := .dk []) hp ⟨[], upd_same, .nil⟩
  have x1 : Ext ρ H (ρ ++ [p]) (upd H p (.dK [])) := .alloc hp
  have rp : VR X.K (ρ ++ [p]) (upd H p (.dK [])) (.ref S.length) (.ref p) := VR.alloc s
  unfold eDict at o
  refine pairs_end (g.mono x1) s1 (OutG.mono (out_bind (OutG.mono (r := (pairsF fs G (S ++ [.dk []])).bind _) o x1 fun _ _ z => z)) (.refl _ _) fun qs H2 q => ?_)
  obtain ⟨ρ2, S2, ps, x2, s2, r2, o2⟩ := q
  split at o2
  · rename_i kvs h1 h2
    split at o2
    · rename_i hl
      have rp2 := VR.mono x2 rp
      obtain ⟨p', e, p1, ws0, w1, v1⟩ := s2.ref rp2 h1
      cases e
      have e0 : ws0 = [] := v1.nil_l
      subst e0
      obtain ⟨ws, e1, fr⟩ := keysD_ok r2.1 r2.2 h2
      refine ⟨w1, ws, e1, by rw [← fr.length]; exact hl, ?_⟩
      have hm : Mut (H2 p) := by rw [w1]; exact True.intro
      refine o2 ρ2 _ _ (.write hm) (s2.write p1 hm ⟨_, upd_same, FR.mono (.write hm) (FR.fold fr .nil)⟩) (VR.mono (.write hm) rp2)
    · exact o2.elim
  · exact o2.elim
theorem de_dict0 : DE X W (.Dict [] [] pos) (fun _ S => allocO (.dk []) S) := by
  refine PE.weak pe_dnewK fun σ H Q h => ?_
  obtain ⟨ρ, G, S, g, s, o⟩ := h
  exact alloc_ok s o fun p hp => ⟨[], upd_same, .nil⟩

/-! ### isinstance -/
def tyN (S : ST) : D → Option String
  | .non => some "NoneType"
  | .bl _ => some "bool"
  | .int _ => some "int"
  | .str _ => some "str"
  | .tup _ => some "tuple"
  | .fl _ => some "list"
  | .ref n => match S[n]? with | some (.lst _) => some "list" | some (.dk _) => some "dict" | some (.dt _) => some "dict" | _ => none
  | .opq _ => none
def subN (t T : String) : Option Bool := match T with
  | "int" => some (t == "int" || t == "bool")
  | "bool" => some (t == "bool")
  | "str" => some (t == "str")
  | "tuple" => some (t == "tuple")
  | "list" => some (t == "list")
  | "dict" => some (t == "dict")
  | _ => none
theorem tyN_ok {ρ : List Addr} {S : ST} {H : Hp} {d : D} {v : V} {t : String} (s : Sim X.K X.mg ρ S H) (r : VR X.K ρ H d v) (h : tyN S d = some t) : TyX X.K H v (.type t) ∧ (t = "NoneType" ∨ t = "bool" ∨ t = "int" ∨ t = "str" ∨ t = "tuple" ∨ t = "list" ∨ t = "dict") := by
  cases d with
  | non => rw [VR_non] at r; subst r; cases h; exact ⟨.base .non, by simp⟩
  | bl b => rw [VR_bl] at r; subst r; cases h; exact ⟨.base (.bl _), by simp⟩
  | int b => rw [VR_int] at r; subst r; cases h; exact ⟨.base (.int _), by simp⟩
  | str b => rw [VR_str] at r; subst r; cases h; exact ⟨.base (.str _), by simp⟩
  | tup ds =>
    obtain ⟨p, vs, rfl, q, v1⟩ := VR_tup.mp r
    cases h
    refine ⟨?_, by simp⟩
    rcases q with (q | ⟨o, q⟩) | ⟨o, its, n, hk, hc, _⟩
    · exact .base (.tup q)
    · exact .fTuple q
    · exact .kTuple hk hc
  | fl ds =>
    obtain ⟨p, vs, rfl, q, v1⟩ := VR_fl.mp r
    cases h
    refine ⟨?_, by simp⟩
    rcases q with ⟨o, q⟩ | ⟨o, its, n, hk, hc, _⟩
    · exact .base (.frz q)
    · exact .kList hk hc
  | ref n =>
    unfold tyN at h
    dsimp only at h
    split at h
    · rename_i h1
      cases h
      obtain ⟨a, rfl, p1, vs, w1, v1⟩ := s.ref r h1
      exact ⟨.base (.lst w1), by simp⟩
    · rename_i h1
      cases h
      obtain ⟨a, rfl, p1, vs, w1, v1⟩ := s.ref r h1
      exact ⟨.base (.dK w1), by simp⟩
    · rename_i h1
      cases h
      obtain ⟨a, rfl, p1, vs, w1, v1⟩ := s.ref r h1
      exact ⟨.base (.dT w1), by simp⟩
    · cases h
  | opq u => cases h
def bIsi : List D → C D := fun ds S => match ds with
  | [d, .opq (.ty T)] => (match (tyN S d).bind fun t => subN t T with | some b => .ok (.bl b) S | none => .bad)
  | _ => .bad
theorem subN_ok {K : PySem.W.Frag} {t T : String} {b : Bool} (ht : t = "NoneType" ∨ t = "bool" ∨ t = "int" ∨ t = "str" ∨ t = "tuple" ∨ t = "list" ∨ t = "dict") (h : subN t T = some b) : PySem.W.kitOne K (.type t) (.type T) = some b := by
  unfold subN at h
  split at h
  all_goals first
    | (cases h; done)
    | (cases h
       rcases ht with rfl | rfl | rfl | rfl | rfl | rfl | rfl <;> exact kit_ty (by decide +kernel))
theorem bi_isi : Bi X W (.builtin "isinstance") bIsi := by
  refine ⟨_, call_isi, fun ρ S H σ ds xs Q s r o => ?_⟩
  unfold bIsi at o
  split at o
  · obtain ⟨v, w, rfl, r1, r2⟩ := r.two
    rw [VR_opq] at r2; subst r2
    split at o
    · rename_i b hb
      rw [Option.bind_eq_some_iff] at hb
      obtain ⟨t, h1, h2⟩ := hb
      obtain ⟨h3, h4⟩ := tyN_ok s r1 h1
      exact ⟨v, _, _, _, b, rfl, .ty _, h3, subN_ok h4 h2, o ρ H _ (.refl _ _) s (VR_bl.mpr rfl)⟩
    · exact o.elim
  · exact o.elim
/-- a built-in class as a value -/
theorem de_ty {T : String} (hg : Gl X x) (hm : X.mg x = none) (hv : bootBuiltins x = some (.type T)) (hn : x ≠ "__name__" := by decide) (hd : (x == ("__debug__" : Str)) = false := by decide) : DE X W (.Name x pos) (eC (.opq (.ty T))) :=
  PE.weak (pe_bltn hg hm hv (v := .ty T) rfl hn hd) fun σ H Q h => eC_ok (fun ρ => VR_opq.mpr rfl) h
end
end Mir

namespace Mir
open PySem L2 PyProof.Rows
section
variable {X : Cx} {W : WX} {a b c e o i tg iter : Expr} {es : List Expr} {fa fb fc fe fo fi : ME} {ga : MA} {pos p apos : Pos} {x : Str}

/-! ### while -/
def whStep (rec : MS) (t : MT) (b : MS) : MS := fun G S => (t G S).s G fun k S1 => if k = true then (match b G S1 with
    | .nx G' S' => rec G' S'
    | .ct G' S' => rec G' S'
    | .bk G' S' => .nx G' S'
    | r => r) else .nx G S1
def whileF : Nat → MT → MS → MS
  | 0, _, _ => fun _ _ => .bad
  | n + 1, t, b => whStep (whileF n t b) t b
theorem whStep_imp {f g : MS} {t : MT} {b : MS} {G : GE} {S : ST} (h : ∀ G S, f G S ≠ .bad → g G S = f G S) (hb : whStep f t b G S ≠ .bad) : whStep g t b G S = whStep f t b G S := by
  unfold whStep at hb ⊢
  cases e : t G S with
  | ok k S1 =>
    rw [e] at hb
    rw [R.s_ok] at hb ⊢
    rw [R.s_ok]
    by_cases c : k = true
    · rw [if_pos c] at hb ⊢
      rw [if_pos c]
      cases q : b G S1 with
      | nx G' S' => rw [q] at hb; exact h _ _ hb
      | ct G' S' => rw [q] at hb; exact h _ _ hb
      | _ => rfl
    · rw [if_neg c, if_neg c]
  | exc c fs S1 => rfl
  | bad => rfl
theorem whileF_mono {t : MT} {b : MS} : ∀ (n : Nat) {G : GE} {S : ST}, whileF n t b G S ≠ .bad → whileF (n + 1) t b G S = whileF n t b G S
  | 0, G, S, h => absurd rfl h
  | n + 1, G, S, h => whStep_imp (fun G S h => whileF_mono n h) h
theorem whileF_le {t : MT} {b : MS} {G : GE} {S : ST} {n : Nat} (h : whileF n t b G S ≠ .bad) : ∀ {m : Nat}, n ≤ m → whileF m t b G S = whileF n t b G S := by
  intro m hm
  induction hm with
  | refl => rfl
  | step _ ih => rw [whileF_mono _ (by rw [ih]; exact h), ih]
open Classical in
noncomputable def sWhile (t : MT) (b : MS) : MS := fun G S => if h : ∃ n, whileF n t b G S ≠ .bad then whileF (Classical.choose h) t b G S else .bad
theorem sWhile_eq {t : MT} {b : MS} {G : GE} {S : ST} (n : Nat) (h : whileF n t b G S ≠ .bad) : sWhile t b G S = whileF n t b G S := by
  have hx : ∃ n, whileF n t b G S ≠ .bad := ⟨n, h⟩
  unfold sWhile
  rw [dif_pos hx]
  have hc := Classical.choose_spec hx
  rcases Nat.le_total n (Classical.choose hx) with l | l
  · exact whileF_le h l
  · exact (whileF_le hc l).symm
theorem sWhile_bad {t : MT} {b : MS} {G : GE} {S : ST} (h : ∀ n, whileF n t b G S = .bad) : sWhile t b G S = .bad := by
  unfold sWhile
  rw [dif_neg (fun ⟨n, z⟩ => z (h n))]
/-- one turn -/
theorem sWhile_step {t : MT} {b : MS} {G : GE} {S : ST} : sWhile t b G S = whStep (sWhile t b) t b G S := by
  by_cases hx : ∃ n, whStep (whileF n t b) t b G S ≠ .bad
  · obtain ⟨n, h⟩ := hx
    rw [sWhile_eq (n + 1) h]
    exact (whStep_imp (fun G S h => sWhile_eq n h) h).symm
  · have hn : ∀ n, whStep (whileF n t b) t b G S = .bad := fun n => Classical.byContradiction fun h => hx ⟨n, h⟩
    rw [sWhile_bad fun n => by cases n with | zero => rfl | succ n => exact hn n]
    unfold whStep at hn ⊢
    cases e : t G S with
    | ok k S1 =>
      simp only [e, R.s_ok] at hn ⊢
      by_cases c : k = true
      · simp only [if_pos c] at hn ⊢
        cases q : b G S1 with
        | nx G' S' => simp only [q] at hn; exact (sWhile_bad hn).symm
        | ct G' S' => simp only [q] at hn; exact (sWhile_bad hn).symm
        | bk G' S' => simp only [q] at hn; exact (hn 0).symm
        | rt d S' => simp only [q] at hn; exact (hn 0).symm
        | exc c fs G' S' => simp only [q] at hn; exact (hn 0).symm
        | bad => rfl
      · simp only [if_neg c] at hn ⊢
        exact (hn 0).symm
    | exc c fs S1 => simp only [e, R.s_exc] at hn; exact (hn 0).symm
    | bad => rfl
theorem ds_while {t : MT} {f : MS} {body : List Stmt} (hp : PassesOwn (model X.prog X.w) X.A X.env X.xe) (hc : DT X W c t) (hb : DSs X W body f) : DS X W (.While c body [] pos) (sWhile t f) := by
  refine PS.weak (ps_while hp hc hb) fun Dn σ H h => ?_
  obtain ⟨ρ0, G0, S0, g0, s0, o0⟩ := h
  have ex : ∃ n, whileF n t f G0 S0 ≠ .bad := by
    apply Classical.byContradiction
    intro z
    rw [sWhile_bad fun n => Classical.byContradiction fun h => z ⟨n, h⟩] at o0
    exact o0
  obtain ⟨n0, h0⟩ := ex
  rw [sWhile_eq n0 h0] at o0
  refine ⟨fun m σ H => ∃ ρ G S, GR X.K ρ H G σ ∧ Sim X.K X.mg ρ S H ∧ OutS X W ρ H (whileF m t f G S) Dn, ⟨n0, ρ0, G0, S0, g0, s0, o0⟩, ?_⟩
  rintro m σ1 H1 ⟨ρ, G, S, g, s, o⟩
  cases m with
  | zero => exact (show False from o).elim
  | succ m =>
    have o : OutS X W ρ H1 (whStep (whileF m t f) t f G S) Dn := o
    unfold whStep at o
    refine ⟨ρ, G, S, g, s, OutG.mono (outS_bind (rel := rB) g o) (.refl _ _) fun k H2 q => ?_⟩
    obtain ⟨ρ2, S2, k', x2, s2, r2, o2⟩ := q
    have r2 : k = k' := r2
    subst r2
    have g2 := g.mono x2
    by_cases c : k = true
    · rw [if_pos c] at o2 ⊢
      refine ⟨fun σ H => ∃ ρ G S, GR X.K ρ H G σ ∧ Sim X.K X.mg ρ S H ∧ OutS X W ρ H (whileF m t f G S) Dn, fun σ' H' n' => ⟨m, Nat.lt_succ_self m, n'⟩, ρ2, G, S2, g2, s2, ?_⟩
      cases q : f G S2 with
      | nx G' S' => rw [q] at o2; exact fun ρ3 H3 σ3 x3 s3 g3 => ⟨ρ3, G', S', g3, s3, OutS.mono (r := whileF m t f G' S') o2 x3⟩
      | ct G' S' => rw [q] at o2; exact fun ρ3 H3 σ3 x3 s3 g3 => ⟨ρ3, G', S', g3, s3, OutS.mono (r := whileF m t f G' S') o2 x3⟩
      | bk G' S' => rw [q] at o2; exact o2
      | rt d S' => rw [q] at o2; exact o2
      | exc c fs G' S' => rw [q] at o2; exact o2
      | bad => rw [q] at o2; exact o2
    · rw [if_neg c] at o2 ⊢
      exact outS_nx g2 s2 o2

/-! ### what is walked -/
/-- items, and the list that has to stay -/
structure Src where
  ds : List D
  gd : Option Nat
def Src.ok (r : Src) (S : ST) : Prop := match r.gd with | none => True | some n => S[n]? = some (.lst r.ds)
/-- an iterator of these items -/
def IsSrc (X : Cx) (ρ : List Addr) (H : Hp) (r : Src) (J : It) : Prop := ∃ (G : Hp → Prop) (Y : Nat → Hp → V → Hp → Prop), L2.Walk J r.ds.length G Y ∧
  (∀ ρ1 S1 H1, Ext ρ H ρ1 H1 → Sim X.K X.mg ρ1 S1 H1 → r.ok S1 → G H1) ∧
  ∀ (i : Nat) ρ1 S1 H1 x H2, i < r.ds.length → Ext ρ H ρ1 H1 → Sim X.K X.mg ρ1 S1 H1 → r.ok S1 → Y i H1 x H2 → Ext ρ1 H1 ρ1 H2 ∧ Sim X.K X.mg ρ1 S1 H2 ∧ ∃ d, r.ds[i]? = some d ∧ VR X.K ρ1 H2 d x
abbrev MI := GE → ST → R Src
abbrev tI (X : Cx) (W : WX) (f : MI) : TI := tG X W (fun ρ H r J => IsSrc X ρ H r J) f
abbrev DI (X : Cx) (W : WX) (tg iter : Expr) (f : MI) : Prop := PI X tg iter (tI X W f)
theorem PI.weak {w w' : TI} (h : PI X tg iter w) (k : ∀ σ H R, w' σ H R → w σ H R) : PI X tg iter w' := ⟨fun pins s σ H R I q => h.run pins s σ H R I (k σ H R q)⟩
theorem PI.orr {w w' : TI} (h : PI X tg iter w) (h' : PI X tg iter w') : PI X tg iter (fun σ H R => w σ H R ∨ w' σ H R) := ⟨fun pins s σ H R I q => q.elim (h.run pins s σ H R I) (h'.run pins s σ H R I)⟩
/-- one by one: the heap as it was -/
theorem src_at {J : It} {n : Nat} {G : Hp → Prop} {Y : Nat → Hp → V → Hp → Prop} {ρ : List Addr} {H : Hp} {r : Src} (w : L2.Walk J r.ds.length G Y) (hG : ∀ ρ1 S1 H1, Ext ρ H ρ1 H1 → Sim X.K X.mg ρ1 S1 H1 → r.ok S1 → G H1)
    (hY : ∀ (i : Nat) ρ1 S1 H1 x H2, i < r.ds.length → Ext ρ H ρ1 H1 → Sim X.K X.mg ρ1 S1 H1 → r.ok S1 → Y i H1 x H2 → H2 = H1 ∧ ∃ d, r.ds[i]? = some d ∧ VR X.K ρ1 H1 d x) : IsSrc X ρ H r J :=
  ⟨G, Y, w, hG, fun i ρ1 S1 H1 x H2 hi x1 s1 h1 y => by
    obtain ⟨e, d, h2, h3⟩ := hY i ρ1 S1 H1 x H2 hi x1 s1 h1 y
    subst e
    exact ⟨.refl _ _, s1, d, h2, h3⟩⟩
theorem VRs.at {K : PySem.W.Frag} {ρ : List Addr} {H : Hp} : ∀ {ds : List D} {vs : List V} {i : Nat} {v : V}, VRs K ρ H ds vs → vs[i]? = some v → ∃ d, ds[i]? = some d ∧ VR K ρ H d v
  | [], vs, i, v, h, e => by rw [h.nil_l] at e; simp at e
  | d :: ds, vs, i, v, h, e => by
    obtain ⟨u, r, rfl, h1, h2⟩ := h.cons_l
    cases i with
    | zero => simp at e; subst e; exact ⟨d, rfl, h1⟩
    | succ i => simpa using VRs.at (i := i) h2 (by simpa using e)
def seqSrc (S : ST) : D → Option Src
  | .tup ds => some ⟨ds, none⟩
  | .fl ds => some ⟨ds, none⟩
  | .ref n => match S[n]? with | some (.lst ds) => some ⟨ds, some n⟩ | _ => none
  | .str z => some ⟨z.cps.toList.map fun c => .str ⟨#[c]⟩, none⟩
  | _ => none
def iSeq (f : ME) : MI := fun G S => (f G S).bind fun d S1 => match seqSrc S1 d with | some r => .ok r S1 | none => .bad
theorem di_seq (he : DE X W iter fe) : DI X W tg iter (iSeq fe) := by
  refine PI.weak (PI.orr (pi_list he) (PI.orr (pi_tup he) (pi_str he))) fun σ H R h => ?_
  obtain ⟨ρ, G, S, g, s, o⟩ := h
  unfold iSeq at o
  cases e : fe G S with
  | exc c fs S1 =>
    rw [e] at o
    refine .inl ⟨ρ, G, S, g, s, ?_⟩
    rw [e]
    exact o
  | bad => rw [e] at o; exact o.elim
  | ok d S1 =>
    rw [e] at o
    rw [Mir.R.bind_ok] at o
    have start : ∀ {Q : VK}, (∀ ρ1 H1 v, Ext ρ H ρ1 H1 → Sim X.K X.mg ρ1 S1 H1 → VR X.K ρ1 H1 d v → Q v H1) → tE X W fe σ H Q := fun q => ⟨ρ, G, S, g, s, by rw [e]; exact q⟩
    cases d with
    | tup ds =>
      refine .inr (.inl (start fun ρ1 H1 v x1 s1 r => ?_))
      obtain ⟨a, vs, rfl, q, v1⟩ := VR_tup.mp r
      refine ⟨a, rfl, ⟨vs, q⟩, o ρ1 H1 _ x1 s1 ?_⟩
      refine src_at (n := ds.length) (r := ⟨ds, none⟩) (G := fun H => SqT X.K H a vs) (by rw [v1.length]; exact walk_tup) (fun ρ2 S2 H2 x2 _ _ => x2.kp.sqt q) fun i ρ2 S2 H2 y H3 hi x2 s2 _ hy => ?_
      obtain ⟨e1, e2⟩ := hy
      exact ⟨e1, (v1.mono x2).at e2⟩
    | fl ds =>
      refine .inl (start fun ρ1 H1 v x1 s1 r => ?_)
      obtain ⟨a, vs, rfl, q, v1⟩ := VR_fl.mp r
      refine ⟨a, rfl, ⟨vs, q.sql⟩, o ρ1 H1 _ x1 s1 ?_⟩
      refine src_at (n := ds.length) (r := ⟨ds, none⟩) (G := fun H => SqL X.K H a vs) (by rw [v1.length]; exact walk_list) (fun ρ2 S2 H2 x2 _ _ => (x2.kp.frl q).sql) fun i ρ2 S2 H2 y H3 hi x2 s2 _ hy => ?_
      obtain ⟨e1, e2⟩ := hy
      exact ⟨e1, (v1.mono x2).at e2⟩
    | str z =>
      refine .inr (.inr (start fun ρ1 H1 v x1 s1 r => ?_))
      rw [VR_str] at r; subst r
      refine ⟨z, rfl, o ρ1 H1 _ x1 s1 ?_⟩
      refine src_at (n := z.cps.size) (r := ⟨z.cps.toList.map fun c => .str ⟨#[c]⟩, none⟩) (G := fun _ => True) (by simpa using walk_str) (fun _ _ _ _ _ _ => True.intro) fun i ρ2 S2 H2 y H3 hi x2 s2 _ hy => ?_
      obtain ⟨e1, c, e2, rfl⟩ := hy
      refine ⟨e1, .str ⟨#[c]⟩, ?_, VR_str.mpr rfl⟩
      show (z.cps.toList.map _)[i]? = _
      rw [List.getElem?_map, Array.getElem?_toList, e2]
      rfl
    | ref n =>
      refine .inl (start fun ρ1 H1 v x1 s1 r => ?_)
      unfold seqSrc at o
      dsimp only at o
      cases q : S1[n]? with
      | none => rw [q] at o; exact o.elim
      | some ob =>
        rw [q] at o
        cases ob with
        | lst ds =>
          obtain ⟨a, rfl, p1, vs, w1, v1⟩ := s1.ref r q
          refine ⟨a, rfl, ⟨vs, SqL.of w1⟩, o ρ1 H1 _ x1 s1 ?_⟩
          refine ⟨fun H => ∃ ρ S, ρ[n]? = some a ∧ Sim X.K X.mg ρ S H ∧ S[n]? = some (.lst ds), fun i H x H' => H' = H ∧ ∀ xs, SqL X.K H a xs → xs[i]? = some x, ⟨fun i H hi z => ?_, fun H z => ?_, fun i H x H' hi z y => y⟩, fun ρ2 S2 H2 x2 s2 h2 => ⟨ρ2, S2, x2.get p1, s2, h2⟩, fun i ρ2 S2 H2 y H3 hi x2 s2 h2 hy => ?_⟩
          · obtain ⟨ρ2, S2, p2, s2, h2⟩ := z
            obtain ⟨vs2, w2, v2⟩ := s2.obj n a _ p2 h2
            exact ⟨vs2, vs2[i]'(by rw [← v2.length]; exact hi), SqL.of w2, by simp⟩
          · obtain ⟨ρ2, S2, p2, s2, h2⟩ := z
            obtain ⟨vs2, w2, v2⟩ := s2.obj n a _ p2 h2
            exact ⟨vs2, SqL.of w2, by rw [← v2.length]; exact Nat.le_refl _⟩
          · obtain ⟨rfl, hy⟩ := hy
            have h2 : S2[n]? = some (.lst ds) := h2
            obtain ⟨vs2, w2, v2⟩ := s2.obj n a _ (x2.get p1) h2
            exact ⟨.refl _ _, s2, v2.at (hy vs2 (SqL.of w2))⟩
        | _ => exact o.elim
    | _ => exact o.elim
/-- ranges -/
def lim62 (i : Int) : Bool := decide (-4611686018427387904 ≤ i) && decide (i < 4611686018427387904)
def rngD (lo c : Int) (n : Nat) : List D := (List.range n).map fun (i : Nat) => D.int (lo + (i : Int) * c)
theorem rngD_get {lo c : Int} {n i : Nat} (h : i < n) : (rngD lo c n)[i]? = some (.int (lo + (i : Int) * c)) := by
  unfold rngD
  rw [List.getElem?_map, List.getElem?_range h]
  rfl
theorem src_rng {J : It} {lo c : Int} {n : Nat} {ρ : List Addr} {H : Hp} (w : L2.Walk J n (fun _ => True) (YFn fun i => .int (lo + (i : Int) * c))) : IsSrc X ρ H ⟨rngD lo c n, none⟩ J := by
  refine src_at (n := n) (r := ⟨rngD lo c n, none⟩) (G := fun _ => True) (by simpa [rngD] using w) (fun _ _ _ _ _ _ => True.intro) fun i ρ2 S2 H2 y H3 hi x2 s2 _ hy => ?_
  obtain ⟨e1, e2⟩ := hy
  subst e2
  exact ⟨e1, _, rngD_get (by simpa [rngD] using hi), VR_int.mpr rfl⟩
def iRg1 (f : MA) : MI := fun G S => (f G S).bind fun ds S1 => match ds with | [.int j] => if lim62 j = true then .ok ⟨rngD 0 1 j.toNat, none⟩ S1 else .bad | _ => .bad
theorem di_range1 (hg : Gl X "range") (hm : X.mg "range" = none) (ha : DA X W [a] ga) (hs : starEach [a] X.env = [(false, eval a X.env)] := by rfl) : DI X W tg (.Call (.Name "range" p) [a] [] pos) (iRg1 ga) := by
  refine PI.weak (pi_range1 hg hm ha hs) fun σ H Rk h => ?_
  refine tG_mono (tG_bind (f := ga) (g := fun ds G S1 => match ds with | [.int j] => if lim62 j = true then R.ok (Src.mk (rngD 0 1 j.toNat) none) S1 else .bad | _ => .bad) h) fun x H1 q => ?_
  obtain ⟨ρ, G, S, ds, g, s, r, o⟩ := q
  split at o
  · rename_i j
    split at o
    · rename_i c
      obtain ⟨v, rfl, r1⟩ := VRs.one r
      rw [VR_int] at r1; subst r1
      simp only [lim62, Bool.and_eq_true, decide_eq_true_eq] at c
      refine ⟨j, rfl, by omega, by omega, o ρ H1 _ (.refl _ _) s (src_rng ?_)⟩
      simpa using walk_range (lo := 0) (n := j.toNat)
    · exact o.elim
  · exact o.elim
def iRg2 (f : MA) : MI := fun G S => (f G S).bind fun ds S1 => match ds with | [.int i, .int j] => if (lim62 i && lim62 j) = true then .ok ⟨rngD i 1 (j - i).toNat, none⟩ S1 else .bad | _ => .bad
theorem di_range2 (hg : Gl X "range") (hm : X.mg "range" = none) (ha : DA X W [a, b] ga) (hs : starEach [a, b] X.env = [(false, eval a X.env), (false, eval b X.env)] := by rfl) (hs2 : starEach [b] X.env = [(false, eval b X.env)] := by rfl) :
    DI X W tg (.Call (.Name "range" p) [a, b] [] pos) (iRg2 ga) := by
  refine PI.weak (pi_range2 hg hm ha hs hs2) fun σ H Rk h => ?_
  refine tG_mono (tG_bind (f := ga) (g := fun ds G S1 => match ds with | [.int i, .int j] => if (lim62 i && lim62 j) = true then R.ok (Src.mk (rngD i 1 (j - i).toNat) none) S1 else .bad | _ => .bad) h) fun x H1 q => ?_
  obtain ⟨ρ, G, S, ds, g, s, r, o⟩ := q
  split at o
  · rename_i i j
    split at o
    · rename_i c
      obtain ⟨v, w, rfl, r1, r2⟩ := VRs.two r
      rw [VR_int] at r1 r2; subst r1 r2
      simp only [lim62, Bool.and_eq_true, decide_eq_true_eq] at c
      refine ⟨i, j, rfl, by omega, o ρ H1 _ (.refl _ _) s (src_rng ?_)⟩
      simpa using walk_range (lo := i) (n := (j - i).toNat)
    · exact o.elim
  · exact o.elim
/-- range(i, j, -1) -/
def iRgN (f : MA) : MI := fun G S => (f G S).bind fun ds S1 => match ds with | [.int i, .int j, .int c] => if (decide (c = -1) && (lim62 i && lim62 j)) = true then .ok ⟨rngD i (-1) (i - j).toNat, none⟩ S1 else .bad | _ => .bad
theorem di_range3 (hg : Gl X "range") (hm : X.mg "range" = none) (ha : DA X W [a, b, c] ga) (hs : starEach [a, b, c] X.env = (false, eval a X.env) :: starEach [b, c] X.env := by rfl) (hpl : (backTo pos (starEach [b, c] X.env)).any (·.1) = false := by rfl) :
    DI X W tg (.Call (.Name "range" p) [a, b, c] [] pos) (iRgN ga) := by
  refine PI.weak (pi_range3 hg hm ha hs hpl) fun σ H Rk h => ?_
  refine tG_mono (tG_bind (f := ga) (g := fun ds G S1 => match ds with | [.int i, .int j, .int c] => if (decide (c = -1) && (lim62 i && lim62 j)) = true then R.ok (Src.mk (rngD i (-1) (i - j).toNat) none) S1 else .bad | _ => .bad) h) fun x H1 q => ?_
  obtain ⟨ρ, G, S, ds, g, s, r, o⟩ := q
  split at o
  · rename_i i j cc
    split at o
    · rename_i c
      obtain ⟨u, r', rfl, r1, r2⟩ := VRs.cons_l r
      obtain ⟨v, w, rfl, r2, r3⟩ := VRs.two r2
      rw [VR_int] at r1 r2 r3; subst r1 r2 r3
      simp only [lim62, Bool.and_eq_true, decide_eq_true_eq] at c
      obtain ⟨c0, c⟩ := c
      subst c0
      refine ⟨i, j, -1, (i - j).toNat, rfl, RgC.neg (by omega) (by omega) (by omega) (by omega), o ρ H1 _ (.refl _ _) s (src_rng walk_rangeC)⟩
    · exact o.elim
  · exact o.elim
end
end Mir

namespace Mir
open PySem L2 PyProof.Rows
section
variable {X : Cx} {W : WX} {a b c e o i tg iter elt : Expr} {es : List Expr} {fa fb fc fe fo fi : ME} {ga : MA} {pos p apos : Pos} {x : Str}

/-! ### for -/
open Classical in
noncomputable def forF (r : Src) (t : Tg) (body : MS) : List D → MS
  | [] => fun G S => if r.ok S then .nx G S else .bad
  | d :: ds => fun G S => if r.ok S then (match bindT t d G S with
    | some G1 => (match body G1 S with
      | .nx G2 S2 => forF r t body ds G2 S2
      | .ct G2 S2 => forF r t body ds G2 S2
      | .bk G2 S2 => .nx G2 S2
      | q => q)
    | none => .bad) else .bad
noncomputable def sFor (f : MI) (t : Tg) (body : MS) : MS := fun G S => (f G S).s G fun r S1 => forF r t body r.ds G S1
theorem ds_for {f : MI} {t : Tg} {fb : MS} {body : List Stmt} (hp : PassesOwn (model X.prog X.w) X.A X.env X.xe) (hc : X.calm = true) (hi : DI X W tg iter f) (hg : DG X tg t) (hb : DSs X W body fb)
    (hs : ∀ x, foldedSetIterable iter X.env x = pure x := by intro _; rfl) : DS X W (.For tg iter body [] pos) (sFor f t fb) := by
  refine PS.weak (ps_for hp hc hi hg hb hs) fun Dn σ H h => ?_
  refine tG_mono (tS_bind (f := f) (k := fun r G S1 => forF r t fb r.ds G S1) (rel := fun ρ H r J => IsSrc X ρ H r J) h) fun J H0 q => ?_
  obtain ⟨ρ0, G0, S0, r, g0, s0, ⟨Gd, Y, w, hG, hY⟩, o0⟩ := q
  refine for_it w (fun i σ H => ∃ ρ G S, Ext ρ0 H0 ρ H ∧ GR X.K ρ H G σ ∧ Sim X.K X.mg ρ S H ∧ OutS X W ρ H (forF r t fb (r.ds.drop i) G S) Dn) ⟨ρ0, G0, S0, .refl _ _, g0, s0, o0⟩ ?_ ?_ ?_
  · rintro i σ1 H1 hi ⟨ρ, G, S, x1, g, s, o⟩
    refine hG ρ S H1 x1 s ?_
    cases e : r.ds.drop i with
    | nil =>
      rw [e] at o
      unfold forF at o
      by_cases k : r.ok S
      · exact k
      · rw [if_neg k] at o; exact (show False from o).elim
    | cons d ds =>
      rw [e] at o
      unfold forF at o
      by_cases k : r.ok S
      · exact k
      · rw [if_neg k] at o; exact (show False from o).elim
  · rintro i v σ1 H1 H2 hi ⟨ρ, G, S, x1, g, s, o⟩ hy
    rw [List.drop_eq_getElem_cons hi] at o
    unfold forF at o
    by_cases k : r.ok S
    · rw [if_pos k] at o
      obtain ⟨x2, s2, d, hd, rd⟩ := hY i ρ S H1 v H2 hi x1 s k hy
      have ed : r.ds[i] = d := by
        rw [List.getElem?_eq_getElem hi] at hd
        exact Option.some.inj hd
      rw [ed] at o
      split at o
      · rename_i G1 hG1
        refine bindT_ok s2 (g.mono x2) rd hG1 fun vs _ g1 => ?_
        refine ⟨ρ, G1, S, g1, s2, ?_⟩
        cases q : fb G1 S with
        | nx G2 S2 => rw [q] at o; exact fun ρ3 H3 σ3 x3 s3 g3 => ⟨ρ3, G2, S2, (x1.trans x2).trans x3, g3, s3, OutS.mono (r := forF r t fb (r.ds.drop (i + 1)) G2 S2) o (x2.trans x3)⟩
        | ct G2 S2 => rw [q] at o; exact fun ρ3 H3 σ3 x3 s3 g3 => ⟨ρ3, G2, S2, (x1.trans x2).trans x3, g3, s3, OutS.mono (r := forF r t fb (r.ds.drop (i + 1)) G2 S2) o (x2.trans x3)⟩
        | bk G2 S2 => rw [q] at o; exact fun ρ3 H3 σ3 x3 s3 g3 => o ρ3 H3 σ3 (x2.trans x3) s3 g3
        | rt d S2 => rw [q] at o; exact fun ρ3 H3 v x3 s3 r3 => o ρ3 H3 v (x2.trans x3) s3 r3
        | exc c fs G2 S2 => rw [q] at o; exact fun ρ3 H3 σ3 cls dx x3 s3 g3 r3 => o ρ3 H3 σ3 cls dx (x2.trans x3) s3 g3 r3
        | bad => rw [q] at o; exact o
      · exact (show False from o).elim
    · rw [if_neg k] at o; exact (show False from o).elim
  · rintro σ1 H1 ⟨ρ, G, S, x1, g, s, o⟩
    rw [List.drop_length] at o
    unfold forF at o
    by_cases k : r.ok S
    · rw [if_pos k] at o; exact outS_nx g s o
    · rw [if_neg k] at o; exact (show False from o).elim

/-! ### comprehensions -/
abbrev DPT (X : Cx) (W : WX) (ifs : List Expr) (f : MT) : Prop := PTs X ifs (tT X W f)
def tYesM : MT := fun _ S => .ok true S
theorem PTs.weak {ifs : List Expr} {t t' : TT} (h : PTs X ifs t) (k : ∀ σ H Q, t' σ H Q → t σ H Q) : PTs X ifs t' := ⟨fun pins s σ H Q I q => h.run pins s σ H Q I (k σ H Q q)⟩
theorem dpt_nil : DPT X W [] tYesM := PTs.weak pts_nil fun σ H Q h => by
  obtain ⟨ρ, G, S, g, s, o⟩ := h
  exact o ρ H true (.refl _ _) s rfl
theorem dpt_one {f : MT} (h : DT X W c f) : DPT X W [c] f := pts_one h
open Classical in
/-- the items into the list at n -/
noncomputable def lcF (r : Src) (t : Tg) (tt : MT) (fe : ME) (n : Nat) (G : GE) : List D → ST → R D
  | [], S => if r.ok S then .ok (.ref n) S else .bad
  | d :: ds, S => if r.ok S then (match bindT t d G S with
    | some G1 => (match tt G1 S with
      | .ok true S1 => (match fe G1 S1 with
        | .ok v S2 => (match S2[n]? with
          | some (.lst acc) => if acc.length < SZ then lcF r t tt fe n G ds (S2.set n (.lst (acc ++ [v]))) else .bad
          | _ => .bad)
        | _ => .bad)
      | .ok false S1 => lcF r t tt fe n G ds S1
      | _ => .bad)
    | none => .bad) else .bad
noncomputable def eLc (f : MI) (t : Tg) (tt : MT) (fe : ME) (own : List Nat) : ME := fun G S => (f G S).bind fun r S1 => lcF r t tt fe S1.length (wipeG G own) r.ds (S1 ++ [.lst []])
theorem wipe_sets : ∀ {is own : List Nat} {σ : L2.St} {vs : List V}, (∀ i ∈ is, i ∈ own) → L2.wipe (setσ σ is vs) own = L2.wipe σ own := by
  have one : ∀ {own : List Nat} {i : Nat} {σ : L2.St} {v : V}, i ∈ own → L2.wipe (σ.set i (some v)) own = L2.wipe σ own := by
    intro own
    induction own with
    | nil => intro i σ v h; cases h
    | cons j own ih =>
      intro i σ v h
      unfold L2.wipe
      by_cases hi : i ∈ own
      · rw [ih hi]
      · have e : i = j := by
          rcases List.mem_cons.mp h with e | e
          · exact e
          · exact absurd e hi
        subst e
        have comm : ∀ {own : List Nat}, i ∉ own → L2.wipe (σ.set i (some v)) own = (L2.wipe σ own).set i (some v) := by
          intro own
          induction own with
          | nil => intro _; rfl
          | cons k own ih2 =>
            intro hk
            unfold L2.wipe
            rw [ih2 (fun z => hk (List.mem_cons_of_mem _ z)), List.set_comm _ _ (fun z => hk (by rw [z]; exact List.mem_cons_self))]
        rw [comm hi, List.set_set]
  intro is
  induction is with
  | nil => intro own σ vs _; cases vs <;> rfl
  | cons i is ih =>
    intro own σ vs h
    cases vs with
    | nil => rfl
    | cons v vs =>
      show L2.wipe (setσ (σ.set i (some v)) is vs) own = _
      rw [ih fun j hj => h j (List.mem_cons_of_mem _ hj), one (h i List.mem_cons_self)]
theorem wipe_wipe {own : List Nat} {σ : L2.St} : ∀ {l : List Nat}, (∀ i ∈ l, i ∈ own) → L2.wipe (L2.wipe σ own) l = L2.wipe σ own := by
  intro l
  induction l with
  | nil => intro _; rfl
  | cons j l ih =>
    intro hl
    show (L2.wipe (L2.wipe σ own) l).set j none = L2.wipe σ own
    rw [ih fun i hi => hl i (List.mem_cons_of_mem _ hi)]
    refine List.ext_getElem? fun m => ?_
    by_cases hm : j = m
    · subst hm
      have hj := hl j List.mem_cons_self
      by_cases hl2 : j < (L2.wipe σ own).length
      · rw [List.getElem?_set_self hl2]
        cases e : (L2.wipe σ own)[j]? with
        | none => rw [List.getElem?_eq_none_iff] at e; omega
        | some z =>
          cases z with
          | none => rfl
          | some z => exact absurd hj (wipe_some e).2
      · rw [List.getElem?_eq_none (by simpa using Nat.not_lt.mp hl2), List.getElem?_eq_none (Nat.not_lt.mp hl2)]
    · rw [List.getElem?_set_ne hm]
theorem lc_end {f : MI} {t : Tg} {tt : MT} {own : List Nat} (ht : ∀ i ∈ t.slots, i ∈ own) {σ : L2.St} {H : Hp} {Q : VK} (h : tE X W (eLc f t tt fe own) σ H Q) : tLc (tI X W f) (tgOf X.K t) (tT X W0 tt) (tE X W0 fe) own σ H Q := by
  refine tG_mono (tG_bind (f := f) (g := fun r G S1 => lcF r t tt fe S1.length (wipeG G own) r.ds (S1 ++ [.lst []])) h) fun J H0 q => ?_
  obtain ⟨ρ0, G0, S0, r, g0, s0, ⟨Gd, Y, w, hG, hY⟩, o0⟩ := q
  intro Dd hD
  have sA := s0.alloc (ho := .lst []) (o := .lst []) hD ⟨[], upd_same, .nil⟩
  have xA : Ext ρ0 H0 (ρ0 ++ [Dd]) (upd H0 Dd (.lst [])) := .alloc hD
  have nA : (ρ0 ++ [Dd])[S0.length]? = some Dd := by rw [← s0.len]; simp
  have okof : ∀ {ds : List D} {S : ST} {ρ : List Addr} {H : Hp} {G : GE}, OutG X W (rV X) ρ σ H (lcF r t tt fe S0.length G ds S) Q → r.ok S := fun {ds S ρ H G} o => by
    cases ds <;> (unfold lcF at o; by_cases k : r.ok S <;> first | exact k | (rw [if_neg k] at o; exact (show False from o).elim))
  refine lc_it w (fun i H => ∃ ρ S, Ext (ρ0 ++ [Dd]) (upd H0 Dd (.lst [])) ρ H ∧ Sim X.K X.mg ρ S H ∧ OutG X W (rV X) ρ σ H (lcF r t tt fe S0.length (wipeG G0 own) (r.ds.drop i) S) Q) ⟨ρ0 ++ [Dd], S0 ++ [.lst []], .refl _ _, sA, OutG.mono o0 xA fun _ _ z => z⟩ ?_ ?_ ?_
  · rintro i H1 hi ⟨ρ, S, x1, s, o⟩
    exact hG ρ S H1 (xA.trans x1) s (okof o)
  · rintro i v H1 H2 hi ⟨ρ, S, x1, s, o⟩ hy
    have k := okof o
    rw [List.drop_eq_getElem_cons hi] at o
    unfold lcF at o
    rw [if_pos k] at o
    obtain ⟨x2, s2, d, hd, rd⟩ := hY i ρ S H1 v H2 hi (xA.trans x1) s k hy
    have ed : r.ds[i] = d := by
      rw [List.getElem?_eq_getElem hi] at hd
      exact Option.some.inj hd
    rw [ed] at o
    have gw : GR X.K ρ H2 (wipeG G0 own) (L2.wipe σ own) := (g0.mono ((xA.trans x1).trans x2)).wipe own
    split at o
    · rename_i G1 hG1
      refine bindT_ok s2 gw rd hG1 fun vs _ g1 => ⟨?_, ρ, G1, S, g1, s2, ?_⟩
      · rw [wipe_sets ht]
        exact wipe_wipe fun _ h => h
      · -- the test
        cases e1 : tt G1 S with
        | exc c fs S1 => rw [e1] at o; exact (show False from o).elim
        | bad => rw [e1] at o; exact (show False from o).elim
        | ok kb S1 =>
          rw [e1] at o
          intro ρ3 H3 kb' x3 s3 r3
          have r3 : kb' = kb := r3
          subst r3
          cases kb' with
          | false =>
            rw [if_neg (by decide)]
            exact ⟨ρ3, S1, x1.trans (x2.trans x3), s3, OutG.mono (r := lcF r t tt fe S0.length (wipeG G0 own) (r.ds.drop (i + 1)) S1) o (x2.trans x3) fun _ _ z => z⟩
          | true =>
            rw [if_pos rfl]
            dsimp only at o
            refine ⟨ρ3, G1, S1, g1.mono x3, s3, ?_⟩
            cases e2 : fe G1 S1 with
            | exc c fs S2 => rw [e2] at o; exact (show False from o).elim
            | bad => rw [e2] at o; exact (show False from o).elim
            | ok y S2 =>
              rw [e2] at o
              intro ρ4 H4 yv x4 s4 r4
              dsimp only at o
              split at o
              · rename_i acc hacc
                split at o
                · rename_i hlen
                  have pA : ρ4[S0.length]? = some Dd := (x1.trans (x2.trans (x3.trans x4))).get nA
                  obtain ⟨vs4, w4, v4⟩ := s4.obj _ Dd _ pA hacc
                  have hm : Mut (H4 Dd) := by rw [w4]; exact True.intro
                  refine ⟨vs4, w4, by rw [sizeLine_eq, ← v4.length]; exact hlen, ρ4, S2.set S0.length (.lst (acc ++ [y])), ?_, s4.write pA hm ⟨_, upd_same, (v4.append (.cons r4 .nil)).mono (.write hm)⟩, ?_⟩
                  · exact x1.trans (x2.trans (x3.trans (x4.trans (.write hm))))
                  · exact OutG.mono o (x2.trans (x3.trans (x4.trans (.write hm)))) fun _ _ z => z
                · exact (show False from o).elim
              · exact (show False from o).elim
    · exact (show False from o).elim
  · rintro H1 ⟨ρ, S, x1, s, o⟩
    rw [List.drop_length] at o
    have k := okof o
    unfold lcF at o
    rw [if_pos k] at o
    exact o ρ H1 _ (.refl _ _) s (VR_ref.mpr ⟨Dd, x1.get nA, rfl⟩)
theorem de_lc {f : MI} {t : Tg} {tt : MT} {ifs : List Expr} {scope : Scope} {own : List (Str × Nat)} (hc : X.calm = true) (hN : X.N.Nodup) (hi : DI X W tg iter f) (ok : BlkOk X.N X.env.scope scope own)
    (hg : ∀ (s : Shared) (H : Hp) (C : Addr) (cl : List (Str × Addr)) (fp : List Addr), DG (X.blk s H scope (compEnvC scope cl C X.env) fp) tg t)
    (ht : ∀ (s : Shared) (H : Hp) (C : Addr) (cl : List (Str × Addr)) (fp : List Addr), DPT (X.blk s H scope (compEnvC scope cl C X.env) fp) W0 ifs tt)
    (he : ∀ (s : Shared) (H : Hp) (C : Addr) (cl : List (Str × Addr)) (fp : List Addr), DE (X.blk s H scope (compEnvC scope cl C X.env) fp) W0 elt fe)
    (hts : ∀ i ∈ t.slots, i ∈ own.map (·.2) := by decide) (hs : ∀ x, foldedSetIterable iter X.env x = pure x := by intro _; rfl) :
    DE X W (.ListComp elt [⟨tg, iter, ifs, 0⟩] scope pos) (eLc f t tt fe (own.map (·.2))) :=
  PE.weak (pe_lc (g := tgOf X.K t) (tt := tT X W0 tt) (te := tE X W0 fe) hc hN hi ok hg ht he hs) fun σ H Q h => lc_end hts h
theorem ds_setLc {i : Nat} {y : Str} {py spos : Pos} {f : MI} {t : Tg} {tt : MT} {ifs : List Expr} {scope : Scope} {own : List (Str × Nat)} (hc : X.calm = true) (hN : X.N.Nodup) (hy : X.N[i]? = some y) (hyl : X.env.scope.names.lookup y = some .local)
    (hsw : swapsWith (.ListComp elt [⟨tg, iter, ifs, 0⟩] scope pos) (some (.Name y py)) spos.line X.env = pure true) (hi : DI X W tg iter f) (ok : BlkOk X.N X.env.scope scope own)
    (hg : ∀ (s : Shared) (H : Hp) (C : Addr) (cl : List (Str × Addr)) (fp : List Addr), DG (X.blk s H scope (compEnvC scope cl C X.env) fp) tg t)
    (ht : ∀ (s : Shared) (H : Hp) (C : Addr) (cl : List (Str × Addr)) (fp : List Addr), DPT (X.blk s H scope (compEnvC scope cl C X.env) fp) W0 ifs tt)
    (he : ∀ (s : Shared) (H : Hp) (C : Addr) (cl : List (Str × Addr)) (fp : List Addr), DE (X.blk s H scope (compEnvC scope cl C X.env) fp) W0 elt fe)
    (hts : ∀ i ∈ t.slots, i ∈ own.map (·.2) := by decide) (hs : ∀ x, foldedSetIterable iter X.env x = pure x := by intro _; rfl) :
    DS X W (.Assign [.Name y py] (.ListComp elt [⟨tg, iter, ifs, 0⟩] scope pos) spos) (sSet i (eLc f t tt fe (own.map (·.2)))) :=
  PS.weak (ps_setLc (g := tgOf X.K t) (tt := tT X W0 tt) (te := tE X W0 fe) hc hN hy hyl hsw hi ok hg ht he hs) fun D σ H h => by
    show tLc _ _ _ _ _ σ H fun x H1 => gName i x σ H1 D.nx
    exact lc_end hts (set_end h)
end
end Mir

namespace Mir
open PySem L2 PyProof.Rows

theorem hu65 {k : Nat} {A : Around} (r : Room k A) : A.units + 65 < cLine := by have := r.un; omega
theorem hu64 {k : Nat} {A : Around} (r : Room k A) : A.units + 64 < cLine := by have := r.un; omega
/-! ### built-ins -/
theorem bb_len : bootBuiltins "len" = some (.builtin "len") := by decide +kernel
theorem bb_abs : bootBuiltins "abs" = some (.builtin "abs") := by decide +kernel
theorem bb_max : bootBuiltins "max" = some (.builtin "max") := by decide +kernel
theorem bb_min : bootBuiltins "min" = some (.builtin "min") := by decide +kernel
theorem bb_sum : bootBuiltins "sum" = some (.builtin "sum") := by decide +kernel
theorem bb_sorted : bootBuiltins "sorted" = some (.builtin "sorted") := by decide +kernel
theorem bb_isinstance : bootBuiltins "isinstance" = some (.builtin "isinstance") := by decide +kernel
theorem bb_all : bootBuiltins "all" = some (.builtin "all") := by decide +kernel
theorem bb_any : bootBuiltins "any" = some (.builtin "any") := by decide +kernel
theorem bb_int : bootBuiltins "int" = some (.type "int") := by decide +kernel
theorem bb_bool : bootBuiltins "bool" = some (.type "bool") := by decide +kernel
theorem bb_str : bootBuiltins "str" = some (.type "str") := by decide +kernel
theorem bb_list : bootBuiltins "list" = some (.type "list") := by decide +kernel
theorem bb_tuple : bootBuiltins "tuple" = some (.type "tuple") := by decide +kernel
theorem bb_dict : bootBuiltins "dict" = some (.type "dict") := by decide +kernel
/-! ### facts of the text -/
/-- a def of the text, at its name -/
def DefAt (K : PySem.W.Frag) (mg : Str → Option Value) (x qual : Str) (st : Stmt) (ps : List Str) : Prop := ∃ f fd, Fun K x qual st f fd ∧ Binds K fd ps [] ∧ mg x = some (.ref f)
/-- it keeps its promise -/
def Okd (P : Program) (w : World) (K : PySem.W.Frag) (mg : Str → Option Value) (base : Heap) (CX : CXT) (k : Nat) (x : Str) (n : Nat) (m : Fn) : Prop :=
  ∃ f fd ps, FnOk P w K mg base CX k f fd ps (spM K mg n m) ∧ PySem.W.keepIn K (.ref f) = true ∧ Binds K fd ps [] ∧ mg x = some (.ref f)
/-- a class of the text: its own attributes -/
def ClsAt (K : PySem.W.Frag) (mg : Str → Option Value) (c : Str) (fs : List Str) : Prop := ∃ C, mg c = some (.ref C) ∧ Cls K C ∧ ∀ f ∈ fs, NoAttr K C f
/-- a method of the text -/
def MethAt (K : PySem.W.Frag) (mg : Str → Option Value) (c x qual : Str) (st : Stmt) (ps : List Str) : Prop := ∃ C f fd, mg c = some (.ref C) ∧ Cls K C ∧ Meth K C x f ∧ Fun K x qual st f fd ∧ Binds K fd ps []
def InitAt (K : PySem.W.Frag) (mg : Str → Option Value) (c qual : Str) (st : Stmt) (ps : List Str) : Prop := ∃ C f fd, mg c = some (.ref C) ∧ Mk K C f ∧ Fun K "__init__" qual st f fd ∧ Binds K fd ps []
def Okm (P : Program) (w : World) (K : PySem.W.Frag) (mg : Str → Option Value) (base : Heap) (CX : CXT) (k : Nat) (c x : Str) (n : Nat) (m : Fn) : Prop :=
  ∃ C f fd ps, mg c = some (.ref C) ∧ Cls K C ∧ Meth K C x f ∧ FnOk P w K mg base CX k f fd ps (spM K mg n m) ∧ Binds K fd ps []
def Oki (P : Program) (w : World) (K : PySem.W.Frag) (mg : Str → Option Value) (base : Heap) (k : Nat) (c : Str) (n : Nat) (m : Fn) : Prop :=
  ∃ C f fd ps, mg c = some (.ref C) ∧ Mk K C f ∧ FnOk P w K mg base CX0 k f fd ps (spM K mg n m) ∧ Binds K fd ps []
def ConAt (K : PySem.W.Frag) (mg : Str → Option Value) (x : Str) (d : D) : Prop := ∃ v u, mg x = some u ∧ RelV v u ∧ ∀ ρ H, VR K ρ H d v
section
variable {X : Cx} {W : WX} {e o : Expr} {es : List Expr} {fe fo : ME} {ga : MA} {pos p apos : Pos} {x : Str} {CX : CXT} {k l n : Nat} {m : Fn}
theorem de_fnE (h : Okd X.prog X.w X.K X.mg X.base CX k x n m) (hr : Room k X.A) (hg : Gl X x) (hx : Hx CX X W)
    (ha : DA X W (e :: es) ga) (hdb : (x == ("__debug__" : Str)) = false := by decide) (he : starEach (e :: es) X.env = (false, eval e X.env) :: starEach es X.env := by rfl) (hpl : (backTo pos (starEach es X.env)).any (·.1) = false := by rfl) :
    DE X W (.Call (.Name x p) (e :: es) [] pos) (eFn n m ga) := by
  obtain ⟨f, fd, ps, F, hk, hb, hm⟩ := h
  exact de_fn F hr hg hm hk hb hx ha hdb he hpl
theorem de_fn0E (h : Okd X.prog X.w X.K X.mg X.base CX k x n m) (hr : Room k X.A) (hg : Gl X x) (hx : Hx CX X W) (hdb : (x == ("__debug__" : Str)) = false := by decide) : DE X W (.Call (.Name x p) [] [] pos) (eFn n m aNil) := by
  obtain ⟨f, fd, ps, F, hk, hb, hm⟩ := h
  exact de_fn0 F hr hg hm hk hb hx hdb
theorem de_makeE {c : Str} (h : Oki X.prog X.w X.K X.mg X.base k c n m) (hr : Room (k + 1) X.A) (hg : Gl X c)
    (ha : DA X W (e :: es) ga) (hdb : (c == ("__debug__" : Str)) = false := by decide) (he : starEach (e :: es) X.env = (false, eval e X.env) :: starEach es X.env := by rfl) (hpl : (backTo pos (starEach es X.env)).any (·.1) = false := by rfl) :
    DE X W (.Call (.Name c p) (e :: es) [] pos) (eMake c n m ga) := by
  obtain ⟨C, f, fd, ps, hm, M, F, hb⟩ := h
  exact de_make M F hr hg hm hb ha hdb he hpl
theorem de_make0E {c : Str} (h : Oki X.prog X.w X.K X.mg X.base k c n m) (hr : Room (k + 1) X.A) (hg : Gl X c) (hdb : (c == ("__debug__" : Str)) = false := by decide) : DE X W (.Call (.Name c p) [] [] pos) (eMake c n m aNil) := by
  obtain ⟨C, f, fd, ps, hm, M, F, hb⟩ := h
  exact de_make0 M F hr hg hm hb hdb
theorem methOf {c name : Str} (h : Okm X.prog X.w X.K X.mg X.base CX k c name n m) (hr : Room k X.A) (hx : Hx CX X W) (hl : ∀ ds S, ds.length ≠ n → m ds S = .bad) : MethOf X W name c m := by
  obtain ⟨C, f, fd, ps, hm, kc, km, F, hb⟩ := h
  refine ⟨fun C' hC => ?_⟩
  rw [hm] at hC
  cases hC
  exact ⟨f, CX, k, n, fd, ps, kc, km, F, hr, hb, hx, hl⟩
theorem mkFn_len {n k : Nat} {b : MS} : ∀ ds S, ds.length ≠ n → mkFn n k b ds S = .bad := fun ds S h => by
  unfold mkFn
  rw [if_neg h]
theorem de_cg {d : D} (h : ConAt X.K X.mg x d) (hg : Gl X x) (hdb : (x == ("__debug__" : Str)) = false := by decide) : DE X W (.Name x pos) (eC d) := by
  obtain ⟨v, u, h1, h2, h3⟩ := h
  exact de_glob hg h1 h2 h3 hdb
end
abbrev BearsK (K : PySem.W.Frag) (mg : Str → Option Value) (cs : List Str) (f : Str) : Prop := ∀ c ∈ cs, ∀ C, mg c = some (.ref C) → Cls K C ∧ NoAttr K C f
theorem bears_one {K : PySem.W.Frag} {mg : Str → Option Value} {c f : Str} {fs : List Str} (h : ClsAt K mg c fs) (hf : f ∈ fs) : BearsK K mg [c] f := fun c' hc C hC => by
  have e : c' = c := by simpa using hc
  subst e
  obtain ⟨C', h1, h2, h3⟩ := h
  rw [h1] at hC
  cases hC
  exact ⟨h2, h3 f hf⟩
theorem bears_cons {K : PySem.W.Frag} {mg : Str → Option Value} {c f : Str} {cs : List Str} (h : BearsK K mg [c] f) (t : BearsK K mg cs f) : BearsK K mg (c :: cs) f := fun c' hc C hC => by
  rcases List.mem_cons.mp hc with e | hc
  · exact h c' (by rw [e]; exact List.mem_cons_self) C hC
  · exact t c' hc C hC
section
variable {P : Program} {w : World} {K : PySem.W.Frag} {mg : Str → Option Value} {base : Heap} {x qual : Str} {st : Stmt} {N ps : List Str} {l n k : Nat} {body : MS}
theorem okd0 (Dx : DefAt K mg x qual st ps) (Sc : FnScope N ps (defScope st)) (hN : N.length = n + k) (hp : ps.length = n)
    (hb : ∀ (f : Addr) (cdv : Value) (A : Around) (outer : List Env) (s : Shared) (H : Hp) (E : XK), Room l (A.deeper (envOfC qual (defScope st) s.heap.objs.size f cdv)) →
      DSs (cxOf CX0 P w K mg base N qual (defScope st) f cdv A outer s H E).nox (fun c d _ H => E c d H) (defBody st) body) : Okd P w K mg base CX0 (l + 1) x n (mkFn n k body) := by
  obtain ⟨f, fd, F, b, m⟩ := Dx
  exact ⟨f, fd, ps, fn0 F Sc hN hp (hb f), F.kp, b, m⟩
theorem okm0 {c : Str} (Dx : MethAt K mg c x qual st ps) (Sc : FnScope N ps (defScope st)) (hN : N.length = n + k) (hp : ps.length = n)
    (hb : ∀ (f : Addr) (cdv : Value) (A : Around) (outer : List Env) (s : Shared) (H : Hp) (E : XK), Room l (A.deeper (envOfC qual (defScope st) s.heap.objs.size f cdv)) →
      DSs (cxOf CX0 P w K mg base N qual (defScope st) f cdv A outer s H E).nox (fun c d _ H => E c d H) (defBody st) body) : Okm P w K mg base CX0 (l + 1) c x n (mkFn n k body) := by
  obtain ⟨C, f, fd, hm, kc, km, F, b⟩ := Dx
  exact ⟨C, f, fd, ps, hm, kc, km, fn0 F Sc hN hp (hb f), b⟩
theorem oki0 {c : Str} (Dx : InitAt K mg c qual st ps) (Sc : FnScope N ps (defScope st)) (hN : N.length = n + k) (hp : ps.length = n)
    (hb : ∀ (f : Addr) (cdv : Value) (A : Around) (outer : List Env) (s : Shared) (H : Hp) (E : XK), Room l (A.deeper (envOfC qual (defScope st) s.heap.objs.size f cdv)) →
      DSs (cxOf CX0 P w K mg base N qual (defScope st) f cdv A outer s H E).nox (fun c d _ H => E c d H) (defBody st) body) : Oki P w K mg base (l + 1) c n (mkFn n k body) := by
  obtain ⟨C, f, fd, hm, M, F, b⟩ := Dx
  exact ⟨C, f, fd, ps, hm, M, fn0 F Sc hN hp (hb f), b⟩
def mBad : Fn := fun _ _ => .bad
theorem spM_bad {vs : List V} {H : Hp} {Q : VK} {E : XK} (h : spM K mg n mBad vs H Q E) : False := by
  obtain ⟨ρ, S, ds, _, _, _, o⟩ := h
  exact o
theorem okd_bad (Dx : DefAt K mg x qual st ps) (hp : ps.length = n) {CX : CXT} {l : Nat} : Okd P w K mg base CX l x n mBad := by
  obtain ⟨f, fd, F, b, m⟩ := Dx
  exact ⟨f, fd, ps, ⟨fun vs H Q E h => (spM_bad h).elim, fun A outer s H args us vs Q E _ _ _ _ h => (spM_bad h).elim⟩, F.kp, b, m⟩
theorem okm_bad {c : Str} (Dx : MethAt K mg c x qual st ps) (hp : ps.length = n) {CX : CXT} {l : Nat} : Okm P w K mg base CX l c x n mBad := by
  obtain ⟨C, f, fd, hm, kc, km, F, b⟩ := Dx
  exact ⟨C, f, fd, ps, hm, kc, km, ⟨fun vs H Q E h => (spM_bad h).elim, fun A outer s H args us vs Q E _ _ _ _ h => (spM_bad h).elim⟩, b⟩
end
/-! ### the law -/
/-- law's promise: for a list of at most 63 ints the answer is True -/
def spLaw (K : PySem.W.Frag) : Sp := fun vs H Q _ => ∃ (a : Addr) (ns : List Int), vs = [.ref a] ∧ Only H ∧ SqL K H a (ns.map V.int) ∧ ns.length ≤ 63 ∧ ∀ H', Q (.bl true) H'
theorem law_fn {P : Program} {w : World} {K : PySem.W.Frag} {mg : Str → Option Value} {base : Heap} {k : Nat} {f : Addr} {fd : FuncData} {ps : List Str} {m : Fn} (F : FnOk P w K mg base CX0 k f fd ps (spM K mg 1 m)) (hm : ∀ ns : List Int, ns.length ≤ 63 → ∃ S', m [.fl (ns.map D.int)] [] = .ok (.bl true) S') : FnOk P w K mg base CX0 k f fd ps (spLaw K) :=
  F.imp fun vs H Q E h => by
    obtain ⟨a, ns, rfl, ho, hS, hl, q⟩ := h
    obtain ⟨S', e⟩ := hm ns hl
    refine ⟨[], [], [.fl (ns.map D.int)], .cons (VR_fl.mpr ⟨a, ns.map V.int, rfl, ?_, VRs.of_ints ns⟩) .nil, rfl, ⟨List.nodup_nil, rfl, fun n a o h => by simp at h⟩, ?_⟩
    · rcases hS with (h | ⟨o, h⟩) | h
      · rcases ho a with z | ⟨o, xs, z⟩
        · rw [h] at z; cases z
        · rw [h] at z; cases z
      · exact .inl ⟨o, h⟩
      · exact .inr h
    · rw [e]
      intro ρ' H' v x s r
      rw [VR_bl] at r; subst r
      exact q H'
end Mir

namespace Mir
open PySem L2 PyProof.Rows

/-! ### running the mirror, from the left -/
abbrev XQ := Str → List (Str × D) → ST → Prop
def wpR {α : Type} (r : R α) (Q : α → ST → Prop) (X : XQ) : Prop := match r with
  | .ok a S => Q a S
  | .exc c fs S => X c fs S
  | .bad => False
def wpE {α : Type} (f : GE → ST → R α) (G : GE) (S : ST) (Q : α → ST → Prop) (X : XQ) : Prop := wpR (f G S) Q X
structure Kt where
  nx : GE → ST → Prop
  rt : D → ST → Prop
  bk : GE → ST → Prop
  ct : GE → ST → Prop
  ex : Str → List (Str × D) → GE → ST → Prop
def runK (r : RS) (K : Kt) : Prop := match r with
  | .nx G S => K.nx G S
  | .rt d S => K.rt d S
  | .bk G S => K.bk G S
  | .ct G S => K.ct G S
  | .exc c fs G S => K.ex c fs G S
  | .bad => False
def wpS (f : MS) (G : GE) (S : ST) (K : Kt) : Prop := runK (f G S) K

section
variable {α β : Type} {Q : α → ST → Prop} {X : XQ} {S : ST} {G : GE} {K : Kt}
theorem wp_ok {a : α} : wpR (.ok a S) Q X = Q a S := rfl
theorem wp_exc {c fs} : wpR (.exc c fs S : R α) Q X = X c fs S := rfl
theorem wp_bad : wpR (.bad : R α) Q X = False := rfl
theorem wp_ite {c : Prop} [Decidable c] {r : R α} : wpR (if c then r else .bad) Q X = (c ∧ wpR r Q X) := by
  by_cases h : c
  · rw [if_pos h]; simp [h]
  · rw [if_neg h]; simp [h, wp_bad]
theorem wp_bind {r : R β} {f : β → ST → R α} : wpR (r.bind f) Q X = wpR r (fun b S => wpR (f b S) Q X) X := by cases r <;> rfl
/-- names -/
def kV (o : Option (Option D)) (S : ST) (Q : D → ST → Prop) : Prop := match o with | some (some d) => Q d S | _ => False
theorem kV_some {d : D} {Q : D → ST → Prop} : kV (some (some d)) S Q = Q d S := rfl
theorem wp_eV {i : Nat} {Q : D → ST → Prop} : wpE (eV i) G S Q X = kV G[i]? S Q := by
  unfold wpE eV kV
  split <;> rename_i h
  · simp [h, wpR]
  · first
    | rfl
    | (split
       · rename_i d e; exact absurd e (h d)
       · rfl)
theorem wp_eC {d : D} {Q : D → ST → Prop} : wpE (eC d) G S Q X = Q d S := rfl
def k2b (m : D → D → C D) (a : D) (Q : D → ST → Prop) (X : XQ) : D → ST → Prop := fun b S => wpR (m a b S) Q X
def k2a (m : D → D → C D) (fb : ME) (G : GE) (Q : D → ST → Prop) (X : XQ) : D → ST → Prop := fun a S => wpE fb G S (k2b m a Q X) X
theorem wp_e2 {m : D → D → C D} {fa fb : ME} {Q : D → ST → Prop} : wpE (e2 m fa fb) G S Q X = wpE fa G S (k2a m fb G Q X) X := by
  unfold wpE e2 k2a
  rw [wp_bind]
  congr 1
  funext a S
  unfold wpE
  rw [wp_bind]
  rfl
theorem k2a_eq {m : D → D → C D} {fb : ME} {Q : D → ST → Prop} {a : D} : k2a m fb G Q X a S = wpE fb G S (k2b m a Q X) X := rfl
theorem k2b_eq {m : D → D → C D} {Q : D → ST → Prop} {a b : D} : k2b m a Q X b S = wpR (m a b S) Q X := rfl
def k1 {γ : Type} (m : γ → C α) (Q : α → ST → Prop) (X : XQ) : γ → ST → Prop := fun a S => wpR (m a S) Q X
theorem k1_eq {γ : Type} {m : γ → C α} {a : γ} : k1 m Q X a S = wpR (m a S) Q X := rfl
theorem wp_e1 {m : D → C D} {fa : ME} {Q : D → ST → Prop} : wpE (e1 m fa) G S Q X = wpE fa G S (k1 m Q X) X := by
  unfold wpE e1 k1; rw [wp_bind]
theorem wp_eCall {m : List D → C D} {ga : MA} {Q : D → ST → Prop} : wpE (eCall m ga) G S Q X = wpE ga G S (k1 m Q X) X := by
  unfold wpE eCall k1; rw [wp_bind]
theorem wp_aNil {Q : List D → ST → Prop} : wpE aNil G S Q X = Q [] S := rfl
def kC2 (d : D) (Q : List D → ST → Prop) : List D → ST → Prop := fun ds S => Q (d :: ds) S
def kC1 (g : MA) (G : GE) (Q : List D → ST → Prop) (X : XQ) : D → ST → Prop := fun d S => wpE g G S (kC2 d Q) X
theorem wp_aCons {f : ME} {g : MA} {Q : List D → ST → Prop} : wpE (aCons f g) G S Q X = wpE f G S (kC1 g G Q X) X := by
  unfold wpE aCons kC1
  rw [wp_bind]
  congr 1
  funext d S
  unfold wpE
  rw [wp_bind]
  rfl
theorem kC1_eq {g : MA} {Q : List D → ST → Prop} {d : D} : kC1 g G Q X d S = wpE g G S (kC2 d Q) X := rfl
theorem kC2_eq {d : D} {Q : List D → ST → Prop} {ds : List D} : kC2 d Q ds S = Q (d :: ds) S := rfl
def kTup (Q : D → ST → Prop) : List D → ST → Prop := fun ds S => ds.length ≤ SZ ∧ Q (.tup ds) S
theorem wp_eTup {ga : MA} {Q : D → ST → Prop} : wpE (eTup ga) G S Q X = wpE ga G S (kTup Q) X := by
  unfold wpE eTup kTup
  rw [wp_bind]
  congr 1
  funext ds S
  rw [wp_ite]; rfl
theorem kTup_eq {Q : D → ST → Prop} {ds : List D} : kTup Q ds S = (ds.length ≤ SZ ∧ Q (.tup ds) S) := rfl
def kLst (Q : D → ST → Prop) : List D → ST → Prop := fun ds S => ds.length ≤ SZ ∧ Q (.ref S.length) (S ++ [.lst ds])
theorem wp_eLst {ga : MA} {Q : D → ST → Prop} : wpE (eLst ga) G S Q X = wpE ga G S (kLst Q) X := by
  unfold wpE eLst kLst
  rw [wp_bind]
  congr 1
  funext ds S
  rw [wp_ite]; rfl
theorem kLst_eq {Q : D → ST → Prop} {ds : List D} : kLst Q ds S = (ds.length ≤ SZ ∧ Q (.ref S.length) (S ++ [.lst ds])) := rfl
theorem wp_allocO {o : O} {Q : D → ST → Prop} : wpR (allocO o S) Q X = Q (.ref S.length) (S ++ [o]) := rfl
def kFn (n : Nat) (m : Fn) (Q : D → ST → Prop) (X : XQ) : List D → ST → Prop := fun ds S => ds.length = n ∧ wpR (m ds S) Q X
theorem wp_eFn {n : Nat} {m : Fn} {ga : MA} {Q : D → ST → Prop} : wpE (eFn n m ga) G S Q X = wpE ga G S (kFn n m Q X) X := by
  unfold wpE eFn kFn
  rw [wp_bind]
  congr 1
  funext ds S
  rw [wp_ite]
theorem kFn_eq {n : Nat} {m : Fn} {Q : D → ST → Prop} {ds : List D} : kFn n m Q X ds S = (ds.length = n ∧ wpR (m ds S) Q X) := rfl
/-- tests -/
def kTb (Q : Bool → ST → Prop) : D → ST → Prop := fun d S => match d with | .bl b => Q b S | _ => False
theorem wp_tb {f : ME} {Q : Bool → ST → Prop} : wpE (tb f) G S Q X = wpE f G S (kTb Q) X := by
  unfold wpE tb
  rw [wp_bind]
  congr 1
  funext d S
  cases d <;> rfl
theorem kTb_eq {Q : Bool → ST → Prop} {b : Bool} : kTb Q (.bl b) S = Q b S := rfl
def kTru (Q : Bool → ST → Prop) : D → ST → Prop := fun d S => match truD S d with | some b => Q b S | none => False
theorem wp_tTru {f : ME} {Q : Bool → ST → Prop} : wpE (tTru f) G S Q X = wpE f G S (kTru Q) X := by
  unfold wpE tTru kTru
  rw [wp_bind]
  congr 1
  funext d S
  cases truD S d <;> rfl
theorem kTru_eq {Q : Bool → ST → Prop} {d : D} {b : Bool} (h : truD S d = some b) : kTru Q d S = Q b S := by unfold kTru; rw [h]
theorem kTru_bl {Q : Bool → ST → Prop} {b : Bool} : kTru Q (.bl b) S = Q b S := rfl
def kAnd (g : MT) (G : GE) (Q : Bool → ST → Prop) (X : XQ) : Bool → ST → Prop := fun b S => (b = true → wpE g G S Q X) ∧ (b = false → Q false S)
theorem wp_tAnd {f g : MT} {Q : Bool → ST → Prop} : wpE (Mir.tAnd f g) G S Q X = wpE f G S (kAnd g G Q X) X := by
  unfold wpE Mir.tAnd kAnd
  rw [wp_bind]
  congr 1
  funext b S
  cases b <;> simp [wpE, wp_ok]
theorem kAnd_t {g : MT} {Q : Bool → ST → Prop} : kAnd g G Q X true S = wpE g G S Q X := by simp [kAnd]
theorem kAnd_d {g : MT} {Q : Bool → ST → Prop} {p : Prop} [Decidable p] : kAnd g G Q X (decide p) S = ((p → wpE g G S Q X) ∧ (¬p → Q false S)) := by simp [kAnd]
theorem kAnd_n {g : MT} {Q : Bool → ST → Prop} {p : Prop} [Decidable p] : kAnd g G Q X (!decide p) S = ((¬p → wpE g G S Q X) ∧ (p → Q false S)) := by simp [kAnd]
theorem kAnd_f {g : MT} {Q : Bool → ST → Prop} : kAnd g G Q X false S = Q false S := by simp [kAnd]
def kOr (g : MT) (G : GE) (Q : Bool → ST → Prop) (X : XQ) : Bool → ST → Prop := fun b S => (b = true → Q true S) ∧ (b = false → wpE g G S Q X)
theorem wp_tOr {f g : MT} {Q : Bool → ST → Prop} : wpE (Mir.tOr f g) G S Q X = wpE f G S (kOr g G Q X) X := by
  unfold wpE Mir.tOr kOr
  rw [wp_bind]
  congr 1
  funext b S
  cases b <;> simp [wpE, wp_ok]
theorem kOr_t {g : MT} {Q : Bool → ST → Prop} : kOr g G Q X true S = Q true S := by simp [kOr]
theorem kOr_d {g : MT} {Q : Bool → ST → Prop} {p : Prop} [Decidable p] : kOr g G Q X (decide p) S = ((p → Q true S) ∧ (¬p → wpE g G S Q X)) := by simp [kOr]
theorem kOr_n {g : MT} {Q : Bool → ST → Prop} {p : Prop} [Decidable p] : kOr g G Q X (!decide p) S = ((¬p → Q true S) ∧ (p → wpE g G S Q X)) := by simp [kOr]
theorem kOr_f {g : MT} {Q : Bool → ST → Prop} : kOr g G Q X false S = wpE g G S Q X := by simp [kOr]
def kNot (Q : Bool → ST → Prop) : Bool → ST → Prop := fun b S => Q (!b) S
theorem wp_tNot {f : MT} {Q : Bool → ST → Prop} : wpE (Mir.tNot f) G S Q X = wpE f G S (kNot Q) X := by
  unfold wpE Mir.tNot
  rw [wp_bind]
  rfl
theorem kNot_eq {Q : Bool → ST → Prop} {b : Bool} : kNot Q b S = Q (!b) S := rfl
def kIf (f g : ME) (G : GE) (Q : D → ST → Prop) (X : XQ) : Bool → ST → Prop := fun b S => (b = true → wpE f G S Q X) ∧ (b = false → wpE g G S Q X)
theorem wp_eIf {t : MT} {f g : ME} {Q : D → ST → Prop} : wpE (eIf t f g) G S Q X = wpE t G S (kIf f g G Q X) X := by
  unfold wpE eIf kIf
  rw [wp_bind]
  congr 1
  funext b S
  cases b <;> simp [wpE]
theorem kIf_eq {f g : ME} {Q : D → ST → Prop} {b : Bool} : kIf f g G Q X b S = ((b = true → wpE f G S Q X) ∧ (b = false → wpE g G S Q X)) := rfl
theorem kIf_t {f g : ME} {Q : D → ST → Prop} : kIf f g G Q X true S = wpE f G S Q X := by simp [kIf]
theorem kIf_d {f g : ME} {Q : D → ST → Prop} {p : Prop} [Decidable p] : kIf f g G Q X (decide p) S = ((p → wpE f G S Q X) ∧ (¬p → wpE g G S Q X)) := by simp [kIf]
theorem kIf_n {f g : ME} {Q : D → ST → Prop} {b : Bool} : kIf f g G Q X (!b) S = kIf g f G Q X b S := by cases b <;> simp [kIf]
theorem kIf_f {f g : ME} {Q : D → ST → Prop} : kIf f g G Q X false S = wpE g G S Q X := by simp [kIf]
/-- and, or, not as values -/
def kAndV (g : ME) (G : GE) (Q : D → ST → Prop) (X : XQ) : D → ST → Prop := fun d S => match truD S d with | some true => wpE g G S Q X | some false => Q d S | none => False
theorem wp_eAnd {f g : ME} {Q : D → ST → Prop} : wpE (eAnd f g) G S Q X = wpE f G S (kAndV g G Q X) X := by
  unfold wpE eAnd kAndV
  rw [wp_bind]
  congr 1
  funext d S
  cases truD S d with
  | none => rfl
  | some b => cases b <;> rfl
theorem kAndV_bl {g : ME} {Q : D → ST → Prop} {b : Bool} : kAndV g G Q X (.bl b) S = ((b = true → wpE g G S Q X) ∧ (b = false → Q (.bl false) S)) := by cases b <;> simp [kAndV, truD]
def kOrV (g : ME) (G : GE) (Q : D → ST → Prop) (X : XQ) : D → ST → Prop := fun d S => match truD S d with | some true => Q d S | some false => wpE g G S Q X | none => False
theorem wp_eOr {f g : ME} {Q : D → ST → Prop} : wpE (eOr f g) G S Q X = wpE f G S (kOrV g G Q X) X := by
  unfold wpE eOr kOrV
  rw [wp_bind]
  congr 1
  funext d S
  cases truD S d with
  | none => rfl
  | some b => cases b <;> rfl
theorem kOrV_bl {g : ME} {Q : D → ST → Prop} {b : Bool} : kOrV g G Q X (.bl b) S = ((b = true → Q (.bl true) S) ∧ (b = false → wpE g G S Q X)) := by cases b <;> simp [kOrV, truD]
def kNotV (Q : D → ST → Prop) : D → ST → Prop := fun d S => match truD S d with | some b => Q (.bl (!b)) S | none => False
theorem wp_eNot {f : ME} {Q : D → ST → Prop} : wpE (eNot f) G S Q X = wpE f G S (kNotV Q) X := by
  unfold wpE eNot kNotV
  rw [wp_bind]
  congr 1
  funext d S
  cases truD S d <;> rfl
theorem kAndV_d {g : ME} {Q : D → ST → Prop} {p : Prop} [Decidable p] : kAndV g G Q X (.bl (decide p)) S = ((p → wpE g G S Q X) ∧ (¬p → Q (.bl false) S)) := by by_cases h : p <;> simp [kAndV, truD, h]
theorem kAndV_n {g : ME} {Q : D → ST → Prop} {p : Prop} [Decidable p] : kAndV g G Q X (.bl (!decide p)) S = ((¬p → wpE g G S Q X) ∧ (p → Q (.bl false) S)) := by by_cases h : p <;> simp [kAndV, truD, h]
theorem kOrV_d {g : ME} {Q : D → ST → Prop} {p : Prop} [Decidable p] : kOrV g G Q X (.bl (decide p)) S = ((p → Q (.bl true) S) ∧ (¬p → wpE g G S Q X)) := by by_cases h : p <;> simp [kOrV, truD, h]
theorem kOrV_n {g : ME} {Q : D → ST → Prop} {p : Prop} [Decidable p] : kOrV g G Q X (.bl (!decide p)) S = ((¬p → Q (.bl true) S) ∧ (p → wpE g G S Q X)) := by by_cases h : p <;> simp [kOrV, truD, h]
theorem kAndV_t {g : ME} {Q : D → ST → Prop} : kAndV g G Q X (.bl true) S = wpE g G S Q X := by simp [kAndV, truD]
theorem kAndV_f {g : ME} {Q : D → ST → Prop} : kAndV g G Q X (.bl false) S = Q (.bl false) S := by simp [kAndV, truD]
theorem kOrV_t {g : ME} {Q : D → ST → Prop} : kOrV g G Q X (.bl true) S = Q (.bl true) S := by simp [kOrV, truD]
theorem kOrV_f {g : ME} {Q : D → ST → Prop} : kOrV g G Q X (.bl false) S = wpE g G S Q X := by simp [kOrV, truD]
theorem kNotV_bl {Q : D → ST → Prop} {b : Bool} : kNotV Q (.bl b) S = Q (.bl (!b)) S := rfl
/-- a op b op' c -/
def kCh3 (m' : D → D → C D) (fc : ME) (b : D) (G : GE) (Q : D → ST → Prop) (X : XQ) : D → ST → Prop := fun k S => match k with
  | .bl true => wpE fc G S (k2b m' b Q X) X
  | .bl false => Q (.bl false) S
  | _ => False
def kCh2 (m m' : D → D → C D) (fc : ME) (a : D) (G : GE) (Q : D → ST → Prop) (X : XQ) : D → ST → Prop := fun b S => wpR (m a b S) (kCh3 m' fc b G Q X) X
def kCh1 (m m' : D → D → C D) (fb fc : ME) (G : GE) (Q : D → ST → Prop) (X : XQ) : D → ST → Prop := fun a S => wpE fb G S (kCh2 m m' fc a G Q X) X
theorem wp_eChain {m m' : D → D → C D} {fa fb fc : ME} {Q : D → ST → Prop} : wpE (eChain m m' fa fb fc) G S Q X = wpE fa G S (kCh1 m m' fb fc G Q X) X := by
  unfold wpE eChain kCh1
  rw [wp_bind]
  congr 1
  funext a S
  unfold wpE
  rw [wp_bind]
  unfold kCh2
  congr 1
  funext b S
  rw [wp_bind]
  congr 1
  funext k S
  unfold kCh3
  cases k <;> first | rfl | skip
  rename_i b
  cases b <;> first | rfl | skip
  unfold wpE
  rw [wp_bind]
  rfl
theorem kCh1_eq {m m' : D → D → C D} {fb fc : ME} {Q : D → ST → Prop} {a : D} : kCh1 m m' fb fc G Q X a S = wpE fb G S (kCh2 m m' fc a G Q X) X := rfl
theorem kCh2_eq {m m' : D → D → C D} {fc : ME} {Q : D → ST → Prop} {a b : D} : kCh2 m m' fc a G Q X b S = wpR (m a b S) (kCh3 m' fc b G Q X) X := rfl
theorem kCh3_eq {m' : D → D → C D} {fc : ME} {Q : D → ST → Prop} {b : D} {k : Bool} : kCh3 m' fc b G Q X (.bl k) S = ((k = true → wpE fc G S (k2b m' b Q X) X) ∧ (k = false → Q (.bl false) S)) := by cases k <;> simp [kCh3]
/-- slices -/
def kSl3 (d : D) (lo : Option Int) (Q : D → ST → Prop) (X : XQ) : Option Int → ST → Prop := fun hi S => wpR (mSl d lo hi S) Q X
def kSl2 (d : D) (fh : MO) (G : GE) (Q : D → ST → Prop) (X : XQ) : Option Int → ST → Prop := fun lo S => wpE fh G S (kSl3 d lo Q X) X
def kSl1 (fl fh : MO) (G : GE) (Q : D → ST → Prop) (X : XQ) : D → ST → Prop := fun d S => wpE fl G S (kSl2 d fh G Q X) X
theorem wp_eSl {fe : ME} {fl fh : MO} {Q : D → ST → Prop} : wpE (eSl fe fl fh) G S Q X = wpE fe G S (kSl1 fl fh G Q X) X := by
  unfold wpE eSl kSl1
  rw [wp_bind]
  congr 1
  funext d S
  unfold wpE
  rw [wp_bind]
  unfold kSl2
  congr 1
  funext lo S
  unfold wpE
  rw [wp_bind]
  rfl
theorem kSl1_eq {fl fh : MO} {Q : D → ST → Prop} {d : D} : kSl1 fl fh G Q X d S = wpE fl G S (kSl2 d fh G Q X) X := rfl
theorem kSl2_eq {fh : MO} {Q : D → ST → Prop} {d : D} {lo : Option Int} : kSl2 d fh G Q X lo S = wpE fh G S (kSl3 d lo Q X) X := rfl
theorem kSl3_eq {Q : D → ST → Prop} {d : D} {lo hi : Option Int} : kSl3 d lo Q X hi S = wpR (mSl d lo hi S) Q X := rfl
theorem wp_oNone {Q : Option Int → ST → Prop} : wpE oNone G S Q X = Q none S := rfl
def kO (Q : Option Int → ST → Prop) : D → ST → Prop := fun d S => match d with | .int i => Q (some i) S | _ => False
theorem wp_oSome {f : ME} {Q : Option Int → ST → Prop} : wpE (oSome f) G S Q X = wpE f G S (kO Q) X := by
  unfold wpE oSome
  rw [wp_bind]
  congr 1
  funext d S
  cases d <;> rfl
theorem kO_eq {Q : Option Int → ST → Prop} {i : Int} : kO Q (.int i) S = Q (some i) S := rfl
/-- methods -/
def kBm2 (m : D → List D → C D) (d : D) (Q : D → ST → Prop) (X : XQ) : List D → ST → Prop := fun ds S => wpR (m d ds S) Q X
def kBm (T : String) (m : D → List D → C D) (g : MA) (G : GE) (Q : D → ST → Prop) (X : XQ) : D → ST → Prop := fun d S => tyD T S d = true ∧ wpE g G S (kBm2 m d Q X) X
theorem wp_eBm {T : String} {m : D → List D → C D} {f : ME} {g : MA} {Q : D → ST → Prop} : wpE (eBm T m f g) G S Q X = wpE f G S (kBm T m g G Q X) X := by
  unfold wpE eBm kBm
  rw [wp_bind]
  congr 1
  funext d S
  rw [wp_ite]
  unfold wpE
  rw [wp_bind]
  rfl
theorem kBm_eq {T : String} {m : D → List D → C D} {g : MA} {Q : D → ST → Prop} {d : D} : kBm T m g G Q X d S = (tyD T S d = true ∧ wpE g G S (kBm2 m d Q X) X) := rfl
theorem kBm2_eq {m : D → List D → C D} {Q : D → ST → Prop} {d : D} {ds : List D} : kBm2 m d Q X ds S = wpR (m d ds S) Q X := rfl
def kBm0 (T : String) (m : D → List D → C D) (Q : D → ST → Prop) (X : XQ) : D → ST → Prop := fun d S => tyD T S d = true ∧ wpR (m d [] S) Q X
theorem wp_eBm0 {T : String} {m : D → List D → C D} {f : ME} {Q : D → ST → Prop} : wpE (eBm0 T m f) G S Q X = wpE f G S (kBm0 T m Q X) X := by
  unfold wpE eBm0 kBm0
  rw [wp_bind]
  congr 1
  funext d S
  rw [wp_ite]
theorem kBm0_eq {T : String} {m : D → List D → C D} {Q : D → ST → Prop} {d : D} : kBm0 T m Q X d S = (tyD T S d = true ∧ wpR (m d [] S) Q X) := rfl
def kMt2 (m : Fn) (o : D) (Q : D → ST → Prop) (X : XQ) : List D → ST → Prop := fun ds S => wpR (m (o :: ds) S) Q X
def kMt (name : Str) (tab : List (Str × Fn)) (g : MA) (G : GE) (Q : D → ST → Prop) (X : XQ) : D → ST → Prop := fun o S => ∃ m, methD name tab S o = some m ∧ wpE g G S (kMt2 m o Q X) X
theorem wp_eMeth {name : Str} {tab : List (Str × Fn)} {f : ME} {g : MA} {Q : D → ST → Prop} : wpE (eMeth name tab f g) G S Q X = wpE f G S (kMt name tab g G Q X) X := by
  unfold wpE eMeth kMt
  rw [wp_bind]
  congr 1
  funext o S
  cases e : methD name tab S o with
  | none => simp [wp_bad]
  | some m =>
    simp only [Option.some.injEq, exists_eq_left']
    unfold wpE
    rw [wp_bind]
    rfl
theorem kMt_eq {name : Str} {tab : List (Str × Fn)} {g : MA} {Q : D → ST → Prop} {o : D} {m : Fn} (h : methD name tab S o = some m) : kMt name tab g G Q X o S = wpE g G S (kMt2 m o Q X) X := by
  unfold kMt
  rw [h]
  simp
theorem kMt2_eq {m : Fn} {Q : D → ST → Prop} {o : D} {ds : List D} : kMt2 m o Q X ds S = wpR (m (o :: ds) S) Q X := rfl
/-- new instances -/
def kMkI (n : Nat) (Q : D → ST → Prop) : D → ST → Prop := fun d S => match d with | .non => Q (.ref n) S | _ => False
def kMk (c : Str) (n : Nat) (m : Fn) (Q : D → ST → Prop) : List D → ST → Prop := fun ds S => ds.length + 1 = n ∧ wpR (m (.ref S.length :: ds) (S ++ [.ins c []])) (kMkI S.length Q) fun _ _ _ => False
theorem wp_eMake {c : Str} {n : Nat} {m : Fn} {ga : MA} {Q : D → ST → Prop} : wpE (eMake c n m ga) G S Q X = wpE ga G S (kMk c n m Q) X := by
  unfold wpE eMake kMk
  rw [wp_bind]
  congr 1
  funext ds S
  rw [wp_ite]
  congr 1
  cases m (.ref S.length :: ds) (S ++ [.ins c []]) with
  | ok d S2 => cases d <;> rfl
  | exc c fs S2 => rfl
  | bad => rfl
theorem kMk_eq {c : Str} {n : Nat} {m : Fn} {Q : D → ST → Prop} {ds : List D} : kMk c n m Q ds S = (ds.length + 1 = n ∧ wpR (m (.ref S.length :: ds) (S ++ [.ins c []])) (kMkI S.length Q) fun _ _ _ => False) := rfl
theorem kMkI_eq {n : Nat} {Q : D → ST → Prop} : kMkI n Q .non S = Q (.ref n) S := rfl
/-- dicts -/
theorem wp_pairs_nil {Q : List (D × D) → ST → Prop} : wpE (pairsF []) G S Q X = Q [] S := rfl
def kP3 (k v : D) (Q : List (D × D) → ST → Prop) : List (D × D) → ST → Prop := fun ps S => Q ((k, v) :: ps) S
def kP2 (k : D) (r : List (ME × ME)) (G : GE) (Q : List (D × D) → ST → Prop) (X : XQ) : D → ST → Prop := fun v S => wpE (pairsF r) G S (kP3 k v Q) X
def kP1 (g : ME) (r : List (ME × ME)) (G : GE) (Q : List (D × D) → ST → Prop) (X : XQ) : D → ST → Prop := fun k S => wpE g G S (kP2 k r G Q X) X
theorem wp_pairs_cons {f g : ME} {r : List (ME × ME)} {Q : List (D × D) → ST → Prop} : wpE (pairsF ((f, g) :: r)) G S Q X = wpE f G S (kP1 g r G Q X) X := by
  unfold wpE pairsF
  rw [wp_bind]
  congr 1
  funext k S
  unfold kP1 wpE
  rw [wp_bind]
  congr 1
  funext v S
  unfold kP2 wpE
  rw [wp_bind]
  rfl
theorem kP1_eq {g : ME} {r : List (ME × ME)} {Q : List (D × D) → ST → Prop} {k : D} : kP1 g r G Q X k S = wpE g G S (kP2 k r G Q X) X := rfl
theorem kP2_eq {k v : D} {r : List (ME × ME)} {Q : List (D × D) → ST → Prop} : kP2 k r G Q X v S = wpE (pairsF r) G S (kP3 k v Q) X := rfl
theorem kP3_eq {k v : D} {Q : List (D × D) → ST → Prop} {ps : List (D × D)} : kP3 k v Q ps S = Q ((k, v) :: ps) S := rfl
def kDict (n : Nat) (Q : D → ST → Prop) : List (D × D) → ST → Prop := fun ps S => S[n]? = some (.dk []) ∧ ∃ kvs, keysD ps = some kvs ∧ kvs.length ≤ 15 ∧ Q (.ref n) (S.set n (.dk (dmerge kvs)))
theorem wp_eDict {fs : List (ME × ME)} {Q : D → ST → Prop} : wpE (eDict fs) G S Q X = wpE (pairsF fs) G (S ++ [.dk []]) (kDict S.length Q) X := by
  unfold wpE eDict
  rw [wp_bind]
  congr 1
  funext ps S1
  unfold kDict
  split
  · rename_i kvs h1 h2
    rw [wp_ite, h1, h2]
    simp [wp_ok]
  · rename_i h
    simp only [wp_bad]
    refine (eq_false ?_).symm
    rintro ⟨h1, kvs, h2, _⟩
    exact h kvs h1 h2
theorem kDict_eq {n : Nat} {Q : D → ST → Prop} {ps : List (D × D)} {kvs : List (Key × D)} (h : keysD ps = some kvs) : kDict n Q ps S = (S[n]? = some (.dk []) ∧ kvs.length ≤ 15 ∧ Q (.ref n) (S.set n (.dk (dmerge kvs)))) := by
  unfold kDict
  rw [h]
  simp

/-! ### statements -/
def kx (K : Kt) (G : GE) : XQ := fun c fs S => K.ex c fs G S
theorem run_s {α : Type} {r : R α} {k : α → ST → RS} : runK (r.s G k) K = wpR r (fun a S => runK (k a S) K) (kx K G) := by cases r <;> rfl
def Kt.seq (g : MS) (K : Kt) : Kt := { K with nx := fun G S => wpS g G S K }
theorem seq_nx {g : MS} : (K.seq g).nx G S = wpS g G S K := rfl
theorem seq_rt {g : MS} : (K.seq g).rt = K.rt := rfl
theorem seq_ex {g : MS} : (K.seq g).ex = K.ex := rfl
theorem seq_bk {g : MS} : (K.seq g).bk = K.bk := rfl
theorem seq_ct {g : MS} : (K.seq g).ct = K.ct := rfl
theorem kx_seq {g : MS} : kx (K.seq g) G = kx K G := rfl
theorem kx_mk {nx bk ct : GE → ST → Prop} {rt : D → ST → Prop} {ex : Str → List (Str × D) → GE → ST → Prop} : kx ⟨nx, rt, bk, ct, ex⟩ G = fun c fs S => ex c fs G S := rfl
theorem wp_sSeq {f g : MS} : wpS (sSeq f g) G S K = wpS f G S (K.seq g) := by
  unfold wpS sSeq
  cases f G S <;> rfl
theorem wp_sNil : wpS sNil G S K = K.nx G S := rfl
theorem wp_sBreak : wpS sBreak G S K = K.bk G S := rfl
theorem wp_sCont : wpS sCont G S K = K.ct G S := rfl
theorem wp_sRetN : wpS sRetN G S K = K.rt .non S := rfl
def kExpr (K : Kt) (G : GE) : D → ST → Prop := fun _ S => K.nx G S
theorem wp_sExpr {f : ME} : wpS (sExpr f) G S K = wpE f G S (kExpr K G) (kx K G) := by
  unfold wpS sExpr; rw [run_s]; rfl
theorem kExpr_eq {d : D} : kExpr K G d S = K.nx G S := rfl
def kRet (K : Kt) : D → ST → Prop := fun d S => K.rt d S
theorem wp_sRet {f : ME} : wpS (sRet f) G S K = wpE f G S (kRet K) (kx K G) := by
  unfold wpS sRet; rw [run_s]; rfl
theorem kRet_seq {g : MS} : kRet (K.seq g) = kRet K := rfl
theorem kRet_mk {nx bk ct : GE → ST → Prop} {rt : D → ST → Prop} {ex : Str → List (Str × D) → GE → ST → Prop} : kRet ⟨nx, rt, bk, ct, ex⟩ = rt := rfl
theorem kRet_eq {d : D} : kRet K d S = K.rt d S := rfl
def kSet (i : Nat) (K : Kt) (G : GE) : D → ST → Prop := fun d S => K.nx (G.set i (some d)) S
theorem wp_sSet {i : Nat} {f : ME} : wpS (sSet i f) G S K = wpE f G S (kSet i K G) (kx K G) := by
  unfold wpS sSet; rw [run_s]; rfl
theorem kSet_eq {i : Nat} {d : D} : kSet i K G d S = K.nx (G.set i (some d)) S := rfl
def kSetT (t : Tg) (K : Kt) (G : GE) : D → ST → Prop := fun d S => match bindT t d G S with | some G' => K.nx G' S | none => False
theorem wp_sSetT {t : Tg} {f : ME} : wpS (sSetT t f) G S K = wpE f G S (kSetT t K G) (kx K G) := by
  unfold wpS sSetT; rw [run_s]
  unfold wpE kSetT
  congr 1
  funext d S
  cases bindT t d G S <;> rfl
theorem kSetT_eq {t : Tg} {d : D} {G' : GE} (h : bindT t d G S = some G') : kSetT t K G d S = K.nx G' S := by unfold kSetT; rw [h]
def kIfS (f g : MS) (G : GE) (K : Kt) : Bool → ST → Prop := fun b S => (b = true → wpS f G S K) ∧ (b = false → wpS g G S K)
theorem wp_sIf {t : MT} {f g : MS} : wpS (sIf t f g) G S K = wpE t G S (kIfS f g G K) (kx K G) := by
  unfold wpS sIf; rw [run_s]
  unfold wpE kIfS
  congr 1
  funext b S
  cases b <;> simp [wpS]
theorem kIfS_eq {f g : MS} {b : Bool} : kIfS f g G K b S = ((b = true → wpS f G S K) ∧ (b = false → wpS g G S K)) := rfl
theorem kIfS_t {f g : MS} : kIfS f g G K true S = wpS f G S K := by simp [kIfS]
theorem kIfS_d {f g : MS} {p : Prop} [Decidable p] : kIfS f g G K (decide p) S = ((p → wpS f G S K) ∧ (¬p → wpS g G S K)) := by simp [kIfS]
theorem kIfS_n {f g : MS} {b : Bool} : kIfS f g G K (!b) S = kIfS g f G K b S := by cases b <;> simp [kIfS]
theorem kIfS_f {f g : MS} : kIfS f g G K false S = wpS g G S K := by simp [kIfS]
def kPar (i j : Nat) (K : Kt) (G : GE) : List D → ST → Prop := fun ds S => match ds with | [d, e] => K.nx ((G.set i (some d)).set j (some e)) S | _ => False
theorem wp_sPar {i j : Nat} {f : MA} : wpS (sPar i j f) G S K = wpE f G S (kPar i j K G) (kx K G) := by
  unfold wpS sPar; rw [run_s]
  unfold wpE kPar
  congr 1
  funext ds S
  split
  · rfl
  · rename_i h
    first
    | rfl
    | (split
       · exact (h _ _ rfl).elim
       · rfl)
theorem kPar_eq {i j : Nat} {d e : D} : kPar i j K G [d, e] S = K.nx ((G.set i (some d)).set j (some e)) S := rfl
def kAug2 (m : D → D → C D) (i : Nat) (d : D) (K : Kt) (G : GE) : D → ST → Prop := fun e S => wpR (m d e S) (kSet i K G) (kx K G)
def kAug (m : D → D → C D) (i : Nat) (f : ME) (K : Kt) (G : GE) : D → ST → Prop := fun d S => wpE f G S (kAug2 m i d K G) (kx K G)
theorem wp_sAug {i : Nat} {m : D → D → C D} {f : ME} : wpS (sAug i m f) G S K = kV G[i]? S (kAug m i f K G) := by
  unfold wpS sAug kV
  split
  · rename_i d e
    rw [run_s]
    (try rw [e])
    unfold kAug wpE kAug2
    (try dsimp only)
    congr 1
    funext e S
    rw [run_s]
    rfl
  · rename_i h
    first
    | rfl
    | (split
       · rename_i d e; exact absurd e (h d)
       · rfl)
theorem kAug_eq {m : D → D → C D} {i : Nat} {f : ME} {d : D} : kAug m i f K G d S = wpE f G S (kAug2 m i d K G) (kx K G) := rfl
theorem kAug2_eq {m : D → D → C D} {i : Nat} {d e : D} : kAug2 m i d K G e S = wpR (m d e S) (kSet i K G) (kx K G) := rfl
def kPut3 (v o : D) (K : Kt) (G : GE) : D → ST → Prop := fun i S => match putD S o i v with | some S4 => K.nx G S4 | none => False
def kPut2 (v : D) (fi : ME) (K : Kt) (G : GE) : D → ST → Prop := fun o S => wpE fi G S (kPut3 v o K G) (kx K G)
def kPut1 (fo fi : ME) (K : Kt) (G : GE) : D → ST → Prop := fun v S => wpE fo G S (kPut2 v fi K G) (kx K G)
theorem wp_sPut {fo fi fe : ME} : wpS (sPut fo fi fe) G S K = wpE fe G S (kPut1 fo fi K G) (kx K G) := by
  unfold wpS sPut; rw [run_s]
  unfold wpE kPut1
  congr 1
  funext v S
  rw [run_s]
  unfold wpE kPut2
  congr 1
  funext o S
  rw [run_s]
  unfold wpE kPut3
  congr 1
  funext i S
  cases putD S o i v <;> rfl
theorem kPut1_eq {fo fi : ME} {v : D} : kPut1 fo fi K G v S = wpE fo G S (kPut2 v fi K G) (kx K G) := rfl
theorem kPut2_eq {fi : ME} {v o : D} : kPut2 v fi K G o S = wpE fi G S (kPut3 v o K G) (kx K G) := rfl
theorem kPut3_eq {v o i : D} {S' : ST} (h : putD S o i v = some S') : kPut3 v o K G i S = K.nx G S' := by unfold kPut3; rw [h]
def kPA4 (o i : D) (K : Kt) (G : GE) : D → ST → Prop := fun z S => ∃ S5, o.isDict S = true ∧ putD S o i z = some S5 ∧ K.nx G S5
def kPA3 (m : D → D → C D) (old o i : D) (K : Kt) (G : GE) : D → ST → Prop := fun v S => wpR (m old v S) (kPA4 o i K G) (kx K G)
def kPA2 (m : D → D → C D) (o : D) (fe : ME) (K : Kt) (G : GE) : D → ST → Prop := fun i S => ∃ old, dGet S o i = some (some old) ∧ wpE fe G S (kPA3 m old o i K G) (kx K G)
def kPA1 (m : D → D → C D) (fi fe : ME) (K : Kt) (G : GE) : D → ST → Prop := fun o S => wpE fi G S (kPA2 m o fe K G) (kx K G)
theorem wp_sPutAug {m : D → D → C D} {fo fi fe : ME} : wpS (sPutAug m fo fi fe) G S K = wpE fo G S (kPA1 m fi fe K G) (kx K G) := by
  unfold wpS sPutAug; rw [run_s]
  unfold wpE kPA1
  congr 1
  funext o S
  rw [run_s]
  unfold wpE kPA2
  congr 1
  funext i S
  split
  · rename_i old h
    rw [run_s, h]
    simp only [Option.some.injEq, exists_eq_left']
    unfold wpE kPA3
    congr 1
    funext v S
    rw [run_s]
    congr 1
    funext z S
    unfold kPA4
    by_cases c : o.isDict S = true
    · rw [if_pos c]
      cases putD S o i z <;> simp [runK, c]
    · rw [if_neg c]
      simp [runK, c]
  · rename_i h
    refine (eq_false ?_).symm
    rintro ⟨old, h1, _⟩
    exact h old h1
theorem kPA1_eq {m : D → D → C D} {fi fe : ME} {o : D} : kPA1 m fi fe K G o S = wpE fi G S (kPA2 m o fe K G) (kx K G) := rfl
theorem kPA2_eq {m : D → D → C D} {fe : ME} {o i old : D} (h : dGet S o i = some (some old)) : kPA2 m o fe K G i S = wpE fe G S (kPA3 m old o i K G) (kx K G) := by unfold kPA2; rw [h]; simp
theorem kPA3_eq {m : D → D → C D} {old o i v : D} : kPA3 m old o i K G v S = wpR (m old v S) (kPA4 o i K G) (kx K G) := rfl
theorem kPA4_eq {o i z : D} {S5 : ST} (h : o.isDict S = true) (h5 : putD S o i z = some S5) : kPA4 o i K G z S = K.nx G S5 := by unfold kPA4; rw [h5]; simp [h]
def kFld2 (cs : List Str) (f : Str) (v : D) (K : Kt) (G : GE) : D → ST → Prop := fun o S => match putFD cs f S o v with | some S3 => K.nx G S3 | none => False
def kFld1 (cs : List Str) (f : Str) (fo : ME) (K : Kt) (G : GE) : D → ST → Prop := fun v S => wpE fo G S (kFld2 cs f v K G) (kx K G)
theorem wp_sFld {cs : List Str} {f : Str} {fo fe : ME} : wpS (Mir.sFld cs f fo fe) G S K = wpE fe G S (kFld1 cs f fo K G) (kx K G) := by
  unfold wpS Mir.sFld; rw [run_s]
  unfold wpE kFld1
  congr 1
  funext v S
  rw [run_s]
  unfold wpE kFld2
  congr 1
  funext o S
  cases putFD cs f S o v <;> rfl
theorem kFld1_eq {cs : List Str} {f : Str} {fo : ME} {v : D} : kFld1 cs f fo K G v S = wpE fo G S (kFld2 cs f v K G) (kx K G) := rfl
theorem kFld2_eq {cs : List Str} {f : Str} {v o : D} {S' : ST} (h : putFD cs f S o v = some S') : kFld2 cs f v K G o S = K.nx G S' := by unfold kFld2; rw [h]
def kFA3 (c f : Str) (o : D) (K : Kt) (G : GE) : D → ST → Prop := fun z S => match putFD [c] f S o z with | some S5 => K.nx G S5 | none => False
def kFA2 (m : D → D → C D) (c f : Str) (old o : D) (K : Kt) (G : GE) : D → ST → Prop := fun v S => wpR (m old v S) (kFA3 c f o K G) (kx K G)
def kFA1 (m : D → D → C D) (c f : Str) (o : D) (fe : ME) (K : Kt) (G : GE) : D → ST → Prop := fun old S => wpE fe G S (kFA2 m c f old o K G) (kx K G)
def kFA0 (m : D → D → C D) (c f : Str) (fe : ME) (K : Kt) (G : GE) : D → ST → Prop := fun o S => wpR (mFld [c] f o S) (kFA1 m c f o fe K G) (kx K G)
theorem wp_sFldAug {c f : Str} {m : D → D → C D} {fo fe : ME} : wpS (Mir.sFldAug c f m fo fe) G S K = wpE fo G S (kFA0 m c f fe K G) (kx K G) := by
  unfold wpS Mir.sFldAug; rw [run_s]
  unfold wpE kFA0
  congr 1
  funext o S
  rw [run_s]
  unfold kFA1 wpE
  congr 1
  funext old S
  rw [run_s]
  unfold kFA2
  congr 1
  funext v S
  rw [run_s]
  unfold kFA3
  congr 1
  funext z S
  cases putFD [c] f S o z <;> rfl
theorem kFA0_eq {m : D → D → C D} {c f : Str} {fe : ME} {o : D} : kFA0 m c f fe K G o S = wpR (mFld [c] f o S) (kFA1 m c f o fe K G) (kx K G) := rfl
theorem kFA1_eq {m : D → D → C D} {c f : Str} {fe : ME} {o old : D} : kFA1 m c f o fe K G old S = wpE fe G S (kFA2 m c f old o K G) (kx K G) := rfl
theorem kFA2_eq {m : D → D → C D} {c f : Str} {o old v : D} : kFA2 m c f old o K G v S = wpR (m old v S) (kFA3 c f o K G) (kx K G) := rfl
theorem kFA3_eq {c f : Str} {o z : D} {S' : ST} (h : putFD [c] f S o z = some S') : kFA3 c f o K G z S = K.nx G S' := by unfold kFA3; rw [h]

/-! ### loops -/
def kFor (t : Tg) (body : MS) (K : Kt) (G : GE) : Src → ST → Prop := fun r S => runK (forF r t body r.ds G S) K
theorem bindT_nm {i : Nat} {d : D} : bindT (.nm i) d G S = some (G.set i (some d)) := rfl
theorem wp_sFor {f : MI} {t : Tg} {body : MS} : wpS (sFor f t body) G S K = wpE f G S (kFor t body K G) (kx K G) := by
  unfold wpS sFor; rw [run_s]; rfl
/-- the loop's word: P of what is left, the names, the store -/
theorem for_inv {t : Tg} {body : MS} {r : Src} (P : List D → GE → ST → Prop) (h0 : P r.ds G S) (hok : ∀ ds G S, P ds G S → r.ok S) (hd : ∀ G S, P [] G S → K.nx G S)
    (hs : ∀ d ds G S, P (d :: ds) G S → ∃ G1, bindT t d G S = some G1 ∧ wpS body G1 S { nx := P ds, ct := P ds, bk := K.nx, rt := K.rt, ex := K.ex }) : kFor t body K G r S := by
  unfold kFor
  have gen : ∀ ds G S, P ds G S → runK (forF r t body ds G S) K := by
    intro ds
    induction ds with
    | nil =>
      intro G S p
      unfold forF
      rw [if_pos (hok _ _ _ p)]
      exact hd G S p
    | cons d ds ih =>
      intro G S p
      unfold forF
      rw [if_pos (hok _ _ _ p)]
      obtain ⟨G1, e, w⟩ := hs d ds G S p
      rw [e]
      unfold wpS at w
      dsimp only
      cases q : body G1 S with
      | nx G2 S2 => rw [q] at w; exact ih G2 S2 w
      | ct G2 S2 => rw [q] at w; exact ih G2 S2 w
      | bk G2 S2 => rw [q] at w; exact w
      | rt d S2 => rw [q] at w; exact w
      | exc c fs G2 S2 => rw [q] at w; exact w
      | bad => rw [q] at w; exact w
  exact gen _ _ _ h0
/-- by places -/
theorem for_at {t : Tg} {body : MS} {r : Src} (P : Nat → GE → ST → Prop) (h0 : P 0 G S) (hok : ∀ i G S, i ≤ r.ds.length → P i G S → r.ok S) (hd : ∀ G S, P r.ds.length G S → K.nx G S)
    (hs : ∀ i d G S, r.ds[i]? = some d → P i G S → ∃ G1, bindT t d G S = some G1 ∧ wpS body G1 S { nx := P (i + 1), ct := P (i + 1), bk := K.nx, rt := K.rt, ex := K.ex }) : kFor t body K G r S := by
  refine for_inv (fun ds G S => ∃ i, i ≤ r.ds.length ∧ ds = r.ds.drop i ∧ P i G S) ⟨0, Nat.zero_le _, by simp, h0⟩ ?_ ?_ ?_
  · rintro ds G S ⟨i, hi, _, p⟩
    exact hok i G S hi p
  · rintro G S ⟨i, hi, e, p⟩
    have e2 : i = r.ds.length := by
      have := congrArg List.length e
      simp at this
      omega
    subst e2
    exact hd G S p
  · rintro d ds G S ⟨i, hi, e, p⟩
    have hlt : i < r.ds.length := by
      apply Classical.byContradiction
      intro z
      rw [List.drop_eq_nil_of_le (by omega)] at e
      cases e
    rw [List.drop_eq_getElem_cons hlt] at e
    injection e with e1 e2
    obtain ⟨G1, b, w⟩ := hs i d G S (by rw [List.getElem?_eq_getElem hlt, e1]) p
    refine ⟨G1, b, ?_⟩
    have m : ∀ G S, P (i + 1) G S → ∃ i, i ≤ r.ds.length ∧ ds = r.ds.drop i ∧ P i G S := fun G S p => ⟨i + 1, hlt, e2, p⟩
    unfold wpS at w ⊢
    cases q : body G1 S with
    | nx G2 S2 => rw [q] at w; exact m _ _ w
    | ct G2 S2 => rw [q] at w; exact m _ _ w
    | bk G2 S2 => rw [q] at w; exact w
    | rt d S2 => rw [q] at w; exact w
    | exc c fs G2 S2 => rw [q] at w; exact w
    | bad => rw [q] at w; exact w
theorem rngD_len {lo c : Int} {n : Nat} : (rngD lo c n).length = n := by simp [rngD]
theorem for_rng {t : Tg} {body : MS} {lo c : Int} {n : Nat} (P : Nat → GE → ST → Prop) (h0 : P 0 G S) (hd : ∀ G S, P n G S → K.nx G S)
    (hs : ∀ i G S, i < n → P i G S → ∃ G1, bindT t (.int (lo + (i : Int) * c)) G S = some G1 ∧ wpS body G1 S { nx := P (i + 1), ct := P (i + 1), bk := K.nx, rt := K.rt, ex := K.ex }) : kFor t body K G ⟨rngD lo c n, none⟩ S := by
  refine for_at P h0 (fun _ _ _ _ _ => True.intro) (fun G S p => hd G S (by simpa [rngD_len] using p)) fun i d G S hi p => ?_
  have hlt : i < n := by
    have := (List.getElem?_eq_some_iff.mp hi).1
    simpa [rngD_len] using this
  rw [rngD_get hlt] at hi
  cases hi
  exact hs i G S hlt p
/-- while: a word and a measure -/
theorem while_inv {t : MT} {b : MS} (P : Nat → GE → ST → Prop) {n : Nat} (h0 : P n G S)
    (hs : ∀ n G S, P n G S → wpE t G S (fun k S1 => (k = true → wpS b G S1 { nx := fun G S => ∃ m, m < n ∧ P m G S, ct := fun G S => ∃ m, m < n ∧ P m G S, bk := K.nx, rt := K.rt, ex := K.ex }) ∧ (k = false → K.nx G S1)) (kx K G)) : wpS (sWhile t b) G S K := by
  unfold wpS
  induction n using Nat.strongRecOn generalizing G S with
  | _ n ih =>
    rw [sWhile_step]
    unfold whStep
    rw [run_s]
    have w := hs n G S h0
    unfold wpE at w
    cases e : t G S with
    | ok k S1 =>
      rw [e] at w
      obtain ⟨w1, w2⟩ := w
      simp only [wp_ok]
      cases k with
      | false =>
        rw [if_neg (by decide)]
        exact w2 rfl
      | true =>
        rw [if_pos rfl]
        have w1 := w1 rfl
        unfold wpS at w1
        cases q : b G S1 with
        | nx G2 S2 => rw [q] at w1; obtain ⟨m, hm, p⟩ := w1; exact ih m hm p
        | ct G2 S2 => rw [q] at w1; obtain ⟨m, hm, p⟩ := w1; exact ih m hm p
        | bk G2 S2 => rw [q] at w1; exact w1
        | rt d S2 => rw [q] at w1; exact w1
        | exc c fs G2 S2 => rw [q] at w1; exact w1
        | bad => rw [q] at w1; exact w1
    | exc c fs S1 => rw [e] at w; exact w
    | bad => rw [e] at w; exact w
/-- what is walked -/
def kSeq (Q : Src → ST → Prop) : D → ST → Prop := fun d S => match seqSrc S d with | some r => Q r S | none => False
theorem wp_iSeq {f : ME} {Q : Src → ST → Prop} : wpE (iSeq f) G S Q X = wpE f G S (kSeq Q) X := by
  unfold wpE iSeq kSeq
  rw [wp_bind]
  congr 1
  funext d S
  cases seqSrc S d <;> rfl
theorem kSeq_tup {Q : Src → ST → Prop} {ds : List D} : kSeq Q (.tup ds) S = Q ⟨ds, none⟩ S := rfl
theorem kSeq_fl {Q : Src → ST → Prop} {ds : List D} : kSeq Q (.fl ds) S = Q ⟨ds, none⟩ S := rfl
theorem kSeq_ref {Q : Src → ST → Prop} {n : Nat} {ds : List D} (h : S[n]? = some (.lst ds)) : kSeq Q (.ref n) S = Q ⟨ds, some n⟩ S := by unfold kSeq seqSrc; simp only [h]
def kRg1 (Q : Src → ST → Prop) : List D → ST → Prop := fun ds S => match ds with | [.int j] => lim62 j = true ∧ Q ⟨rngD 0 1 j.toNat, none⟩ S | _ => False
theorem wp_iRg1 {f : MA} {Q : Src → ST → Prop} : wpE (iRg1 f) G S Q X = wpE f G S (kRg1 Q) X := by
  unfold wpE iRg1
  rw [wp_bind]
  congr 1
  funext ds S
  unfold kRg1
  split
  · rw [wp_ite]; rfl
  · rename_i h
    first
    | rfl
    | (split
       · exact (h _ rfl).elim
       · rfl)
theorem kRg1_eq {Q : Src → ST → Prop} {j : Int} : kRg1 Q [.int j] S = (lim62 j = true ∧ Q ⟨rngD 0 1 j.toNat, none⟩ S) := rfl
def kRg2 (Q : Src → ST → Prop) : List D → ST → Prop := fun ds S => match ds with | [.int i, .int j] => (lim62 i && lim62 j) = true ∧ Q ⟨rngD i 1 (j - i).toNat, none⟩ S | _ => False
theorem wp_iRg2 {f : MA} {Q : Src → ST → Prop} : wpE (iRg2 f) G S Q X = wpE f G S (kRg2 Q) X := by
  unfold wpE iRg2
  rw [wp_bind]
  congr 1
  funext ds S
  unfold kRg2
  split
  · rw [wp_ite]; rfl
  · rename_i h
    first
    | rfl
    | (split
       · exact (h _ _ rfl).elim
       · rfl)
theorem kRg2_eq {Q : Src → ST → Prop} {i j : Int} : kRg2 Q [.int i, .int j] S = ((lim62 i && lim62 j) = true ∧ Q ⟨rngD i 1 (j - i).toNat, none⟩ S) := rfl
/-- comprehensions -/
def kLc (t : Tg) (tt : MT) (fe : ME) (own : List Nat) (G : GE) (Q : D → ST → Prop) (X : XQ) : Src → ST → Prop := fun r S => wpR (lcF r t tt fe S.length (wipeG G own) r.ds (S ++ [.lst []])) Q X
theorem wp_eLc {f : MI} {t : Tg} {tt : MT} {fe : ME} {own : List Nat} {Q : D → ST → Prop} : wpE (eLc f t tt fe own) G S Q X = wpE f G S (kLc t tt fe own G Q X) X := by
  unfold wpE eLc; rw [wp_bind]; rfl
/-- its word: P of what is left, the items made, the store; the new list stands at n -/
theorem lc_inv {t : Tg} {tt : MT} {fe : ME} {own : List Nat} {r : Src} {Q : D → ST → Prop} (P : List D → List D → ST → Prop) (h0 : P r.ds [] (S ++ [.lst []])) (hok : ∀ ds acc S, P ds acc S → r.ok S) (hd : ∀ acc S', P [] acc S' → Q (.ref S.length) S')
    (hs : ∀ d ds acc S', P (d :: ds) acc S' → ∃ G1, bindT t d (wipeG G own) S' = some G1 ∧ wpE tt G1 S' (fun k S1 => (k = false → P ds acc S1) ∧ (k = true → wpE fe G1 S1 (fun v S2 => S2[S.length]? = some (.lst acc) ∧ acc.length < SZ ∧ P ds (acc ++ [v]) (S2.set S.length (.lst (acc ++ [v])))) fun _ _ _ => False)) fun _ _ _ => False) :
    kLc t tt fe own G Q X r S := by
  unfold kLc
  have gen : ∀ ds acc S', P ds acc S' → wpR (lcF r t tt fe S.length (wipeG G own) ds S') Q X := by
    intro ds
    induction ds with
    | nil =>
      intro acc S' p
      unfold lcF
      rw [if_pos (hok _ _ _ p)]
      exact hd acc S' p
    | cons d ds ih =>
      intro acc S' p
      unfold lcF
      rw [if_pos (hok _ _ _ p)]
      obtain ⟨G1, e, w⟩ := hs d ds acc S' p
      rw [e]
      unfold wpE at w
      dsimp only
      cases q : tt G1 S' with
      | ok k S1 =>
        rw [q] at w
        obtain ⟨w1, w2⟩ := w
        cases k with
        | false => exact ih _ _ (w1 rfl)
        | true =>
          have w2 := w2 rfl
          dsimp only
          cases q2 : fe G1 S1 with
          | ok v S2 =>
            rw [q2] at w2
            obtain ⟨h1, h2, h3⟩ := w2
            dsimp only
            rw [h1]
            dsimp only
            rw [if_pos h2]
            exact ih _ _ h3
          | exc c fs S2 => rw [q2] at w2; exact w2.elim
          | bad => rw [q2] at w2; exact w2.elim
      | exc c fs S1 => rw [q] at w; exact w.elim
      | bad => rw [q] at w; exact w.elim
  exact gen _ _ _ h0
/-- functions -/
def kFnEnd (Q : D → ST → Prop) (X : XQ) : Kt := { nx := fun _ S => Q .non S, rt := Q, bk := fun _ _ => False, ct := fun _ _ => False, ex := fun c fs _ S => X c fs S }
theorem wp_mkFn {n k : Nat} {b : MS} {ds : List D} {Q : D → ST → Prop} : wpR (mkFn n k b ds S) Q X = (ds.length = n ∧ wpS b (ds.map some ++ List.replicate k none) S (kFnEnd Q X)) := by
  unfold mkFn wpS
  by_cases h : ds.length = n
  · rw [if_pos h]
    simp only [h, true_and]
    cases b (ds.map some ++ List.replicate k none) S <;> rfl
  · rw [if_neg h]
    simp only [h, false_and, wp_bad]
theorem fe_nx {Q : D → ST → Prop} : (kFnEnd Q X).nx G S = Q .non S := rfl
theorem fe_rt {Q : D → ST → Prop} : (kFnEnd Q X).rt = Q := rfl
theorem kRet_fe {Q : D → ST → Prop} : kRet (kFnEnd Q X) = Q := rfl
theorem kx_fe {Q : D → ST → Prop} : kx (kFnEnd Q X) G = X := rfl
theorem fe_ex {Q : D → ST → Prop} : (kFnEnd Q X).ex = fun c fs _ S => X c fs S := rfl
theorem wpR_none {r : R α} {Q : α → ST → Prop} (h : wpR r Q (fun _ _ _ => False)) : wpR r Q X := by
  cases r with
  | ok a S => exact h
  | exc c fs S => exact h.elim
  | bad => exact h
theorem wpR_mono {r : R α} {Q' : α → ST → Prop} (h : wpR r Q X) (q : ∀ a S, Q a S → Q' a S) : wpR r Q' X := by
  cases r with
  | ok a S => exact q a S h
  | exc c fs S => exact h
  | bad => exact h
theorem wpS_mono {b : MS} {G : GE} {K K' : Kt} (h : wpS b G S K) (h1 : ∀ G S, K.nx G S → K'.nx G S) (h2 : ∀ d S, K.rt d S → K'.rt d S) (h3 : ∀ G S, K.bk G S → K'.bk G S) (h4 : ∀ G S, K.ct G S → K'.ct G S) (h5 : ∀ c fs G S, K.ex c fs G S → K'.ex c fs G S) : wpS b G S K' := by
  unfold wpS runK at *
  revert h
  cases b G S with
  | nx => exact h1 _ _
  | rt => exact h2 _ _
  | bk => exact h3 _ _
  | ct => exact h4 _ _
  | exc => exact h5 _ _ _ _
  | bad => exact id
theorem wpR_eq {r : R α} (h : wpR r Q (fun _ _ _ => False)) : ∃ a S, r = .ok a S ∧ Q a S := by
  cases r with
  | ok a S => exact ⟨a, S, rfl, h⟩
  | exc c fs S => exact h.elim
  | bad => exact h.elim
theorem wpR_of {r : R α} (h : ∃ a S, r = .ok a S ∧ Q a S) : wpR r Q X := by
  obtain ⟨a, S, e, q⟩ := h
  rw [e]; exact q
end
end Mir

namespace Mir
open PySem L2 PyProof.Rows
section
variable {α : Type} {Q : D → ST → Prop} {X : XQ} {S : ST} {G : GE} {K : Kt} {i j : Int} {x y : Str} {n : Nat} {k : D} {ds es : List D} {kvs : List (Key × D)}
/-! ### the operations at known shapes -/
theorem r_add : wpR (mAdd (.int i) (.int j) S) Q X = Q (.int (i + j)) S := rfl
theorem r_addS : wpR (mAdd (.str x) (.str y) S) Q X = (x.length + y.length ≤ SZ ∧ Q (.str (x ++ y)) S) := wp_ite
theorem r_addT : wpR (mAdd (.tup ds) (.tup es) S) Q X = (ds.length + es.length ≤ SZ ∧ Q (.tup (ds ++ es)) S) := wp_ite
theorem r_iadd : wpR (mIAdd (.int i) (.int j) S) Q X = Q (.int (i + j)) S := rfl
theorem r_sub : wpR (mSub (.int i) (.int j) S) Q X = Q (.int (i - j)) S := rfl
theorem r_mul : wpR (mMul (.int i) (.int j) S) Q X = ((lim64 i || lim64 j) = true ∧ Q (.int (i * j)) S) := wp_ite
theorem r_fdiv : wpR (mFDiv (.int i) (.int j) S) Q X = (cDiv i j = true ∧ Q (.int (i / j)) S) := wp_ite
theorem r_mod : wpR (mMod (.int i) (.int j) S) Q X = (cMod i j = true ∧ Q (.int (i % j)) S) := wp_ite
theorem r_pow : wpR (mPow (.int i) (.int j) S) Q X = (cPow i j = true ∧ Q (.int (i ^ j.toNat)) S) := wp_ite
theorem r_shl : wpR (mShl (.int i) (.int j) S) Q X = (cPow i j = true ∧ Q (.int (i * 2 ^ j.toNat)) S) := wp_ite
theorem r_shr : wpR (mShr (.int i) (.int j) S) Q X = (cNn i j = true ∧ Q (.int (i / 2 ^ j.toNat)) S) := wp_ite
theorem r_and : wpR (mAnd (.int i) (.int j) S) Q X = Q (.int (Builtin.bitAnd i j)) S := rfl
theorem r_or : wpR (mOr (.int i) (.int j) S) Q X = Q (.int (Builtin.bitOr i j)) S := rfl
theorem r_xor : wpR (mXor (.int i) (.int j) S) Q X = Q (.int (Builtin.bitXor i j)) S := rfl
theorem r_neg : wpR (mNeg (.int i) S) Q X = Q (.int (-i)) S := rfl
theorem r_lt : wpR (mLt (.int i) (.int j) S) Q X = Q (.bl (decide (i < j))) S := rfl
theorem r_le : wpR (mLe (.int i) (.int j) S) Q X = Q (.bl (decide (i ≤ j))) S := rfl
theorem r_gt : wpR (mGt (.int i) (.int j) S) Q X = Q (.bl (decide (j < i))) S := rfl
theorem r_ge : wpR (mGe (.int i) (.int j) S) Q X = Q (.bl (decide (j ≤ i))) S := rfl
theorem r_eqI : wpR (mEq (.int i) (.int j) S) Q X = Q (.bl (decide (i = j))) S := rfl
theorem r_eqS : wpR (mEq (.str x) (.str y) S) Q X = Q (.bl (decide (x = y))) S := rfl
theorem r_eqB {a b : Bool} : wpR (mEq (.bl a) (.bl b) S) Q X = Q (.bl (decide (a = b))) S := rfl
theorem r_neI : wpR (mNe (.int i) (.int j) S) Q X = Q (.bl (!decide (i = j))) S := rfl
theorem r_neS : wpR (mNe (.str x) (.str y) S) Q X = Q (.bl (!decide (x = y))) S := rfl
theorem r_neB {a b : Bool} : wpR (mNe (.bl a) (.bl b) S) Q X = Q (.bl (!decide (a = b))) S := rfl
theorem r_isB {a b : Bool} : wpR (mIs (.bl a) (.bl b) S) Q X = Q (.bl (decide (a = b))) S := rfl
theorem r_isNB {a b : Bool} : wpR (mIsNot (.bl a) (.bl b) S) Q X = Q (.bl (!decide (a = b))) S := rfl
theorem r_is0 : wpR (mIs .non .non S) Q X = Q (.bl true) S := rfl
theorem r_isI : wpR (mIs (.int i) .non S) Q X = Q (.bl false) S := rfl
theorem r_isT : wpR (mIs (.tup ds) .non S) Q X = Q (.bl false) S := rfl
theorem r_isNot0 : wpR (mIsNot .non .non S) Q X = Q (.bl false) S := rfl
theorem r_isNotI : wpR (mIsNot (.int i) .non S) Q X = Q (.bl true) S := rfl
theorem r_isNotT : wpR (mIsNot (.tup ds) .non S) Q X = Q (.bl true) S := rfl
theorem r_int : wpR (bInt [.int i] S) Q X = Q (.int i) S := rfl
theorem r_intB {b : Bool} : wpR (bInt [.bl b] S) Q X = Q (.int (if b = true then 1 else 0)) S := rfl
theorem r_abs : wpR (bAbs [.int i] S) Q X = Q (.int (if i < 0 then -i else i)) S := rfl
theorem r_max2 : wpR (bMax2 [.int i, .int j] S) Q X = Q (.int (max i j)) S := rfl
theorem r_min2 : wpR (bMin2 [.int i, .int j] S) Q X = Q (.int (min i j)) S := rfl
theorem r_lenT : wpR (bLen [.tup ds] S) Q X = Q (.int ds.length) S := rfl
theorem r_lenF : wpR (bLen [.fl ds] S) Q X = Q (.int ds.length) S := rfl
def kLen (o : Option O) (Q : D → ST → Prop) (S : ST) : Prop := match o with | some (.lst ds) => Q (.int ds.length) S | some (.dk kvs) => Q (.int kvs.length) S | _ => False
theorem r_lenR : wpR (bLen [.ref n] S) Q X = kLen S[n]? Q S := by
  unfold bLen lenD kLen
  dsimp only
  split <;> split <;> simp_all [wpR]
theorem kLen_lst : kLen (some (.lst ds)) Q S = Q (.int ds.length) S := rfl
theorem kLen_dk : kLen (some (.dk kvs)) Q S = Q (.int kvs.length) S := rfl
/-- a[i] -/
def kOpt (o : Option D) (Q : D → ST → Prop) (S : ST) : Prop := match o with | some d => Q d S | none => False
theorem kOpt_some {d : D} : kOpt (some d) Q S = Q d S := rfl
def kIx (o : Option O) (k : D) (Q : D → ST → Prop) (S : ST) : Prop := match o with
  | some (.lst ds) => (match k with | .int i => kOpt (atI ds i) Q S | _ => False)
  | some (.dk kvs) => (match k.key with | some k => kOpt (look kvs k) Q S | none => False)
  | _ => False
theorem r_ixT : wpR (mIx (.tup ds) (.int i) S) Q X = kOpt (atI ds i) Q S := by
  unfold mIx mIxS ixS
  simp only [D.isDict, D.items, if_false, Bool.false_eq_true]
  cases atI ds i <;> rfl
theorem r_ixF : wpR (mIx (.fl ds) (.int i) S) Q X = kOpt (atI ds i) Q S := by
  unfold mIx mIxS ixS
  simp only [D.isDict, D.items, if_false, Bool.false_eq_true]
  cases atI ds i <;> rfl
theorem r_ixR : wpR (mIx (.ref n) k S) Q X = kIx S[n]? k Q S := by
  cases h : S[n]? with
  | none => cases k <;> simp [mIx, D.isDict, mIxS, ixS, D.items, h, kIx, wpR]
  | some o =>
    cases o with
    | lst ds =>
      simp only [mIx, D.isDict, mIxS, ixS, D.items, h, kIx, Bool.false_eq_true, if_false]
      cases k <;> first | rfl | skip
      rename_i i
      dsimp only
      cases atI ds i <;> rfl
    | dk kvs =>
      simp only [mIx, D.isDict, mIxD, dGet, h, kIx, if_true]
      cases k.key with
      | none => rfl
      | some k =>
        simp only [Option.map_some]
        cases look kvs k <;> rfl
    | dt kvs => simp [mIx, D.isDict, mIxD, dGet, h, kIx, wpR]
    | ins c fs => cases k <;> simp [mIx, D.isDict, mIxS, ixS, D.items, h, kIx, wpR]
theorem kIx_lst : kIx (some (.lst ds)) (.int i) Q S = kOpt (atI ds i) Q S := rfl
theorem kIx_dkS : kIx (some (.dk kvs)) (.str x) Q S = kOpt (look kvs (.inr x)) Q S := rfl
theorem kIx_dkI : kIx (some (.dk kvs)) (.int i) Q S = kOpt (look kvs (.inl i)) Q S := rfl
theorem look_cons {κ α : Type} [DecidableEq κ] {k j : κ} {d : α} {r : List (κ × α)} : look ((j, d) :: r) k = if j = k then some d else look r k := by
  unfold look
  by_cases h : j = k <;> simp [List.find?_cons, h]
theorem look_nil {κ α : Type} [DecidableEq κ] {k : κ} : look ([] : List (κ × α)) k = none := rfl
theorem key_int : D.key (.int i) = some (.inl i) := rfl
theorem key_str : D.key (.str x) = some (.inr x) := rfl
theorem dput_cons {κ α : Type} [DecidableEq κ] {k j : κ} {d v : α} {r : List (κ × α)} (h : j ≠ k) : dput ((j, d) :: r) k v = (j, d) :: dput r k v := by
  unfold dput
  simp only [List.any_cons, h, decide_false, Bool.false_or, List.map_cons, if_false]
  split <;> rfl
theorem dput_nil {κ α : Type} [DecidableEq κ] {k : κ} {v : α} : dput ([] : List (κ × α)) k v = [(k, v)] := rfl
theorem inr_inj {a b : Str} : ((Sum.inr a : Key) = Sum.inr b) = (a = b) := by simp
theorem inl_inj {a b : Int} : ((Sum.inl a : Key) = Sum.inl b) = (a = b) := by simp
theorem ofS_inj {a b : String} : (Str.ofString a = Str.ofString b) = (a = b) := propext ofString_inj
theorem dput_hit {κ α : Type} [DecidableEq κ] {k : κ} {d v : α} {r : List (κ × α)} (h : ∀ p ∈ r, p.1 ≠ k) : dput ((k, d) :: r) k v = (k, v) :: r := by
  unfold dput
  have e : r.map (fun kv => if kv.1 = k then (kv.1, v) else kv) = r := by
    conv => rhs; rw [← List.map_id r]
    exact List.map_congr_left fun p hp => by simp [h p hp]
  simp [e]
/-- stores -/
def kPutO (o : Option O) (n : Nat) (i v : D) (S : ST) (N : ST → Prop) : Prop := match o with
  | some (.lst ds) => (match i with | .int i => (match ixN ds.length i with | some j => N (S.set n (.lst (ds.set j v))) | none => False) | _ => False)
  | some (.dk kvs) => (match i.key with | some k => kvs.length < SZ ∧ N (S.set n (.dk (dput kvs k v))) | none => False)
  | _ => False
theorem kPut3_ref {v i : D} : kPut3 v (.ref n) K G i S = kPutO S[n]? n i v S (fun S' => K.nx G S') := by
  unfold kPut3 putD kPutO
  dsimp only
  cases S[n]? with
  | none => rfl
  | some o =>
    cases o with
    | lst ds =>
      cases i <;> first | rfl | skip
      dsimp only
      cases ixN ds.length _ <;> rfl
    | dk kvs =>
      cases i.key with
      | none => rfl
      | some k =>
        dsimp only
        by_cases h : kvs.length < SZ <;> simp [h]
    | dt kvs => rfl
    | ins c fs => rfl
theorem kPutO_lst {v : D} {N : ST → Prop} : kPutO (some (.lst ds)) n (.int i) v S N = (match ixN ds.length i with | some j => N (S.set n (.lst (ds.set j v))) | none => False) := rfl
theorem kPutO_dkS {v : D} {N : ST → Prop} : kPutO (some (.dk kvs)) n (.str x) v S N = (kvs.length < SZ ∧ N (S.set n (.dk (dput kvs (.inr x) v)))) := rfl
theorem kPutO_dkI {v : D} {N : ST → Prop} : kPutO (some (.dk kvs)) n (.int i) v S N = (kvs.length < SZ ∧ N (S.set n (.dk (dput kvs (.inl i) v)))) := rfl
theorem dGet_ref {k : D} : dGet S (.ref n) k = (match S[n]? with | some (.dk kvs) => k.key.map fun k => look kvs k | _ => none) := rfl
theorem isDict_ref : D.isDict S (.ref n) = (match S[n]? with | some (.dk _) => true | some (.dt _) => true | _ => false) := rfl
theorem putD_ref {k v : D} : putD S (.ref n) k v = (match S[n]? with
    | some (.lst ds) => (match k with | .int i => (ixN ds.length i).map fun j => S.set n (.lst (ds.set j v)) | _ => none)
    | some (.dk kvs) => (match k.key with | some k => if kvs.length < SZ then some (S.set n (.dk (dput kvs k v))) else none | none => none)
    | _ => none) := rfl
theorem tyD_ref {T : String} : tyD T S (.ref n) = (match S[n]? with | some (.lst _) => T == "list" | some (.dk _) => T == "dict" | some (.dt _) => T == "dict" | _ => false) := rfl
theorem r_append {y : D} : wpR (bAppend (.ref n) [y] S) Q X = (match S[n]? with | some (.lst es) => es.length < SZ ∧ Q .non (S.set n (.lst (es ++ [y]))) | _ => False) := by
  unfold bAppend withL
  dsimp only
  cases S[n]? with
  | none => rfl
  | some o => cases o <;> first | rfl | (dsimp only; rw [wp_ite]; rfl)
theorem sl_ref {lo hi : Option Int} : wpR (mSl (.ref n) lo hi S) Q X = (match S[n]? with | some (.lst ds) => Q (.ref S.length) (S ++ [.lst (cutD ds lo hi)]) | _ => False) := by
  unfold mSl D.items
  dsimp only
  cases S[n]? with
  | none => rfl
  | some o => cases o <;> rfl
/-- d[k] op= e of a dict in the store -/
def kPAo (o : Option O) (m : D → D → C D) (n : Nat) (fe : ME) (K : Kt) (G : GE) (i : D) (S : ST) : Prop := match o with
  | some (.dk kvs) => (match i.key with
    | some k => (match look kvs k with | some old => wpE fe G S (kPA3 m old (.ref n) i K G) (kx K G) | none => False)
    | none => False)
  | _ => False
theorem kPA2_ref {m : D → D → C D} {fe : ME} {i : D} : kPA2 m (.ref n) fe K G i S = kPAo S[n]? m n fe K G i S := by
  cases h : S[n]? with
  | none => simp [kPA2, dGet, h, kPAo]
  | some o =>
    cases o with
    | dk kvs =>
      simp only [kPA2, dGet, h, kPAo]
      cases i.key with
      | none => simp
      | some k => simp only [Option.map_some]; cases look kvs k <;> simp
    | _ => simp [kPA2, dGet, h, kPAo]
theorem kPAo_dkS {m : D → D → C D} {fe : ME} : kPAo (some (.dk kvs)) m n fe K G (.str x) S = (match look kvs (.inr x) with | some old => wpE fe G S (kPA3 m old (.ref n) (.str x) K G) (kx K G) | none => False) := rfl
theorem kPAo_dkI {m : D → D → C D} {fe : ME} : kPAo (some (.dk kvs)) m n fe K G (.int i) S = (match look kvs (.inl i) with | some old => wpE fe G S (kPA3 m old (.ref n) (.int i) K G) (kx K G) | none => False) := rfl
def kPDo (o : Option O) (n : Nat) (i z : D) (S : ST) (N : ST → Prop) : Prop := match o with
  | some (.dk kvs) => (match i.key with | some k => kvs.length < SZ ∧ N (S.set n (.dk (dput kvs k z))) | none => False)
  | _ => False
theorem kPA4_ref {i z : D} : kPA4 (.ref n) i K G z S = kPDo S[n]? n i z S (K.nx G) := by
  cases h : S[n]? with
  | none => simp [kPA4, D.isDict, h, kPDo]
  | some o =>
    cases o with
    | dk kvs =>
      simp only [kPA4, D.isDict, putD, h, kPDo]
      cases i.key with
      | none => simp
      | some k => by_cases c : kvs.length < SZ <;> simp [c]
    | dt kvs => simp [kPA4, D.isDict, putD, h, kPDo]
    | _ => simp [kPA4, D.isDict, h, kPDo]
theorem kPDo_dkS {z : D} {N : ST → Prop} : kPDo (some (.dk kvs)) n (.str x) z S N = (kvs.length < SZ ∧ N (S.set n (.dk (dput kvs (.inr x) z)))) := rfl
theorem kPDo_dkI {z : D} {N : ST → Prop} : kPDo (some (.dk kvs)) n (.int i) z S N = (kvs.length < SZ ∧ N (S.set n (.dk (dput kvs (.inl i) z)))) := rfl
theorem dput_eq {κ α : Type} [DecidableEq κ] {k j : κ} {d v : α} {r : List (κ × α)} (h : ∀ p ∈ r, p.1 ≠ j) : dput ((j, d) :: r) k v = if j = k then (j, v) :: r else (j, d) :: dput r k v := by
  by_cases e : j = k
  · subst e; rw [if_pos rfl, dput_hit h]
  · rw [if_neg e, dput_cons e]
theorem set_get {iw n : Nat} {o : O} (h : n ≠ iw) : (S.set iw o)[n]? = S[n]? := List.getElem?_set_ne (Ne.symm h)
theorem set_same {iw : Nat} {o : O} (h : iw < S.length) : (S.set iw o)[iw]? = some o := List.getElem?_set_self h
theorem lim64_of {i : Int} (h0 : -18446744073709551616 < i) (h1 : i < 18446744073709551616) : lim64 i = true := by simp [lim64, h0, h1]
theorem lim64_l {i j : Int} (h0 : -18446744073709551616 < i) (h1 : i < 18446744073709551616) : (lim64 i || lim64 j) = true := by rw [lim64_of h0 h1]; rfl
theorem lim64_r {i j : Int} (h0 : -18446744073709551616 < j) (h1 : j < 18446744073709551616) : (lim64 i || lim64 j) = true := by rw [lim64_of h0 h1]; simp
theorem lim62_of {i : Int} (h0 : -4611686018427387904 ≤ i) (h1 : i < 4611686018427387904) : lim62 i = true := by simp [lim62, h0, h1]
theorem cMod_of {i j : Int} (h : 0 < j) : cMod i j = true := by simp [cMod, h]
theorem cDiv_of {i j : Int} (h : 0 < j) (h1 : j < 18446744073709551616) : cDiv i j = true := by simp [cDiv, h, h1]
theorem cNn_of {i j : Int} (h : 0 ≤ j) : cNn i j = true := by simp [cNn, h]
theorem cPow_of {i j : Int} (h : 0 ≤ j) (h1 : j ≤ 1000000) (h2 : -18446744073709551616 < i) (h3 : i < 18446744073709551616) : cPow i j = true := by simp [cPow, h, h1, lim64_of h2 h3]
theorem atI_pos {α : Type} {xs : List α} {i : Int} (h0 : 0 ≤ i) (h1 : i < xs.length) : atI xs i = xs[i.toNat]? := by
  unfold atI ixN
  rw [if_pos h0, if_pos h1]
  rfl
theorem cut_len (ds : List D) (lo hi : Option Int) : (cutD ds lo hi).length ≤ ds.length := by
  unfold cutD
  rw [List.length_take, List.length_drop]
  omega
theorem cut_sub {ds : List D} {lo hi : Option Int} {d : D} (h : d ∈ cutD ds lo hi) : d ∈ ds := List.mem_of_mem_drop (List.mem_of_mem_take h)
/-! ### in -/
theorem r_inT {a : D} (h : (a.flat && ds.all D.flat) = true) : wpR (mIn a (.tup ds) S) Q X = Q (.bl (ds.any fun y => eqF y a)) S := by
  unfold mIn mInG
  simp only [D.isDict, inB, D.items, h, if_true, Bool.false_eq_true, if_false]
  rfl
theorem r_ninT {a : D} (h : (a.flat && ds.all D.flat) = true) : wpR (mNotIn a (.tup ds) S) Q X = Q (.bl (!(ds.any fun y => eqF y a))) S := by
  unfold mNotIn mInG
  simp only [D.isDict, inB, D.items, h, if_true, Bool.false_eq_true, if_false]
  rfl
def kInO (o : Option O) (g : Bool → Bool) (a : D) (Q : D → ST → Prop) (S : ST) : Prop := match o with
  | some (.lst ds) => (a.flat && ds.all D.flat) = true ∧ Q (.bl (g (ds.any fun y => eqF y a))) S
  | some (.dk kvs) => (match a.key with | some k => Q (.bl (g (look kvs k).isSome)) S | none => False)
  | _ => False
theorem r_inG {g : Bool → Bool} {a : D} (h : kInO S[n]? g a Q S) : wpR (mInG g a (.ref n) S) Q X := by
  unfold kInO at h
  split at h
  · rename_i ds e
    unfold mInG
    simp only [D.isDict, e, Bool.false_eq_true, if_false, inB, D.items, h.1, if_true]
    exact h.2
  · rename_i kvs e
    unfold mInG
    simp only [D.isDict, e, if_true, dGet]
    cases ek : a.key with
    | none => rw [ek] at h; exact h.elim
    | some k => rw [ek] at h; exact h
  · exact h.elim
theorem r_inR {a : D} (h : kInO S[n]? id a Q S) : wpR (mIn a (.ref n) S) Q X := r_inG h
theorem r_ninR {a : D} (h : kInO S[n]? not a Q S) : wpR (mNotIn a (.ref n) S) Q X := r_inG h
theorem flat_int : D.flat (.int i) = true := rfl
theorem flat_str : D.flat (.str x) = true := rfl
theorem flat_bl {b : Bool} : D.flat (.bl b) = true := rfl
theorem eqF_int : eqF (.int i) (.int j) = decide (i = j) := rfl
theorem eqF_str : eqF (.str x) (.str y) = decide (x = y) := rfl
theorem dec_or {p q : Prop} [Decidable p] [Decidable q] : (decide p || decide q) = decide (p ∨ q) := by by_cases p <;> simp_all
theorem dec_and {p q : Prop} [Decidable p] [Decidable q] : (decide p && decide q) = decide (p ∧ q) := by by_cases p <;> simp_all
/-! ### isinstance -/
def kIsi (o : Option Bool) (Q : D → ST → Prop) (S : ST) : Prop := match o with | some b => Q (.bl b) S | none => False
theorem r_isi {d : D} {T : String} : wpR (bIsi [d, .opq (.ty T)] S) Q X = kIsi ((tyN S d).bind fun t => subN t T) Q S := by
  unfold bIsi kIsi
  dsimp only
  cases (tyN S d).bind fun t => subN t T <;> rfl
theorem kIsi_some {b : Bool} : kIsi (some b) Q S = Q (.bl b) S := rfl
theorem tyN_non : tyN S .non = some "NoneType" := rfl
theorem tyN_bl {b : Bool} : tyN S (.bl b) = some "bool" := rfl
theorem tyN_int : tyN S (.int i) = some "int" := rfl
theorem tyN_str : tyN S (.str x) = some "str" := rfl
theorem tyN_tup : tyN S (.tup ds) = some "tuple" := rfl
theorem tyN_fl : tyN S (.fl ds) = some "list" := rfl
def tyO (o : Option O) : Option String := match o with | some (.lst _) => some "list" | some (.dk _) => some "dict" | some (.dt _) => some "dict" | _ => none
theorem tyN_ref : tyN S (.ref n) = tyO S[n]? := rfl
theorem tyO_lst : tyO (some (.lst ds)) = some "list" := rfl
theorem tyO_dk : tyO (some (.dk kvs)) = some "dict" := rfl
theorem subN_int {t : String} : subN t "int" = some (t == "int" || t == "bool") := rfl
theorem subN_bool {t : String} : subN t "bool" = some (t == "bool") := rfl
theorem subN_str {t : String} : subN t "str" = some (t == "str") := rfl
theorem subN_tuple {t : String} : subN t "tuple" = some (t == "tuple") := rfl
theorem subN_list {t : String} : subN t "list" = some (t == "list") := rfl
theorem subN_dict {t : String} : subN t "dict" = some (t == "dict") := rfl
theorem r_isS : wpR (mIs (.str x) .non S) Q X = Q (.bl false) S := rfl
theorem r_isBl {b : Bool} : wpR (mIs (.bl b) .non S) Q X = Q (.bl false) S := rfl
theorem r_isR : wpR (mIs (.ref n) .non S) Q X = Q (.bl false) S := rfl
theorem r_isF : wpR (mIs (.fl ds) .non S) Q X = Q (.bl false) S := rfl
theorem r_isNotS : wpR (mIsNot (.str x) .non S) Q X = Q (.bl true) S := rfl
theorem r_isNotBl {b : Bool} : wpR (mIsNot (.bl b) .non S) Q X = Q (.bl true) S := rfl
theorem r_isNotR : wpR (mIsNot (.ref n) .non S) Q X = Q (.bl true) S := rfl
theorem r_isNotF : wpR (mIsNot (.fl ds) .non S) Q X = Q (.bl true) S := rfl
/-! ### dict displays -/
def kDk (o : Option (List (Key × D))) (n : Nat) (Q : D → ST → Prop) (S : ST) : Prop := match o with
  | some kvs => kvs.length ≤ 15 ∧ Q (.ref n) (S.set n (.dk (dmerge kvs)))
  | none => False
theorem kDict_dk {ps : List (D × D)} : kDict n Q ps S = (S[n]? = some (.dk []) ∧ kDk (keysD ps) n Q S) := by
  cases h : keysD ps with
  | none => simp [kDict, h, kDk]
  | some kvs => rw [kDict_eq h]; rfl
theorem kDk_some : kDk (some kvs) n Q S = (kvs.length ≤ 15 ∧ Q (.ref n) (S.set n (.dk (dmerge kvs)))) := rfl
theorem keysD_nil : keysD [] = some [] := rfl
theorem keysD_s {v : D} {r : List (D × D)} : keysD ((.str x, v) :: r) = (keysD r).map ((.inr x, v) :: ·) := by
  rw [keysD]
  cases h : keysD r <;> rfl
theorem keysD_i {v : D} {r : List (D × D)} : keysD ((.int i, v) :: r) = (keysD r).map ((.inl i, v) :: ·) := by
  rw [keysD]
  cases h : keysD r <;> rfl
theorem dmerge_def : dmerge kvs = kvs.foldl (fun acc kv => dput acc kv.1 kv.2) [] := rfl
theorem dput_n {κ α : Type} [DecidableEq κ] {k j : κ} {d v : α} {r : List (κ × α)} (h : (j = k) = False) : dput ((j, d) :: r) k v = (j, d) :: dput r k v := dput_cons (of_eq_false h)
theorem dput_h {κ α : Type} [DecidableEq κ] {k : κ} {d v : α} {r : List (κ × α)} (h : (∀ p ∈ r, p.1 ≠ k) = True) : dput ((k, d) :: r) k v = (k, v) :: r := dput_hit (of_eq_true h)
/-! ### the store's end -/
theorem get_app {α : Type} {S T : List α} {k : Nat} : (S ++ T)[S.length + k]? = T[k]? := by
  rw [List.getElem?_append_right (by omega)]
  congr 1
  omega
theorem get_app0 {α : Type} {S T : List α} : (S ++ T)[S.length]? = T[0]? := get_app (k := 0)
theorem set_app {α : Type} {S T : List α} {k : Nat} {o : α} : (S ++ T).set (S.length + k) o = S ++ T.set k o := by
  rw [List.set_append_right (h := by omega)]
  congr 2
  omega
theorem set_app0 {α : Type} {S T : List α} {o : α} : (S ++ T).set S.length o = S ++ T.set 0 o := set_app (k := 0)
/-! ### small facts -/
theorem sz_le (h : (n ≤ 100) = True) : (n ≤ SZ) = True := eq_true (Nat.le_trans (of_eq_true h) (by decide))
theorem sz_lt (h : (n ≤ 100) = True) : (n < SZ) = True := eq_true (Nat.lt_of_le_of_lt (of_eq_true h) (by decide))
theorem lk_nil {α : Type} {f : Str} : List.lookup f ([] : List (Str × α)) = none := rfl
theorem lk_cons {α : Type} {f k : Str} {v : α} {r : List (Str × α)} : List.lookup f ((k, v) :: r) = if f = k then some v else List.lookup f r := by
  rw [List.lookup_cons]
  by_cases h : f = k
  · subst h; simp
  · rw [if_neg h, beq_false_of_ne h]
def kFldO (o : Option O) (cs : List Str) (f : Str) (Q : D → ST → Prop) (S : ST) : Prop := match o with
  | some (.ins c fs) => c ∈ cs ∧ kOpt (fs.lookup f) Q S
  | _ => False
theorem r_fld {cs : List Str} {f : Str} : wpR (mFld cs f (.ref n) S) Q X = kFldO S[n]? cs f Q S := by
  unfold mFld kFldO
  dsimp only
  cases S[n]? with
  | none => rfl
  | some o =>
    cases o with
    | ins c fs =>
      dsimp only
      by_cases h : c ∈ cs
      · rw [if_pos h]
        cases fs.lookup f <;> simp [h, kOpt, wpR]
      · rw [if_neg h]; simp [h, wpR]
    | _ => rfl
theorem kFldO_ins {c f : Str} {cs : List Str} {fs : List (Str × D)} : kFldO (some (.ins c fs)) cs f Q S = (c ∈ cs ∧ kOpt (fs.lookup f) Q S) := rfl
def kFlO (o : Option O) (n : Nat) (cs : List Str) (f : Str) (v : D) (S : ST) (N : ST → Prop) : Prop := match o with
  | some (.ins c fs) => c ∈ cs ∧ fs.length < 1000 ∧ N (S.set n (.ins c (putA f v fs)))
  | _ => False
theorem kFlO_eq {cs : List Str} {f : Str} {v : D} {N : ST → Prop} : (match putFD cs f S (.ref n) v with | some S' => N S' | none => False) = kFlO S[n]? n cs f v S N := by
  unfold putFD kFlO
  dsimp only
  cases S[n]? with
  | none => rfl
  | some o =>
    cases o with
    | ins c fs =>
      dsimp only
      by_cases h : c ∈ cs ∧ fs.length < 1000
      · rw [if_pos h]; simp [h]
      · rw [if_neg h]
        simp only [eq_iff_iff, false_iff]
        exact fun q => h ⟨q.1, q.2.1⟩
    | _ => rfl
theorem kFld2_ref {cs : List Str} {f : Str} {v : D} : kFld2 cs f v K G (.ref n) S = kFlO S[n]? n cs f v S (fun S' => K.nx G S') := kFlO_eq
theorem kFA3_ref {c f : Str} {v : D} : kFA3 c f (.ref n) K G v S = kFlO S[n]? n [c] f v S (fun S' => K.nx G S') := kFlO_eq
theorem kFlO_ins {c f : Str} {cs : List Str} {fs : List (Str × D)} {v : D} {N : ST → Prop} : kFlO (some (.ins c fs)) n cs f v S N = (c ∈ cs ∧ fs.length < 1000 ∧ N (S.set n (.ins c (putA f v fs)))) := rfl
def kMtM (o : Option Fn) (n : Nat) (g : MA) (G : GE) (Q : D → ST → Prop) (X : XQ) (S : ST) : Prop := match o with | some m => wpE g G S (kMt2 m (.ref n) Q X) X | none => False
def kMtO (o : Option O) (name : Str) (tab : List (Str × Fn)) (n : Nat) (g : MA) (G : GE) (Q : D → ST → Prop) (X : XQ) (S : ST) : Prop := match o with
  | some (.ins c fs) => fs.lookup name = none ∧ kMtM (tab.lookup c) n g G Q X S
  | _ => False
theorem kMt_ref {name : Str} {tab : List (Str × Fn)} {g : MA} : kMt name tab g G Q X (.ref n) S = kMtO S[n]? name tab n g G Q X S := by
  unfold kMt methD kMtO
  dsimp only
  cases S[n]? with
  | none => simp
  | some o =>
    cases o with
    | ins c fs =>
      dsimp only
      cases fs.lookup name with
      | none =>
        cases tab.lookup c <;> simp [kMtM]
      | some d => simp
    | _ => simp
theorem kMtO_ins {c name : Str} {tab : List (Str × Fn)} {fs : List (Str × D)} {g : MA} : kMtO (some (.ins c fs)) name tab n g G Q X S = (fs.lookup name = none ∧ kMtM (tab.lookup c) n g G Q X S) := rfl
theorem kMtM_some {m : Fn} {g : MA} : kMtM (some m) n g G Q X S = wpE g G S (kMt2 m (.ref n) Q X) X := rfl
theorem putA_nil {f : Str} {v : D} : putA f v [] = [(f, v)] := rfl
theorem putA_cons {f g : Str} {v d : D} {r : List (Str × D)} : putA f v ((g, d) :: r) = if g = f then (g, v) :: r else (g, d) :: putA f v r := rfl
theorem mem_one {c d : Str} : (c ∈ [d]) = (c = d) := by simp
/-! ### list methods -/
def kLsO (o : Option O) (Q : List D → Prop) : Prop := match o with | some (.lst ds) => Q ds | _ => False
theorem kLsO_lst {R : List D → Prop} : kLsO (some (.lst ds)) R = R ds := rfl
theorem wp_withL {f : Nat → List D → R D} : wpR (withL (.ref n) S f) Q X = kLsO S[n]? (fun es => wpR (f n es) Q X) := by
  unfold withL kLsO
  dsimp only
  cases S[n]? with
  | none => rfl
  | some o => cases o <;> rfl
theorem wp_optR {α : Type} {o : Option α} {f : α → R D} : wpR (match o with | some y => f y | none => R.bad) Q X = (∃ y, o = some y ∧ wpR (f y) Q X) := by
  cases o <;> simp [wpR]
theorem r_pop0 : wpR (bPop (.ref n) [] S) Q X = kLsO S[n]? (fun es => kOpt es[es.length - 1]? (fun y _ => Q y (S.set n (.lst es.dropLast))) S) := by
  unfold bPop
  dsimp only
  rw [wp_withL]
  congr 1
  funext es
  cases es[es.length - 1]? <;> rfl
theorem r_popAt0 : wpR (bPopAt (.ref n) [.int 0] S) Q X = kLsO S[n]? (fun es => es.length ≤ SZ ∧ kOpt es.head? (fun y _ => Q y (S.set n (.lst es.tail))) S) := by
  unfold bPopAt
  dsimp only
  rw [wp_withL]
  congr 1
  funext es
  cases es with
  | nil => simp [ixN, kOpt, wpR]
  | cons d ds =>
    have e : ixN (d :: ds).length 0 = some 0 := by simp [ixN]
    rw [e]
    dsimp only [List.getElem?_cons_zero, List.head?_cons, List.tail_cons, List.eraseIdx_cons_zero]
    rw [wp_ite]
    rfl
theorem r_insert {y : D} : wpR (bInsert (.ref n) [.int i, y] S) Q X = kLsO S[n]? (fun es => (es.length < SZ ∧ 0 ≤ i ∧ i < 16777216) ∧ Q .non (S.set n (.lst (es.take i.toNat ++ [y] ++ es.drop i.toNat)))) := by
  unfold bInsert
  dsimp only
  rw [wp_withL]
  congr 1
  funext es
  rw [wp_ite]
  rfl
theorem r_extend {m : Nat} : wpR (bExtend (.ref n) [.ref m] S) Q X = kLsO S[n]? (fun es => kLsO S[m]? (fun zs => es.length + zs.length ≤ SZ ∧ Q .non (S.set n (.lst (es ++ zs))))) := by
  unfold bExtend
  dsimp only
  rw [wp_withL]
  congr 1
  funext es
  cases S[m]? with
  | none => rfl
  | some o =>
    cases o with
    | lst zs => dsimp only; rw [wp_ite]; rfl
    | _ => rfl
theorem r_tupR : wpR (bTuple [.ref n] S) Q X = kLsO S[n]? (fun es => Q (.tup es) S) := by
  unfold bTuple D.items kLsO
  dsimp only
  cases S[n]? with
  | none => rfl
  | some o => cases o <;> rfl
theorem r_tupT : wpR (bTuple [.tup ds] S) Q X = Q (.tup ds) S := rfl
theorem r_tupF : wpR (bTuple [.fl ds] S) Q X = Q (.tup ds) S := rfl
theorem r_listR : wpR (bList [.ref n] S) Q X = kLsO S[n]? (fun es => Q (.ref S.length) (S ++ [.lst es])) := by
  unfold bList D.items kLsO
  dsimp only
  cases S[n]? with
  | none => rfl
  | some o => cases o <;> rfl
theorem r_listT : wpR (bList [.tup ds] S) Q X = Q (.ref S.length) (S ++ [.lst ds]) := rfl
theorem r_listF : wpR (bList [.fl ds] S) Q X = Q (.ref S.length) (S ++ [.lst ds]) := rfl
theorem r_addR {m : Nat} : wpR (mAdd (.ref n) (.ref m) S) Q X = kLsO S[n]? (fun es => kLsO S[m]? (fun zs => es.length + zs.length ≤ SZ ∧ Q (.ref S.length) (S ++ [.lst (es ++ zs)]))) := by
  unfold mAdd kLsO
  dsimp only
  cases S[n]? with
  | none => rfl
  | some o =>
    cases S[m]? with
    | none => cases o <;> rfl
    | some o2 =>
      cases o <;> cases o2 <;> first | rfl | (dsimp only; rw [wp_ite]; rfl)
theorem kSeq_refO {R : Src → ST → Prop} : kSeq R (.ref n) S = kLsO S[n]? (fun ds => R ⟨ds, some n⟩ S) := by
  unfold kSeq seqSrc kLsO
  dsimp only
  cases S[n]? with
  | none => rfl
  | some o => cases o <;> rfl
theorem kPutO_l {v : D} {N : ST → Prop} : kPutO (some (.lst ds)) n (.int i) v S N = kOpt ((ixN ds.length i).map fun j => D.int j) (fun d _ => match d with | .int j => N (S.set n (.lst (ds.set j.toNat v))) | _ => False) S := by
  rw [kPutO_lst]
  cases ixN ds.length i <;> simp [kOpt]
theorem set_get' {iw n : Nat} {o : O} (h : iw ≠ n) : (S.set iw o)[n]? = S[n]? := List.getElem?_set_ne h
end
end Mir

namespace Mir
open PySem L2 PyProof.Rows
/-! ### == of nested data -/
/-- data with no truth and no list in it, at most n deep -/
def Nb : Nat → D → Prop
  | 0, _ => False
  | n + 1, d => match d with
    | .non => True
    | .int _ => True
    | .str x => PyData.strOk x = true
    | .tup ds => ∀ d ∈ ds, Nb n d
    | _ => False
theorem nb_pys {n : Nat} (ih : ∀ d, Nb n d → ∃ p, d.py = some p ∧ p.canLay0 = true ∧ p.depth ≤ n) : ∀ ds : List D, (∀ d ∈ ds, Nb n d) → ∃ ps, D.pys ds = some ps ∧ PyData.canLayAll0 ps = true ∧ PyData.depthAll ps ≤ n
  | [], _ => ⟨[], by rw [D.pys], by rw [PyData.canLayAll0], by rw [PyData.depthAll]; omega⟩
  | d :: ds, h => by
    obtain ⟨p, h1, h2, h3⟩ := ih d (h d (List.mem_cons_self ..))
    obtain ⟨ps, g1, g2, g3⟩ := nb_pys ih ds fun e he => h e (List.mem_cons_of_mem _ he)
    refine ⟨p :: ps, by rw [D.pys, h1, g1], by rw [PyData.canLayAll0, h2, g2]; rfl, by rw [PyData.depthAll]; omega⟩
theorem nb_py : ∀ (n : Nat) (d : D), Nb n d → ∃ p, d.py = some p ∧ p.canLay0 = true ∧ p.depth ≤ n
  | 0, d, h => h.elim
  | n + 1, d, h => by
    cases d with
    | non => exact ⟨.none, by rw [D.py], by rw [PyData.canLay0], by rw [PyData.depth]; omega⟩
    | int i => exact ⟨.int i, by rw [D.py], by rw [PyData.canLay0], by rw [PyData.depth]; omega⟩
    | str x => exact ⟨.str x, by rw [D.py], by rw [PyData.canLay0]; exact h, by rw [PyData.depth]; omega⟩
    | tup ds =>
      obtain ⟨ps, h1, h2, h3⟩ := nb_pys (nb_py n) ds h
      exact ⟨.tuple ps, by rw [D.py, h1]; rfl, by rw [PyData.canLay0]; exact h2, by rw [PyData.depth]; omega⟩
    | _ => exact h.elim
theorem eqv_pys {n : Nat} (ih : ∀ d e p q, Nb n d → Nb n e → d.py = some p → e.py = some q → (PyData.eqv p q = true ↔ d = e)) : ∀ (ds es : List D) (ps qs : List PyData), (∀ d ∈ ds, Nb n d) → (∀ d ∈ es, Nb n d) → D.pys ds = some ps → D.pys es = some qs → (PyData.eqvAll ps qs = true ↔ ds = es)
  | [], [], ps, qs, _, _, h1, h2 => by
    rw [D.pys] at h1 h2; cases h1; cases h2
    rw [PyData.eqvAll]; simp
  | [], e :: es, ps, qs, _, _, h1, h2 => by
    rw [D.pys] at h1; cases h1
    rw [D.pys] at h2
    split at h2 <;> cases h2
    rw [PyData.eqvAll]; simp
  | d :: ds, [], ps, qs, _, _, h1, h2 => by
    rw [D.pys] at h2; cases h2
    rw [D.pys] at h1
    split at h1 <;> cases h1
    rw [PyData.eqvAll]; simp
  | d :: ds, e :: es, ps, qs, hd, he, h1, h2 => by
    rw [D.pys] at h1 h2
    split at h1
    · rename_i p ps e1 e2
      cases h1
      split at h2
      · rename_i q qs e3 e4
        cases h2
        rw [PyData.eqvAll, Bool.and_eq_true, ih d e p q (hd d (List.mem_cons_self ..)) (he e (List.mem_cons_self ..)) e1 e3,
          eqv_pys ih ds es ps qs (fun x hx => hd x (List.mem_cons_of_mem _ hx)) (fun x hx => he x (List.mem_cons_of_mem _ hx)) e2 e4]
        simp
      · cases h2
    · cases h1
theorem eqv_py : ∀ (n : Nat) (d e : D) (p q : PyData), Nb n d → Nb n e → d.py = some p → e.py = some q → (PyData.eqv p q = true ↔ d = e)
  | 0, d, e, p, q, h, _, _, _ => h.elim
  | n + 1, d, e, p, q, hd, he, h1, h2 => by
    cases d <;> first | exact hd.elim | skip
    all_goals (cases e <;> first | exact he.elim | skip)
    all_goals (simp only [D.py, Option.map_eq_some_iff, Option.some.injEq] at h1 h2)
    all_goals first
      | (subst h1; subst h2; rw [PyData.eqv]; simp; done)
      | (obtain ⟨qs, h3, rfl⟩ := h2; subst h1; rw [PyData.eqv]; simp; done)
      | (obtain ⟨ps, h3, rfl⟩ := h1; subst h2; rw [PyData.eqv]; simp; done)
      | (obtain ⟨ps, h3, rfl⟩ := h1; obtain ⟨qs, h4, rfl⟩ := h2; rw [PyData.eqv, eqv_pys (eqv_py n) _ _ _ _ hd he h3 h4]; simp; done)
theorem shaped_of {p : PyData} {n : Nat} (h : p.canLay0 = true) (h2 : p.depth ≤ n) (hn : n ≤ 64) : SeqAt.shaped p = true := by
  unfold SeqAt.shaped
  rw [h, decide_eq_true (Nat.le_trans h2 hn)]
  rfl
section
variable {Q : D → ST → Prop} {X : XQ} {S : ST} {n : Nat} {d e : D}
theorem mEqB_nb (hd : Nb n d) (he : Nb n e) (hn : n ≤ 64) : ∃ b : Bool, mEqB d e S = some b ∧ (b = true ↔ d = e) := by
  obtain ⟨p, p1, p2, p3⟩ := nb_py n d hd
  obtain ⟨q, q1, q2, q3⟩ := nb_py n e he
  have h := eqv_py n d e p q hd he p1 q1
  have s1 := shaped_of p2 p3 hn
  have s2 := shaped_of q2 q3 hn
  have pd : d.pyS S = d.py := by
    cases n with
    | zero => exact hd.elim
    | succ n => cases d <;> first | exact hd.elim | rfl
  have pe : e.pyS S = e.py := by
    cases n with
    | zero => exact he.elim
    | succ n => cases e <;> first | exact he.elim | rfl
  unfold mEqB
  split
  · exact ⟨_, rfl, by simp⟩
  · exact ⟨_, rfl, by simp⟩
  · exact ⟨_, rfl, by simp⟩
  · rw [pd, pe, p1, q1]
    dsimp only
    rw [s1, s2]
    exact ⟨_, rfl, h⟩
theorem w_eqN (hd : Nb n d) (he : Nb n e) (hn : n ≤ 64) (h1 : d = e → Q (.bl true) S) (h2 : d ≠ e → Q (.bl false) S) : wpR (mEq d e S) Q X := by
  obtain ⟨b, hb, h⟩ := mEqB_nb (S := S) hd he hn
  unfold mEq
  rw [hb]
  cases b with
  | true => exact h1 (h.mp rfl)
  | false => exact h2 fun c => nomatch h.mpr c
theorem w_neN (hd : Nb n d) (he : Nb n e) (hn : n ≤ 64) (h1 : d = e → Q (.bl false) S) (h2 : d ≠ e → Q (.bl true) S) : wpR (mNe d e S) Q X := by
  obtain ⟨b, hb, h⟩ := mEqB_nb (S := S) hd he hn
  unfold mNe
  rw [hb]
  cases b with
  | true => exact h1 (h.mp rfl)
  | false => exact h2 fun c => nomatch h.mpr c
/-- two lists in the store -/
theorem mEqB_lst {k m : Nat} {ds es : List D} (h1 : S[k]? = some (.lst ds)) (h2 : S[m]? = some (.lst es)) (hd : ∀ d ∈ ds, Nb n d) (he : ∀ d ∈ es, Nb n d) (hn : n ≤ 63) : ∃ b : Bool, mEqB (.ref k) (.ref m) S = some b ∧ (b = true ↔ ds = es) := by
  obtain ⟨ps, p1, p2, p3⟩ := nb_pys (nb_py n) ds hd
  obtain ⟨qs, q1, q2, q3⟩ := nb_pys (nb_py n) es he
  have h := eqv_pys (eqv_py n) ds es ps qs hd he p1 q1
  have s1 : SeqAt.shaped (.list ps) = true := shaped_of (n := n + 1) (by rw [PyData.canLay0]; exact p2) (by rw [PyData.depth]; omega) (by omega)
  have s2 : SeqAt.shaped (.list qs) = true := shaped_of (n := n + 1) (by rw [PyData.canLay0]; exact q2) (by rw [PyData.depth]; omega) (by omega)
  unfold mEqB
  dsimp only
  unfold D.pyS
  simp only [h1, h2, p1, q1, Option.map_some, s1, s2, Bool.and_self, if_true]
  exact ⟨_, rfl, by rw [PyData.eqv]; exact h⟩
theorem w_eqL {k m : Nat} {ds es : List D} (g1 : S[k]? = some (.lst ds)) (g2 : S[m]? = some (.lst es)) (hd : ∀ d ∈ ds, Nb n d) (he : ∀ d ∈ es, Nb n d) (hn : n ≤ 63) (h1 : ds = es → Q (.bl true) S) (h2 : ds ≠ es → Q (.bl false) S) : wpR (mEq (.ref k) (.ref m) S) Q X := by
  obtain ⟨b, hb, h⟩ := mEqB_lst g1 g2 hd he hn
  unfold mEq
  rw [hb]
  cases b with
  | true => exact h1 (h.mp rfl)
  | false => exact h2 fun c => nomatch h.mpr c
theorem w_neL {k m : Nat} {ds es : List D} (g1 : S[k]? = some (.lst ds)) (g2 : S[m]? = some (.lst es)) (hd : ∀ d ∈ ds, Nb n d) (he : ∀ d ∈ es, Nb n d) (hn : n ≤ 63) (h1 : ds = es → Q (.bl false) S) (h2 : ds ≠ es → Q (.bl true) S) : wpR (mNe (.ref k) (.ref m) S) Q X := by
  obtain ⟨b, hb, h⟩ := mEqB_lst g1 g2 hd he hn
  unfold mNe
  rw [hb]
  cases b with
  | true => exact h1 (h.mp rfl)
  | false => exact h2 fun c => nomatch h.mpr c
end
/-! ### frames of the store -/
/-- all but the places L stands as it was -/
structure Frm (L : List Nat) (S S' : ST) : Prop where
  le : S.length ≤ S'.length
  eq : ∀ i, i ∉ L → i < S.length → S'[i]? = S[i]?
theorem Frm.refl (L : List Nat) (S : ST) : Frm L S S := ⟨Nat.le_refl _, fun _ _ _ => rfl⟩
theorem Frm.trans {L : List Nat} {S S1 S2 : ST} (a : Frm L S S1) (b : Frm L S1 S2) : Frm L S S2 := ⟨Nat.le_trans a.le b.le, fun i h1 h2 => (b.eq i h1 (Nat.lt_of_lt_of_le h2 a.le)).trans (a.eq i h1 h2)⟩
theorem Frm.app (L : List Nat) (S T : ST) : Frm L S (S ++ T) := ⟨by simp, fun i _ h => List.getElem?_append_left h⟩
theorem Frm.set {L : List Nat} (S : ST) (o : O) {n : Nat} (h : n ∈ L) : Frm L S (S.set n o) := ⟨by simp, fun i h1 _ => List.getElem?_set_ne fun c => by subst c; exact h1 h⟩
theorem Frm.get {L : List Nat} {S S' : ST} (f : Frm L S S') {i : Nat} {o : O} (h : i ∉ L) (e : S[i]? = some o) : S'[i]? = some o := by rw [f.eq i h (List.getElem?_eq_some_iff.mp e).1]; exact e
theorem Frm.mono {L M : List Nat} {S S' : ST} (f : Frm L S S') (h : ∀ i ∈ L, i ∈ M) : Frm M S S' := ⟨f.le, fun i h1 h2 => f.eq i (fun c => h1 (h i c)) h2⟩
theorem lt_of_get {S : ST} {i : Nat} {o : O} (h : S[i]? = some o) : i < S.length := (List.getElem?_eq_some_iff.mp h).1
theorem ne_of_get {S : ST} {i j : Nat} {a b : O} (h1 : S[i]? = some a) (h2 : S[j]? = some b) (h : a ≠ b) : i ≠ j := fun c => by
  subst c
  rw [h1] at h2
  exact h (Option.some.inj h2)
/-- a comprehension that changes nothing -/
theorem lc_map {α : Type} {S : ST} {G : GE} {X : XQ} {t : Tg} {tt : MT} {fe : ME} {own : List Nat} {r : Src} {Q : D → ST → Prop} (xs : List α) (g : α → D) (c : α → Bool) (v : α → D) (hr : r.ds = xs.map g) (hok : ∀ acc, r.ok (S ++ [.lst acc])) (hl : xs.length < SZ)
    (hs : ∀ a ∈ xs, ∀ acc, ∃ G1, bindT t (g a) (wipeG G own) (S ++ [.lst acc]) = some G1 ∧ wpE tt G1 (S ++ [.lst acc]) (fun k S1 => S1 = S ++ [.lst acc] ∧ k = c a ∧ (c a = true → wpE fe G1 (S ++ [.lst acc]) (fun x S2 => S2 = S ++ [.lst acc] ∧ x = v a) fun _ _ _ => False)) fun _ _ _ => False)
    (hd : Q (.ref S.length) (S ++ [.lst ((xs.filter c).map v)])) : kLc t tt fe own G Q X r S := by
  refine lc_inv (fun ds acc S' => ∃ ys : List α, S' = S ++ [.lst acc] ∧ ds = ys.map g ∧ acc ++ (ys.filter c).map v = (xs.filter c).map v ∧ (∀ a ∈ ys, a ∈ xs) ∧ acc.length + ys.length ≤ xs.length) ⟨xs, rfl, hr, rfl, fun _ h => h, by simp⟩ ?_ ?_ ?_
  · intro ds acc S' h
    obtain ⟨ys, h1, _⟩ := h
    rw [h1]
    exact hok acc
  · intro acc S' h
    obtain ⟨ys, h1, h0, h2, _, _⟩ := h
    have e : ys = [] := List.map_eq_nil_iff.mp h0.symm
    rw [e, List.filter_nil, List.map_nil, List.append_nil] at h2
    rw [h1, h2]
    exact hd
  · intro d ds acc S' h
    obtain ⟨ys, h1, h0, h2, h3, h4⟩ := h
    cases ys with
    | nil => cases h0
    | cons a ys =>
      rw [List.map_cons] at h0
      injection h0 with e1 e2
      rw [e1]
      obtain ⟨G1, g1, g2⟩ := hs a (h3 a (List.mem_cons_self ..)) acc
      rw [h1]
      refine ⟨G1, g1, wpR_mono g2 fun k S1 q => ?_⟩
      obtain ⟨q1, q2, q3⟩ := q
      rw [List.length_cons] at h4
      refine ⟨fun hk => ?_, fun hk => ?_⟩
      · rw [q1]
        rw [List.filter_cons_of_neg (by rw [← q2, hk]; exact Bool.false_ne_true)] at h2
        exact ⟨ys, rfl, e2, h2, fun e he => h3 e (List.mem_cons_of_mem _ he), by omega⟩
      · have hc : c a = true := q2.symm.trans hk
        rw [q1]
        refine wpR_mono (q3 hc) fun x S2 z => ?_
        rw [List.filter_cons_of_pos hc, List.map_cons] at h2
        rw [z.1, z.2]
        refine ⟨by simp, by omega, ys, by simp, e2, ?_, fun e he => h3 e (List.mem_cons_of_mem _ he), by rw [List.length_append, List.length_singleton]; omega⟩
        rw [List.append_assoc]
        exact h2
theorem wipe_nil {G : GE} : wipeG G [] = G := rfl
theorem wipe_cons {G : GE} {v : Nat} {vs : List Nat} : wipeG G (v :: vs) = (wipeG G vs).set v none := rfl
theorem atI_0 {α : Type} {x : α} {xs : List α} : atI (x :: xs) 0 = some x := by
  rw [atI_pos (by omega) (by rw [List.length_cons]; omega)]; rfl
theorem atI_1 {α : Type} {x y : α} {xs : List α} : atI (x :: y :: xs) 1 = some y := by
  rw [atI_pos (by omega) (by rw [List.length_cons, List.length_cons]; omega)]; rfl
theorem atI_2 {α : Type} {x y z : α} {xs : List α} : atI (x :: y :: z :: xs) 2 = some z := by
  rw [atI_pos (by omega) (by rw [List.length_cons, List.length_cons, List.length_cons]; omega)]; rfl
theorem atI_3 {α : Type} {x y z w : α} {xs : List α} : atI (x :: y :: z :: w :: xs) 3 = some w := by
  rw [atI_pos (by omega) (by rw [List.length_cons, List.length_cons, List.length_cons, List.length_cons]; omega)]; rfl
/-- a loop over a typed list -/
theorem for_map {α : Type} {S : ST} {G : GE} {K : Kt} {t : Tg} {body : MS} {r : Src} (xs : List α) (g : α → D) (hr : r.ds = xs.map g) (P : List α → GE → ST → Prop) (h0 : P xs G S) (hok : ∀ ys G S, P ys G S → r.ok S) (hd : ∀ G S, P [] G S → K.nx G S)
    (hs : ∀ a ys G S, P (a :: ys) G S → ∃ G1, bindT t (g a) G S = some G1 ∧ wpS body G1 S { nx := P ys, ct := P ys, bk := K.nx, rt := K.rt, ex := K.ex }) : kFor t body K G r S := by
  refine for_inv (fun ds G S => ∃ ys, ds = ys.map g ∧ P ys G S) ⟨xs, hr, h0⟩ (fun ds G S h => by obtain ⟨ys, _, h⟩ := h; exact hok ys G S h) ?_ ?_
  · intro G S h
    obtain ⟨ys, h1, h2⟩ := h
    rw [List.map_eq_nil_iff.mp h1.symm] at h2
    exact hd G S h2
  · intro d ds G S h
    obtain ⟨ys, h1, h2⟩ := h
    cases ys with
    | nil => cases h1
    | cons a ys =>
      rw [List.map_cons] at h1
      injection h1 with e1 e2
      rw [e1]
      obtain ⟨G1, g1, g2⟩ := hs a ys G S h2
      exact ⟨G1, g1, wpS_mono g2 (fun _ _ q => ⟨ys, e2, q⟩) (fun _ _ q => q) (fun _ _ q => q) (fun _ _ q => ⟨ys, e2, q⟩) fun _ _ _ _ q => q⟩
theorem setG_nil {G : GE} {ds : List D} : setG G [] ds = G := by cases ds <;> rfl
theorem setG_cons {G : GE} {i : Nat} {is : List Nat} {d : D} {ds : List D} : setG G (i :: is) (d :: ds) = setG (G.set i (some d)) is ds := rfl
theorem kSetT_ref {is : List Nat} {K : Kt} {G : GE} {S : ST} {n : Nat} : kSetT (.tp is) K G (.ref n) S = kLsO S[n]? (fun ds => ds.length = is.length ∧ K.nx (setG G is ds) S) := by
  unfold kSetT bindT D.items kLsO
  dsimp only
  cases S[n]? with
  | none => rfl
  | some o =>
    cases o with
    | lst ds =>
      dsimp only
      by_cases h : ds.length = is.length
      · rw [if_pos h]; simp [h]
      · rw [if_neg h]; simp [h]
    | _ => rfl
theorem kSetT_tup {is : List Nat} {K : Kt} {G : GE} {S : ST} {ds : List D} : kSetT (.tp is) K G (.tup ds) S = (ds.length = is.length ∧ K.nx (setG G is ds) S) := by
  unfold kSetT bindT D.items
  dsimp only
  by_cases h : ds.length = is.length
  · rw [if_pos h]; simp [h]
  · rw [if_neg h]; simp [h]
theorem kSetT_nm {i : Nat} {K : Kt} {G : GE} {S : ST} {d : D} : kSetT (.nm i) K G d S = K.nx (G.set i (some d)) S := rfl
theorem bindT_ref {is : List Nat} {G : GE} {S : ST} {n : Nat} {ds : List D} (h : S[n]? = some (.lst ds)) (hl : ds.length = is.length) : bindT (.tp is) (.ref n) G S = some (setG G is ds) := by
  unfold bindT D.items
  simp only [h, hl, if_true]
theorem wp_tYes {G : GE} {S : ST} {Q : Bool → ST → Prop} {X : XQ} : wpE tYesM G S Q X = Q true S := rfl
theorem erase_idx {xs : List Int} {k : Int} (h : k ∈ xs) : ∃ j, idxI xs k = some j ∧ xs.eraseIdx j = xs.erase k := by
  induction xs with
  | nil => cases h
  | cons x xs ih =>
    unfold idxI at ih ⊢
    rw [List.findIdx?_cons]
    by_cases e : x = k
    · subst e
      exact ⟨0, by simp, by simp⟩
    · have hm : k ∈ xs := by
        rcases List.mem_cons.mp h with c | c
        · exact absurd c.symm e
        · exact c
      obtain ⟨j, h1, h2⟩ := ih hm
      refine ⟨j + 1, by simp [e, h1], ?_⟩
      rw [List.eraseIdx_cons_succ, h2, List.erase_cons_tail (by simpa using e)]
theorem r_removeI {S : ST} {n : Nat} {xs : List Int} {k : Int} {Q : D → ST → Prop} {X : XQ} (h : S[n]? = some (.lst (xs.map D.int))) (hk : k ∈ xs) (q : Q .non (S.set n (.lst ((xs.erase k).map D.int)))) : wpR (bRemove (.ref n) [.int k] S) Q X := by
  obtain ⟨j, h1, h2⟩ := erase_idx hk
  unfold bRemove withL
  simp only [h, intsD_map, h1, h2]
  exact q
theorem any_ints {xs : List Int} {k : Int} : ((xs.map D.int).any fun y => eqF y (.int k)) = decide (k ∈ xs) := by
  rw [List.any_map]
  induction xs with
  | nil => rfl
  | cons x xs ih =>
    rw [List.any_cons, ih]
    show (decide (x = k) || _) = _
    rw [dec_or]
    congr 1
    rw [List.mem_cons, eq_comm (a := x)]
theorem flat_ints {xs : List Int} : (xs.map D.int).all D.flat = true := by
  rw [List.all_map]
  exact List.all_eq_true.mpr fun _ _ => rfl
theorem r_inInts {S : ST} {n : Nat} {xs : List Int} {k : Int} {Q : D → ST → Prop} {X : XQ} (h : S[n]? = some (.lst (xs.map D.int))) (q : Q (.bl (decide (k ∈ xs))) S) : wpR (mIn (.int k) (.ref n) S) Q X := by
  refine r_inR ?_
  rw [h]
  unfold kInO
  refine ⟨by rw [flat_ints]; rfl, ?_⟩
  rw [any_ints]
  exact q
theorem r_ninInts {S : ST} {n : Nat} {xs : List Int} {k : Int} {Q : D → ST → Prop} {X : XQ} (h : S[n]? = some (.lst (xs.map D.int))) (q : Q (.bl (!decide (k ∈ xs))) S) : wpR (mNotIn (.int k) (.ref n) S) Q X := by
  refine r_ninR ?_
  rw [h]
  unfold kInO
  refine ⟨by rw [flat_ints]; rfl, ?_⟩
  rw [any_ints]
  exact q
/-! ### frames by a predicate -/
structure FrP (P : Nat → Prop) (S S' : ST) : Prop where
  le : S.length ≤ S'.length
  eq : ∀ i, ¬ P i → i < S.length → S'[i]? = S[i]?
theorem FrP.refl (P : Nat → Prop) (S : ST) : FrP P S S := ⟨Nat.le_refl _, fun _ _ _ => rfl⟩
theorem FrP.trans {P : Nat → Prop} {S S1 S2 : ST} (a : FrP P S S1) (b : FrP P S1 S2) : FrP P S S2 := ⟨Nat.le_trans a.le b.le, fun i h1 h2 => (b.eq i h1 (Nat.lt_of_lt_of_le h2 a.le)).trans (a.eq i h1 h2)⟩
theorem FrP.mono {P P' : Nat → Prop} {S S' : ST} (f : FrP P S S') (h : ∀ i, P i → P' i) : FrP P' S S' := ⟨f.le, fun i h1 h2 => f.eq i (fun c => h1 (h i c)) h2⟩
theorem FrP.get {P : Nat → Prop} {S S' : ST} (f : FrP P S S') {i : Nat} {o : O} (h : ¬ P i) (e : S[i]? = some o) : S'[i]? = some o := by rw [f.eq i h (lt_of_get e)]; exact e
theorem FrP.app (P : Nat → Prop) (S T : ST) : FrP P S (S ++ T) := ⟨by simp, fun i _ h => List.getElem?_append_left h⟩
theorem FrP.set {P : Nat → Prop} (S : ST) (o : O) {n : Nat} (h : P n) : FrP P S (S.set n o) := ⟨by simp, fun i h1 _ => List.getElem?_set_ne fun c => by subst c; exact h1 h⟩
theorem Frm.frp {L : List Nat} {S S' : ST} (f : Frm L S S') {P : Nat → Prop} (h : ∀ i ∈ L, P i) : FrP P S S' := ⟨f.le, fun i h1 h2 => f.eq i (fun c => h1 (h i c)) h2⟩
/-- lists of numbers at the places rs -/
def Rows (S : ST) (rs : List Nat) (rows : List (List Int)) : Prop := rs.length = rows.length ∧ ∀ (k : Nat) (r : Nat) (xs : List Int), rs[k]? = some r → rows[k]? = some xs → S[r]? = some (.lst (xs.map D.int))
theorem Rows.mono {S S' : ST} {rs : List Nat} {rows : List (List Int)} (h : Rows S rs rows) (f : ∀ r ∈ rs, S'[r]? = S[r]?) : Rows S' rs rows := ⟨h.1, fun k r xs h1 h2 => by rw [f r (List.mem_of_getElem? h1)]; exact h.2 k r xs h1 h2⟩
theorem Rows.at {S : ST} {rs : List Nat} {rows : List (List Int)} (h : Rows S rs rows) {k : Nat} {xs : List Int} (hk : rows[k]? = some xs) : ∃ r, rs[k]? = some r ∧ r ∈ rs ∧ S[r]? = some (.lst (xs.map D.int)) := by
  have l := (List.getElem?_eq_some_iff.mp hk).1
  have l2 : k < rs.length := by rw [h.1]; exact l
  exact ⟨rs[k], List.getElem?_eq_getElem l2, List.getElem_mem l2, h.2 k _ xs (List.getElem?_eq_getElem l2) hk⟩
theorem Rows.lt {S : ST} {rs : List Nat} {rows : List (List Int)} (h : Rows S rs rows) {r : Nat} (hr : r ∈ rs) : r < S.length := by
  obtain ⟨k, hk, e⟩ := List.mem_iff_getElem.mp hr
  have l : k < rows.length := by rw [← h.1]; exact hk
  exact lt_of_get (h.2 k r _ (by rw [List.getElem?_eq_getElem hk, e]) (List.getElem?_eq_getElem l))
theorem set_self {S : ST} {n : Nat} {o : O} (h : S[n]? = some o) : S.set n o = S := by
  refine List.ext_getElem? fun i => ?_
  by_cases c : n = i
  · subst c
    rw [set_same (lt_of_get h), h]
  · exact set_get' c
theorem kPutO_at {S : ST} {n : Nat} {ds : List D} {i : Int} {v : D} {N : ST → Prop} (h0 : 0 ≤ i) (h1 : i < ds.length) : kPutO (some (.lst ds)) n (.int i) v S N = N (S.set n (.lst (ds.set i.toNat v))) := by
  rw [kPutO_lst]
  unfold ixN
  rw [if_pos h0, if_pos h1]
theorem cut_pos (ds : List D) (r : Nat) : Mir.cutD ds none (some (r : Int)) = ds.take r := by
  have e1 : HT.sIx ds.length ds.length (some (r : Int)) = min r ds.length := HT.sIx_nat _ _ _
  have e2 : HT.sIx ds.length 0 none = 0 := rfl
  unfold Mir.cutD
  rw [e1, e2, List.drop_zero, Nat.sub_zero]
  by_cases h : r ≤ ds.length
  · rw [Nat.min_eq_left h]
  · rw [Nat.min_eq_right (by omega), List.take_of_length_le (Nat.le_refl _), List.take_of_length_le (by omega)]
theorem filt_erase {xs : List Int} (h : xs.Nodup) (k : Int) : xs.filter (fun x => !decide (x = k)) = xs.erase k := by
  rw [h.erase_eq_filter]
  congr 1
theorem dset_map {α : Type} {g : α → D} {xs : List α} {k : Nat} {a : α} : (xs.map g).set k (g a) = (xs.set k a).map g := by rw [List.map_set]
theorem Rows.zip {S : ST} {rs : List Nat} {rows : List (List Int)} (h : Rows S rs rows) : ∀ p ∈ rs.zip rows, S[p.1]? = some (.lst (p.2.map D.int)) := by
  intro p hp
  obtain ⟨k, hk, e⟩ := List.mem_iff_getElem.mp hp
  rw [List.length_zip] at hk
  rw [List.getElem_zip] at e
  rw [← e]
  exact h.2 k _ _ (List.getElem?_eq_getElem (by omega)) (List.getElem?_eq_getElem (by omega))
def freshR (b m : Nat) : List Nat := (List.range m).map (b + ·)
theorem freshR_len {b m : Nat} : (freshR b m).length = m := by simp [freshR]
theorem freshR_mem {b m i : Nat} : i ∈ freshR b m ↔ b ≤ i ∧ i < b + m := by
  unfold freshR
  rw [List.mem_map]
  constructor
  · rintro ⟨j, h, rfl⟩
    rw [List.mem_range] at h
    omega
  · intro h
    exact ⟨i - b, List.mem_range.mpr (by omega), by omega⟩
theorem freshR_nodup {b m : Nat} : (freshR b m).Nodup := by
  unfold freshR
  exact List.Pairwise.map _ (fun a c (h : a ≠ c) => by omega) List.nodup_range
theorem freshR_succ {b m : Nat} : freshR b (m + 1) = freshR b m ++ [b + m] := by
  unfold freshR
  rw [List.range_succ, List.map_append]
  rfl
/-- [[] for _ in range(m)] -/
theorem lc_new {S : ST} {G : GE} {X : XQ} {t m : Nat} {own : List Nat} {Q : D → ST → Prop} (hm : m < SZ)
    (hd : Q (.ref S.length) (S ++ O.lst ((freshR (S.length + 1) m).map D.ref) :: List.replicate m (O.lst []))) : kLc (.nm t) tYesM (eLst aNil) own G Q X ⟨rngD 0 1 m, none⟩ S := by
  refine lc_inv (fun ds acc S' => ∃ i, i ≤ m ∧ ds = (rngD 0 1 m).drop i ∧ acc = (freshR (S.length + 1) i).map D.ref ∧ S' = S ++ O.lst acc :: List.replicate i (O.lst [])) ⟨0, Nat.zero_le _, by simp, rfl, by simp⟩ (fun _ _ _ _ => True.intro) ?_ ?_
  · intro acc S' h
    obtain ⟨i, h1, h2, h3, h4⟩ := h
    have e := congrArg List.length h2
    rw [List.length_drop, rngD_len, List.length_nil] at e
    have e2 : i = m := by omega
    rw [h4, h3, e2]
    exact hd
  · intro d ds acc S' h
    obtain ⟨i, h1, h2, h3, h4⟩ := h
    have e := congrArg List.length h2
    rw [List.length_drop, rngD_len, List.length_cons] at e
    refine ⟨_, rfl, ?_⟩
    rw [wp_tYes]
    refine ⟨fun c => Bool.noConfusion c, fun _ => ?_⟩
    rw [wp_eLst, wp_aNil, kLst_eq]
    have ll : S'.length = S.length + 1 + i := by rw [h4]; simp; omega
    refine ⟨Nat.zero_le _, ?_, ?_, ⟨i + 1, by omega, ?_, ?_, ?_⟩⟩
    · rw [h4, List.append_assoc, List.cons_append, get_app0]; rfl
    · rw [h3, List.length_map, freshR_len]; omega
    · rw [← List.tail_drop, ← h2]; rfl
    · rw [freshR_succ, List.map_append, ← h3, ll]; rfl
    · rw [h4, List.append_assoc, List.cons_append, set_app0, List.set_cons_zero, ← List.replicate_succ']
theorem rows_new {S : ST} {m : Nat} {x : O} : Rows (S ++ x :: List.replicate m (O.lst [])) (freshR (S.length + 1) m) (List.replicate m []) := by
  refine ⟨by rw [freshR_len, List.length_replicate], fun k r xs h1 h2 => ?_⟩
  have hk : k < m := by
    have := (List.getElem?_eq_some_iff.mp h2).1
    rwa [List.length_replicate] at this
  rw [List.getElem?_replicate_of_lt hk] at h2
  cases h2
  unfold freshR at h1
  rw [List.getElem?_map, List.getElem?_range hk] at h1
  cases h1
  show (S ++ x :: List.replicate m (O.lst []))[S.length + 1 + k]? = _
  rw [Nat.add_assoc, get_app, Nat.add_comm 1 k, List.getElem?_cons_succ, List.getElem?_replicate_of_lt hk]
  rfl
theorem r_mulR {S : ST} {m : Nat} {k : Int} {Q : D → ST → Prop} {X : XQ} : wpR (mMul (.ref m) (.int k) S) Q X = kLsO S[m]? (fun xs => (0 ≤ k ∧ k < 16777217 ∧ xs.length * k.toNat ≤ SZ) ∧ Q (.ref S.length) (S ++ [.lst (List.replicate k.toNat xs).flatten])) := by
  unfold mMul kLsO
  dsimp only
  cases S[m]? with
  | none => rfl
  | some o =>
    cases o with
    | lst xs => dsimp only; rw [wp_ite]; rfl
    | _ => rfl
end Mir

namespace Mir
open PySem L2 PyProof.Rows
section
variable {X : Cx} {W : WX}
/-! ### sorted, index -/
def isort (ns : List Int) : List Int := ns.mergeSort fun a b => decide (a ≤ b)
theorem isort_perm (ns : List Int) : (isort ns).Perm ns := List.mergeSort_perm _ _
theorem isort_le (ns : List Int) : (isort ns).Pairwise (· ≤ ·) := by
  have h := List.pairwise_mergeSort (le := fun a b : Int => decide (a ≤ b)) (fun a b c h1 h2 => by simp at *; omega) (fun a b => by simp; omega) ns
  exact h.imp fun h => by simpa using h
theorem isort_eq {ns ms : List Int} (p : ms.Perm ns) (s : ms.Pairwise (· ≤ ·)) : ms = isort ns :=
  List.Perm.eq_of_pairwise (le := (· ≤ ·)) (fun a b _ _ h1 h2 => Int.le_antisymm h1 h2) s (isort_le ns) (p.trans (isort_perm ns).symm)
def bSorted : List D → C D := fun ds S => match ds with | [d] => (match (d.litems S).bind intsD with | some ns => allocO (.lst ((isort ns).map D.int)) S | none => .bad) | _ => .bad
theorem bi_sorted : Bi X W (.builtin "sorted") bSorted := by
  refine ⟨_, cr_sortedI, fun ρ S H σ ds xs Q s r o => ?_⟩
  unfold bSorted at o
  split at o
  · obtain ⟨v, rfl, r1⟩ := r.one
    split at o
    · rename_i ns hn
      rw [Option.bind_eq_some_iff] at hn
      obtain ⟨es, h1, h2⟩ := hn
      obtain ⟨p, vs, rfl, q, v1⟩ := litems_ok s r1 h1
      rw [intsD_eq h2] at v1
      rw [v1.ints] at q
      refine ⟨p, ns, rfl, q, fun ns' p' h3 h4 => ?_⟩
      rw [isort_eq h3 h4]
      exact alloc_lst s o (VRs.of_ints _) p'
    · exact o.elim
  · exact o.elim
def bIndex : D → List D → C D := fun d ds S => match ds with
  | [y] => (match d.litems S with
    | some es => if (y.flat && es.all D.flat) = true then (match es.findIdx? fun z => eqF z y with | some j => .ok (.int j) S | none => .bad) else .bad
    | none => .bad)
  | _ => .bad
theorem bm_index : Bm X W "list.index" bIndex := by
  refine ⟨_, mt_index, fun ρ S H σ d ds x xs Q s r1 r2 o => ?_⟩
  unfold bIndex at o
  split at o
  · rename_i y
    obtain ⟨w, rfl, r4⟩ := r2.one
    split at o
    · rename_i es he
      split at o
      · rename_i hf
        rw [Bool.and_eq_true] at hf
        split at o
        · rename_i j hj
          obtain ⟨p, vs, rfl, q, v1⟩ := litems_ok s r1 he
          obtain ⟨e1, f1⟩ := r4.flat hf.1
          obtain ⟨e2, f2⟩ := v1.flat hf.2
          subst e1 e2
          rw [List.findIdx?_eq_some_iff_getElem] at hj
          obtain ⟨hl, c1, c2⟩ := hj
          have g : ∀ (m : Nat) (h : m < es.length), (es[m]).flat = true := fun m h => List.all_eq_true.mp hf.2 _ (List.getElem_mem h)
          refine ⟨p, _, _, j, (es[j]).toV, rfl, rfl, q, f1, f2, ?_, ?_, fun m z' hm hz => ?_, o ρ H _ (.refl _ _) s (VR_int.mpr rfl)⟩
          · rw [List.getElem?_map, List.getElem?_eq_getElem hl]; rfl
          · rw [eqV_toV (g j hl) hf.1]; exact c1
          · have hml : m < es.length := by omega
            rw [List.getElem?_map, List.getElem?_eq_getElem hml] at hz
            cases hz
            rw [eqV_toV (g m hml) hf.1]
            simpa using c2 m hm
        · exact o.elim
      · exact o.elim
    · exact o.elim
  · exact o.elim
end
end Mir

namespace Mir
open PySem L2 PyProof.Rows
section
variable {S : ST} {G : GE} {X : XQ} {Q : D → ST → Prop}
/-- a comprehension whose test always fails; the test may put things at the store's end -/
theorem lc_empty {t : Tg} {tt : MT} {fe : ME} {own : List Nat} {r : Src} (hok : ∀ T, r.ok (S ++ .lst [] :: T))
    (hs : ∀ (i : Nat) (d : D) (T : ST), r.ds[i]? = some d → ∃ G1, bindT t d (wipeG G own) (S ++ .lst [] :: T) = some G1 ∧ wpE tt G1 (S ++ .lst [] :: T) (fun k S1 => k = false ∧ ∃ T1, S1 = S ++ .lst [] :: T1) fun _ _ _ => False)
    (hd : ∀ T, Q (.ref S.length) (S ++ .lst [] :: T)) : kLc t tt fe own G Q X r S := by
  refine lc_inv (fun ds acc S' => acc = [] ∧ (∃ T, S' = S ++ .lst [] :: T) ∧ ∃ i, i ≤ r.ds.length ∧ ds = r.ds.drop i) ⟨rfl, ⟨[], rfl⟩, 0, Nat.zero_le _, rfl⟩ ?_ ?_ ?_
  · intro ds acc S' h
    obtain ⟨_, ⟨T, h2⟩, _⟩ := h
    rw [h2]; exact hok T
  · intro acc S' h
    obtain ⟨_, ⟨T, h2⟩, _⟩ := h
    rw [h2]; exact hd T
  · intro d ds acc S' h
    obtain ⟨h1, ⟨T, h2⟩, i, h3, h4⟩ := h
    have hi : r.ds[i]? = some d := by
      have e := congrArg (fun l => l[0]?) h4
      rw [List.getElem?_drop] at e
      exact e.symm
    have hl := (List.getElem?_eq_some_iff.mp hi).1
    obtain ⟨G1, g1, g2⟩ := hs i d T hi
    rw [h2]
    refine ⟨G1, g1, wpR_mono g2 fun k S1 q => ⟨fun _ => ⟨h1, q.2, i + 1, by omega, ?_⟩, fun c => by rw [q.1] at c; cases c⟩⟩
    rw [← List.tail_drop, ← h4]; rfl
/-- a comprehension that only puts things at the store's end -/
theorem lc_grow {α : Type} {t : Tg} {tt : MT} {fe : ME} {own : List Nat} {r : Src} (xs : List α) (g : α → D) (c : α → Bool) (v : α → D) (hr : r.ds = xs.map g) (hok : ∀ acc T, r.ok (S ++ .lst acc :: T)) (hl : xs.length < SZ)
    (hs : ∀ a ∈ xs, ∀ (acc : List D) (T : ST), ∃ G1, bindT t (g a) (wipeG G own) (S ++ .lst acc :: T) = some G1 ∧ wpE tt G1 (S ++ .lst acc :: T) (fun k S1 => k = c a ∧ ∃ T1, S1 = S ++ .lst acc :: T1 ∧ (c a = true → wpE fe G1 (S ++ .lst acc :: T1) (fun x S2 => x = v a ∧ ∃ T2, S2 = S ++ .lst acc :: T2) fun _ _ _ => False)) fun _ _ _ => False)
    (hd : ∀ T, Q (.ref S.length) (S ++ .lst ((xs.filter c).map v) :: T)) : kLc t tt fe own G Q X r S := by
  refine lc_inv (fun ds acc S' => ∃ ys : List α, (∃ T, S' = S ++ .lst acc :: T) ∧ ds = ys.map g ∧ acc ++ (ys.filter c).map v = (xs.filter c).map v ∧ (∀ a ∈ ys, a ∈ xs) ∧ acc.length + ys.length ≤ xs.length) ⟨xs, ⟨[], rfl⟩, hr, rfl, fun _ h => h, by simp⟩ ?_ ?_ ?_
  · intro ds acc S' h
    obtain ⟨ys, ⟨T, h1⟩, _⟩ := h
    rw [h1]
    exact hok acc T
  · intro acc S' h
    obtain ⟨ys, ⟨T, h1⟩, h0, h2, _, _⟩ := h
    have e : ys = [] := List.map_eq_nil_iff.mp h0.symm
    rw [e, List.filter_nil, List.map_nil, List.append_nil] at h2
    rw [h1, h2]
    exact hd T
  · intro d ds acc S' h
    obtain ⟨ys, ⟨T, h1⟩, h0, h2, h3, h4⟩ := h
    cases ys with
    | nil => cases h0
    | cons a ys =>
      rw [List.map_cons] at h0
      injection h0 with e1 e2
      rw [e1]
      obtain ⟨G1, g1, g2⟩ := hs a (h3 a (List.mem_cons_self ..)) acc T
      rw [h1]
      refine ⟨G1, g1, wpR_mono g2 fun k S1 q => ?_⟩
      obtain ⟨q2, T1, q1, q3⟩ := q
      rw [List.length_cons] at h4
      refine ⟨fun hk => ?_, fun hk => ?_⟩
      · rw [q1]
        rw [List.filter_cons_of_neg (by rw [← q2, hk]; exact Bool.false_ne_true)] at h2
        exact ⟨ys, ⟨T1, rfl⟩, e2, h2, fun e he => h3 e (List.mem_cons_of_mem _ he), by omega⟩
      · have hc : c a = true := q2.symm.trans hk
        rw [q1]
        refine wpR_mono (q3 hc) fun x S2 z => ?_
        obtain ⟨z1, T2, z2⟩ := z
        rw [List.filter_cons_of_pos hc, List.map_cons] at h2
        rw [z1, z2]
        refine ⟨get_app0, by omega, ys, ⟨T2, by rw [set_app0]; rfl⟩, e2, ?_, fun e he => h3 e (List.mem_cons_of_mem _ he), by rw [List.length_append, List.length_singleton]; omega⟩
        rw [List.append_assoc]
        exact h2
theorem rngD_map {n : Nat} : rngD 0 1 n = (List.range n).map fun k : Nat => D.int (k : Int) := by
  refine List.ext_getElem? fun i => ?_
  by_cases h : i < n
  · rw [rngD_get h, List.getElem?_map, List.getElem?_range h]
    show some (D.int (0 + (i : Int) * 1)) = some (D.int i)
    rw [Int.zero_add, Int.mul_one]
  · rw [List.getElem?_eq_none (by rw [rngD_len]; omega), List.getElem?_eq_none (by rw [List.length_map, List.length_range]; omega)]
theorem r_sortedR {n : Nat} {xs : List Int} (h : S[n]? = some (.lst (xs.map D.int))) (q : Q (.ref S.length) (S ++ [.lst ((isort xs).map D.int)])) : wpR (bSorted [.ref n] S) Q X := by
  unfold bSorted D.litems
  simp only [h, Option.bind_some, intsD_map]
  exact q
theorem find_str {names : List Str} (nd : names.Nodup) {j : Nat} {x : Str} (hj : names[j]? = some x) : (names.map D.str).findIdx? (fun z => eqF z (.str x)) = some j := by
  obtain ⟨hl, e⟩ := List.getElem?_eq_some_iff.mp hj
  rw [List.findIdx?_eq_some_iff_getElem]
  refine ⟨by rw [List.length_map]; exact hl, ?_, fun m hm => ?_⟩
  · rw [List.getElem_map, e]
    exact decide_eq_true rfl
  · rw [List.getElem_map]
    have hml : m < names.length := by omega
    have : names[m] ≠ x := by
      intro c
      rw [← e] at c
      exact absurd ((List.getElem_inj nd).mp c) (by omega)
    show ¬ (decide (names[m] = x) = true)
    simpa using this
theorem flat_strs {names : List Str} : (names.map D.str).all D.flat = true := by
  rw [List.all_map]
  exact List.all_eq_true.mpr fun _ _ => rfl
theorem r_indexR {n j : Nat} {names : List Str} {x : Str} (h : S[n]? = some (.lst (names.map D.str))) (nd : names.Nodup) (hj : names[j]? = some x) (q : Q (.int j) S) : wpR (bIndex (.ref n) [.str x] S) Q X := by
  unfold bIndex D.litems
  have e : ((D.str x).flat && (names.map D.str).all D.flat) = true := by rw [flat_strs]; rfl
  simp only [h, e, if_true, find_str nd hj]
  exact q
end
end Mir

namespace Mir
open PySem L2 PyProof.Rows
section
variable {X : Cx} {W : WX} {a b c e o : Expr} {fa fb fe fo : ME} {fl fh : MO} {pos p p2 : Pos} {lo hi : Option Expr}
/-! ### o[i:j] = e, of another list -/
def gSlc (to : TE) (tl th : TO) : TG := fun v σ H Q => to σ H fun x H1 => tl σ H1 fun l H2 => th σ H2 fun u H3 => ∃ (q r : Addr) (xs ys : List V) (i j : Int), x = .ref q ∧ v = .ref r ∧ l = some i ∧ u = some j ∧
  H3 q = some (.lst xs) ∧ H3 r = some (.lst ys) ∧ q ≠ r ∧ 0 ≤ i ∧ i ≤ j ∧ j ≤ xs.length ∧ xs.length + ys.length ≤ sizeLine ∧ Q σ (upd H3 q (.lst (xs.take i.toNat ++ ys ++ xs.drop j.toNat)))
theorem IsPart.rel {v : Value} {i : Int} (h : IsPart v (some i)) : RelV (.int i) v := by
  cases h with
  | int i t => exact ⟨t, rfl⟩
theorem pg_slc {to : TE} {tl th : TO} (ho : PE X o to) (hl : PO X lo tl) (hh : PO X hi th)
    (hA : ∀ v, assign (.Subscript o (.Slice lo hi none p2) pos) X.env v = (do
      let ov ← holding [v] (eval o X.env)
      let iv ← holding [v, ov] (eval (.Slice lo hi none p2) X.env)
      standAt pos
      holding [v, ov, iv] (setItem ov iv v)
      release [iv, v, ov] []) := by intro _; rfl) : PG X (.Subscript o (.Slice lo hi none p2) pos) (gSlc to tl th) := by
  refine ⟨fun pins s σ H v u Q I r h => ?_⟩
  rw [hA]
  refine wpAny_bind (wpAny_holding (thn (ho.run pins s σ H _ I h) fun ov s1 ⟨x, H1, I1, r1, q1⟩ => ?_))
  refine wpAny_bind (wpAny_holding (wpAny_Slice (thn (hl.run pins s1 σ H1 _ I1 q1) fun vl s2 ⟨l, H2, I2, pl, q2⟩ => thn (hh.run pins s2 σ H2 _ I2 q2) fun vu s3 ⟨w, H3, I3, pu, q3⟩ => ?_)))
  rw [evalPart_none]
  refine wpAny_pure ?_
  obtain ⟨q, r', xs, ys, i, j, rfl, rfl, rfl, rfl, hq, hr, hne, h0, h1, h2, h3, k⟩ := q3
  have I4 : Inv X pins σ H3 { s3 with heap := s3.heap.push { cls := .type "slice", data := .fields #[vl, vu, .none] } } := I3.kept (t' := s3.toks) fun b ob q => Heap.get?_push_of_some _ q
  cases r1
  cases r
  refine wpAny_bind (wpAny_standAt (wpAny_bind (wpAny_holding ?_)))
  refine set_slice I4 hq hr hne (Heap.IsSliceOf.new ..) (IsPart.rel pl) (IsPart.rel pu) h0 h1 h2 h3 fun s' I' => ?_
  exact wpAny_release ⟨σ, _, I', k⟩
/-- what it comes to -/
def putSl (S : ST) (o : D) (lo hi : Option Int) (v : D) : Option ST := match o, v, lo, hi with
  | .ref n, .ref m, some i, some j => match S[n]?, S[m]? with
    | some (.lst xs), some (.lst ys) => if n ≠ m ∧ 0 ≤ i ∧ i ≤ j ∧ j ≤ xs.length ∧ xs.length + ys.length ≤ SZ then some (S.set n (.lst (xs.take i.toNat ++ ys ++ xs.drop j.toNat))) else none
    | _, _ => none
  | _, _, _, _ => none
def sSlc (fo : ME) (fl fh : MO) (fe : ME) : MS := fun G S => (fe G S).s G fun v S1 => (fo G S1).s G fun o S2 => (fl G S2).s G fun l S3 => (fh G S3).s G fun h S4 => match putSl S4 o l h v with | some S5 => .nx G S5 | none => .bad
theorem ds_slc (ho : DE X W o fo) (hl : DO X W lo fl) (hh : DO X W hi fh) (he : DE X W e fe)
    (hA : ∀ v, assign (.Subscript o (.Slice lo hi none p2) p) X.env v = (do
      let ov ← holding [v] (eval o X.env)
      let iv ← holding [v, ov] (eval (.Slice lo hi none p2) X.env)
      standAt p
      holding [v, ov, iv] (setItem ov iv v)
      release [iv, v, ov] []) := by intro _; rfl)
    (hs : swapsWithSole [.Subscript o (.Slice lo hi none p2) p] e pos.line X.env = pure false := by rfl) (hw : swappedStores [.Subscript o (.Slice lo hi none p2) p] e X.env = pure none := by rfl)
    (h1 : (assignEach [.Subscript o (.Slice lo hi none p2) p] X.env).map (·.2) = [assign (.Subscript o (.Slice lo hi none p2) p) X.env] := by rfl) :
    DS X W (.Assign [.Subscript o (.Slice lo hi none p2) p] e pos) (sSlc fo fl fh fe) := PS.weak (ps_asg he (pg_slc ho hl hh hA) hs hw h1) fun D σ H h => by
  refine tG_mono (tS_bind (f := fe) (k := fun v G S1 => (fo G S1).s G fun o S2 => (fl G S2).s G fun l S3 => (fh G S3).s G fun h S4 => match putSl S4 o l h v with | some S5 => .nx G S5 | none => .bad) (rel := rV X) h) fun v H1 q => ?_
  obtain ⟨ρ, G, S, d, g, s, r, out⟩ := q
  refine ⟨ρ, G, S, g, s, OutG.mono (outS_bind (rel := rV X) g out) (.refl _ _) fun x H2 q2 => ?_⟩
  obtain ⟨ρ2, S2, e2, x2, s2, r2, o2⟩ := q2
  refine ⟨ρ2, G, S2, g.mono x2, s2, OutG.mono (outS_bind (rel := fun _ _ a b => b = a) (g.mono x2) o2) (.refl _ _) fun l H3 q3 => ?_⟩
  obtain ⟨ρ3, S3, e3, x3, s3, r3, o3⟩ := q3
  subst r3
  have g3 := (g.mono x2).mono x3
  refine ⟨ρ3, G, S3, g3, s3, OutG.mono (outS_bind (rel := fun _ _ a b => b = a) g3 o3) (.refl _ _) fun u H4 q4 => ?_⟩
  obtain ⟨ρ4, S4, e4, x4, s4, r4, o4⟩ := q4
  subst r4
  have g4 := g3.mono x4
  split at o4
  · rename_i S5 hp
    unfold putSl at hp
    split at hp
    · rename_i n m i j
      split at hp
      · rename_i xs ys h1 h2
        split at hp
        · rename_i c
          cases hp
          obtain ⟨c0, c1, c2, c3, c4⟩ := c
          have rv : VR X.K ρ4 H4 (.ref m) v := VR.mono (x2.trans (x3.trans x4)) r
          have rx : VR X.K ρ4 H4 (.ref n) x := VR.mono (x3.trans x4) r2
          obtain ⟨q, e1, p1, vs, w1, v1⟩ := s4.ref rx h1
          obtain ⟨t, e2, p2, ws, w2, v2⟩ := s4.ref rv h2
          have hm : Mut (H4 q) := by rw [w1]; exact True.intro
          refine ⟨q, t, vs, ws, i, j, e1, e2, rfl, rfl, w1, w2, fun z => ?_, c1, c2, by rw [← v1.length]; exact c3, by rw [sizeLine_eq, ← v1.length, ← v2.length]; exact c4, ?_⟩
          · subst z
            have hn := (List.getElem?_eq_some_iff.mp p1)
            have hm' := (List.getElem?_eq_some_iff.mp p2)
            obtain ⟨l1, e1⟩ := hn
            obtain ⟨l2, e2⟩ := hm'
            exact c0 ((List.getElem_inj s4.nd).mp (e1.trans e2.symm))
          · have s5 := s4.write (ho := .lst (vs.take i.toNat ++ ws ++ vs.drop j.toNat)) (o := .lst (xs.take i.toNat ++ ys ++ xs.drop j.toNat)) p1 hm ⟨_, upd_same, (((v1.take _).append v2).append (v1.drop _)).mono (.write hm)⟩
            exact outS_nx (g4.mono (.write hm)) s5 (OutS.mono (r := RS.nx G _) o4 (.write hm))
        · cases hp
      · cases hp
    · cases hp
  · exact o4.elim
end
/-! ### its word -/
section
variable {G : GE} {S : ST} {K : Kt} {X : XQ}
def kSc4 (v o : D) (l : Option Int) (K : Kt) (G : GE) : Option Int → ST → Prop := fun h S => match putSl S o l h v with | some S5 => K.nx G S5 | none => False
def kSc3 (v o : D) (fh : MO) (K : Kt) (G : GE) : Option Int → ST → Prop := fun l S => wpE fh G S (kSc4 v o l K G) (kx K G)
def kSc2 (v : D) (fl fh : MO) (K : Kt) (G : GE) : D → ST → Prop := fun o S => wpE fl G S (kSc3 v o fh K G) (kx K G)
def kSc1 (fo : ME) (fl fh : MO) (K : Kt) (G : GE) : D → ST → Prop := fun v S => wpE fo G S (kSc2 v fl fh K G) (kx K G)
theorem wp_sSlc {fo fe : ME} {fl fh : MO} : wpS (sSlc fo fl fh fe) G S K = wpE fe G S (kSc1 fo fl fh K G) (kx K G) := by
  unfold wpS sSlc; rw [run_s]
  unfold wpE kSc1
  congr 1
  funext v S
  rw [run_s]
  unfold wpE kSc2
  congr 1
  funext o S
  rw [run_s]
  unfold wpE kSc3
  congr 1
  funext l S
  rw [run_s]
  unfold wpE kSc4
  congr 1
  funext h S
  cases putSl S o l h v <;> rfl
theorem kSc1_eq {fo : ME} {fl fh : MO} {v : D} : kSc1 fo fl fh K G v S = wpE fo G S (kSc2 v fl fh K G) (kx K G) := rfl
theorem kSc2_eq {fl fh : MO} {v o : D} : kSc2 v fl fh K G o S = wpE fl G S (kSc3 v o fh K G) (kx K G) := rfl
theorem kSc3_eq {fh : MO} {v o : D} {l : Option Int} : kSc3 v o fh K G l S = wpE fh G S (kSc4 v o l K G) (kx K G) := rfl
theorem kSc4_ref {n m : Nat} {i j : Int} : kSc4 (.ref m) (.ref n) (some i) K G (some j) S = kLsO S[n]? (fun xs => kLsO S[m]? (fun ys => (n ≠ m ∧ 0 ≤ i ∧ i ≤ j ∧ j ≤ xs.length ∧ xs.length + ys.length ≤ SZ) ∧ K.nx G (S.set n (.lst (xs.take i.toNat ++ ys ++ xs.drop j.toNat))))) := by
  unfold kSc4 putSl kLsO
  dsimp only
  cases S[n]? with
  | none => rfl
  | some o1 =>
    cases S[m]? with
    | none => cases o1 <;> rfl
    | some o2 =>
      cases o1 <;> cases o2 <;> first | rfl | skip
      rename_i xs ys
      dsimp only
      by_cases c : n ≠ m ∧ 0 ≤ i ∧ i ≤ j ∧ j ≤ (xs.length : Int) ∧ xs.length + ys.length ≤ SZ
      · rw [if_pos c]
        simp only [eq_iff_iff]
        exact ⟨fun z => ⟨c, z⟩, fun z => z.2⟩
      · rw [if_neg c]
        simp only [eq_iff_iff, false_iff]
        exact fun z => c z.1
end
/-! ### range as a value -/
def rgB (a b : Int) : Bool := lim62 a && (lim62 b && decide ((b - a).toNat ≤ SZ))
def mTupR : D → D → C D := fun a b S => match a, b with | .int i, .int j => if rgB i j = true then .ok (.tup (rngD i 1 (j - i).toNat)) S else .bad | _, _ => .bad
def mLstR : D → D → C D := fun a b S => match a, b with | .int i, .int j => if rgB i j = true then allocO (.lst (rngD i 1 (j - i).toNat)) S else .bad | _, _ => .bad
theorem rgB_ok {a b : Int} (h : rgB a b = true) : RgOk a b := by
  simp only [rgB, lim62, Bool.and_eq_true, decide_eq_true_eq] at h
  unfold SZ at h
  exact ⟨by omega, by omega, by omega, by omega, by omega⟩
theorem rng_vals {K : PySem.W.Frag} {ρ : List Addr} {H : Hp} {a b : Int} : VRs K ρ H (rngD a 1 (b - a).toNat) (rgV a b) := by
  have e1 : rngD a 1 (b - a).toNat = ((List.range (b - a).toNat).map fun i : Nat => a + (i : Int)).map D.int := by
    unfold rngD
    rw [List.map_map]
    refine List.map_congr_left fun i _ => ?_
    show D.int (a + (i : Int) * 1) = D.int (a + (i : Int))
    rw [Int.mul_one]
  have e2 : rgV a b = ((List.range (b - a).toNat).map fun i : Nat => a + (i : Int)).map V.int := by
    unfold rgV
    rw [List.map_map]
    rfl
  rw [e1, e2]
  exact .of_ints _
section
variable {X : Cx} {W : WX} {a b : Expr} {fa fb : ME} {pos p p1 p2 : Pos}
theorem de_tupR2 (hc : X.calm = true) (hg : Gl X "tuple") (hm : X.mg "tuple" = none) (hg2 : Gl X "range") (hm2 : X.mg "range" = none) (ha : DE X W a fa) (hb : DE X W b fb)
    (na : starEach [a, b] X.env = (false, eval a X.env) :: starEach [b] X.env := by rfl) (nb : starEach [b] X.env = (false, eval b X.env) :: starEach [] X.env := by rfl) (hp : (backTo p1 (starEach [b] X.env)).any (·.1) = false := by rfl)
    (ne : starEach [.Call (.Name "range" p2) [a, b] [] p1] X.env = (false, eval (.Call (.Name "range" p2) [a, b] [] p1) X.env) :: starEach [] X.env := by rfl) :
    DE X W (.Call (.Name "tuple" p) [.Call (.Name "range" p2) [a, b] [] p1] [] pos) (e2 mTupR fa fb) :=
  PE.weak (pe_tupRg hc hg hm (prg_2 hg2 hm2 ha hb na nb hp) ne) fun σ H Q h => two (r := fun x y H Q => ∃ i j, x = .int i ∧ y = .int j ∧ (RgOk i j ∧ ∀ q, H q = none → Q (.ref q) (upd H q (.tup (rgV i j))))) (fun ρ S H σ d e x y Q s r1 r2 o => by
    unfold mTupR at o
    split at o
    · split at o
      · rename_i i j c
        exact ⟨i, j, VR_int.mp r1, VR_int.mp r2, rgB_ok c, new_tup s o rng_vals⟩
      · exact o.elim
    · exact o.elim) h
theorem de_tupR1 (hc : X.calm = true) (hg : Gl X "tuple") (hm : X.mg "tuple" = none) (hg2 : Gl X "range") (hm2 : X.mg "range" = none) (ha : DE X W a fa)
    (na : starEach [a] X.env = (false, eval a X.env) :: starEach [] X.env := by rfl) (ne : starEach [.Call (.Name "range" p2) [a] [] p1] X.env = (false, eval (.Call (.Name "range" p2) [a] [] p1) X.env) :: starEach [] X.env := by rfl) :
    DE X W (.Call (.Name "tuple" p) [.Call (.Name "range" p2) [a] [] p1] [] pos) (e1 (mTupR (.int 0)) fa) :=
  PE.weak (pe_tupRg hc hg hm (prg_1 hg2 hm2 ha na) ne) fun σ H Q h => one (r := fun x H Q => ∃ j, x = .int j ∧ (RgOk 0 j ∧ ∀ q, H q = none → Q (.ref q) (upd H q (.tup (rgV 0 j))))) (fun ρ S H σ d x Q s r1 o => by
    unfold mTupR at o
    split at o
    · rename_i i j k
      cases k
      split at o
      · rename_i c
        exact ⟨_, VR_int.mp r1, rgB_ok c, new_tup s o rng_vals⟩
      · exact o.elim
    · exact o.elim) h
theorem de_lstR2 (hc : X.calm = true) (hg : Gl X "list") (hm : X.mg "list" = none) (hg2 : Gl X "range") (hm2 : X.mg "range" = none) (ha : DE X W a fa) (hb : DE X W b fb)
    (na : starEach [a, b] X.env = (false, eval a X.env) :: starEach [b] X.env := by rfl) (nb : starEach [b] X.env = (false, eval b X.env) :: starEach [] X.env := by rfl) (hp : (backTo p1 (starEach [b] X.env)).any (·.1) = false := by rfl)
    (ne : starEach [.Call (.Name "range" p2) [a, b] [] p1] X.env = (false, eval (.Call (.Name "range" p2) [a, b] [] p1) X.env) :: starEach [] X.env := by rfl) :
    DE X W (.Call (.Name "list" p) [.Call (.Name "range" p2) [a, b] [] p1] [] pos) (e2 mLstR fa fb) :=
  PE.weak (pe_listRg hc hg hm (prg_2 hg2 hm2 ha hb na nb hp) ne) fun σ H Q h => two (r := fun x y H Q => ∃ i j, x = .int i ∧ y = .int j ∧ (RgOk i j ∧ ∀ q, H q = none → Q (.ref q) (upd H q (.lst (rgV i j))))) (fun ρ S H σ d e x y Q s r1 r2 o => by
    unfold mLstR at o
    split at o
    · split at o
      · rename_i i j c
        exact ⟨i, j, VR_int.mp r1, VR_int.mp r2, rgB_ok c, alloc_lst s o rng_vals⟩
      · exact o.elim
    · exact o.elim) h
theorem de_lstR1 (hc : X.calm = true) (hg : Gl X "list") (hm : X.mg "list" = none) (hg2 : Gl X "range") (hm2 : X.mg "range" = none) (ha : DE X W a fa)
    (na : starEach [a] X.env = (false, eval a X.env) :: starEach [] X.env := by rfl) (ne : starEach [.Call (.Name "range" p2) [a] [] p1] X.env = (false, eval (.Call (.Name "range" p2) [a] [] p1) X.env) :: starEach [] X.env := by rfl) :
    DE X W (.Call (.Name "list" p) [.Call (.Name "range" p2) [a] [] p1] [] pos) (e1 (mLstR (.int 0)) fa) :=
  PE.weak (pe_listRg hc hg hm (prg_1 hg2 hm2 ha na) ne) fun σ H Q h => one (r := fun x H Q => ∃ j, x = .int j ∧ (RgOk 0 j ∧ ∀ q, H q = none → Q (.ref q) (upd H q (.lst (rgV 0 j))))) (fun ρ S H σ d x Q s r1 o => by
    unfold mLstR at o
    split at o
    · rename_i i j k
      cases k
      split at o
      · rename_i c
        exact ⟨_, VR_int.mp r1, rgB_ok c, alloc_lst s o rng_vals⟩
      · exact o.elim
    · exact o.elim) h
variable {Q : D → ST → Prop} {XX : XQ} {S : ST} {i j : Int}
theorem r_tupR2 : wpR (mTupR (.int i) (.int j) S) Q XX = (rgB i j = true ∧ Q (.tup (rngD i 1 (j - i).toNat)) S) := wp_ite
theorem r_lstR2 : wpR (mLstR (.int i) (.int j) S) Q XX = (rgB i j = true ∧ Q (.ref S.length) (S ++ [.lst (rngD i 1 (j - i).toNat)])) := wp_ite
theorem rgB_of (h0 : -4611686018427387904 ≤ i) (h1 : i < 4611686018427387904) (h2 : -4611686018427387904 ≤ j) (h3 : j < 4611686018427387904) (h4 : (j - i).toNat ≤ SZ) : rgB i j = true := by
  unfold rgB
  rw [lim62_of h0 h1, lim62_of h2 h3, decide_eq_true h4]
  rfl
end
end Mir

namespace Mir
open PySem L2 PyProof.Rows
/-! ### layouts: a place of the store for each tag -/
structure Lay {τ : Type} (F : List Nat) (S : ST) (A : τ → Nat) (c : τ → Option O) : Prop where
  at_ : ∀ t o, c t = some o → S[A t]? = some o
  inj : ∀ t u o o', c t = some o → c u = some o' → A t = A u → t = u
  av : ∀ t o, c t = some o → A t ∉ F
section
variable {τ : Type} {F : List Nat} {S : ST} {A : τ → Nat} {c : τ → Option O}
theorem Lay.get (L : Lay F S A c) {t : τ} {o : O} (h : c t = some o) : S[A t]? = some o := L.at_ t o h
theorem Lay.ne (L : Lay F S A c) {t u : τ} {o o' : O} (h : c t = some o) (h' : c u = some o') (hn : t ≠ u) : A t ≠ A u := fun e => hn (L.inj t u o o' h h' e)
theorem Lay.app (L : Lay F S A c) (T : ST) : Lay F (S ++ T) A c :=
  ⟨fun t o h => by rw [List.getElem?_append_left (lt_of_get (L.at_ t o h))]; exact L.at_ t o h, L.inj, L.av⟩
theorem Lay.set (L : Lay F S A c) {t : τ} {o o0 : O} {c' : τ → Option O} (h : c t = some o0) (h' : c' t = some o) (hc : ∀ u, u ≠ t → c' u = c u) : Lay F (S.set (A t) o) A c' := by
  have hs : ∀ u x, c' u = some x → ∃ y, c u = some y := fun u x e => by
    by_cases z : u = t
    · subst z; exact ⟨o0, h⟩
    · rw [hc u z] at e; exact ⟨x, e⟩
  refine ⟨fun u x e => ?_, fun u v x y e1 e2 e3 => ?_, fun u x e => ?_⟩
  · by_cases z : u = t
    · subst z
      rw [h'] at e
      cases e
      exact set_same (lt_of_get (L.at_ u o0 h))
    · rw [hc u z] at e
      rw [set_get' (fun q => z (L.inj t u o0 x h e q).symm)]
      exact L.at_ u x e
  · obtain ⟨x', e1⟩ := hs u x e1
    obtain ⟨y', e2⟩ := hs v y e2
    exact L.inj u v x' y' e1 e2 e3
  · obtain ⟨x', e1⟩ := hs u x e
    exact L.av u x' e1
/-- all places but the forbidden ones stand as before -/
theorem Lay.fr (L : Lay F S A c) {S' : ST} (h : ∀ i, i ∉ F → i < S.length → S'[i]? = S[i]?) : Lay F S' A c :=
  ⟨fun t o e => by rw [h _ (L.av t o e) (lt_of_get (L.at_ t o e))]; exact L.at_ t o e, L.inj, L.av⟩
/-- other places than those of the layout were changed -/
theorem Lay.keep (L : Lay F S A c) {S' : ST} (h : ∀ t o, c t = some o → S'[A t]? = S[A t]?) : Lay F S' A c :=
  ⟨fun t o e => by rw [h t o e]; exact L.at_ t o e, L.inj, L.av⟩
theorem Lay.lt (L : Lay F S A c) {t : τ} {o : O} (h : c t = some o) : A t < S.length := lt_of_get (L.at_ t o h)
/-- new places: c' differs from c where A does, and those are fresh -/
theorem Lay.renew (L : Lay F S A c) {S' : ST} {A' : τ → Nat} {c' : τ → Option O} (N : τ → Prop) (hl : ∀ i ∈ F, i < S.length)
    (hold : ∀ t o, ¬ N t → c' t = some o → A' t = A t ∧ S'[A t]? = some o ∧ ∃ o0, c t = some o0)
    (hnew : ∀ t o, N t → c' t = some o → S.length ≤ A' t ∧ S'[A' t]? = some o) (hni : ∀ t u o o', N t → N u → c' t = some o → c' u = some o' → A' t = A' u → t = u) : Lay F S' A' c' := by
  classical
  refine ⟨fun t o e => ?_, fun t u o o' e1 e2 e3 => ?_, fun t o e => ?_⟩
  · by_cases z : N t
    · exact (hnew t o z e).2
    · rw [(hold t o z e).1]; exact (hold t o z e).2.1
  · by_cases z : N t
    · by_cases y : N u
      · exact hni t u o o' z y e1 e2 e3
      · obtain ⟨h1, _, o0, h3⟩ := hold u o' y e2
        have := L.lt h3
        have := (hnew t o z e1).1
        omega
    · obtain ⟨h1, _, o0, h3⟩ := hold t o z e1
      by_cases y : N u
      · have := L.lt h3
        have := (hnew u o' y e2).1
        omega
      · obtain ⟨g1, _, o1, g3⟩ := hold u o' y e2
        exact L.inj t u o0 o1 h3 g3 (by rw [← h1, ← g1]; exact e3)
  · by_cases z : N t
    · have := (hnew t o z e).1
      intro h
      have := hl _ h
      omega
    · obtain ⟨h1, _, o0, h3⟩ := hold t o z e
      rw [h1]
      exact L.av t o0 h3
end
theorem Frm.lay {τ : Type} {F L : List Nat} {S S' : ST} {A : τ → Nat} {c : τ → Option O} (f : Frm L S S') (l : Lay F S A c) (h : ∀ t o, c t = some o → A t ∉ L) : Lay F S' A c :=
  l.keep fun t o e => f.eq _ (h t o e) (l.lt e)
theorem set_app_lt {α : Type} {S T : List α} {n : Nat} {o : α} (h : n < S.length) : (S ++ T).set n o = S.set n o ++ T := List.set_append_left _ _ h
theorem get_appE0 {α : Type} {S T : List α} {n : Nat} (h : S.length = n) : (S ++ T)[n]? = T[0]? := by subst h; exact get_app0
theorem get_appE {α : Type} {S T : List α} {n k : Nat} (h : S.length = n) : (S ++ T)[n + k]? = T[k]? := by subst h; exact get_app
theorem set_appE0 {α : Type} {S T : List α} {n : Nat} {o : α} (h : S.length = n) : (S ++ T).set n o = S ++ T.set 0 o := by subst h; exact set_app0
theorem set_appE {α : Type} {S T : List α} {n k : Nat} {o : α} (h : S.length = n) : (S ++ T).set (n + k) o = S ++ T.set k o := by subst h; exact set_app
/-- only more at the end -/
def Ex (S S1 : ST) : Prop := ∃ T, S1 = S ++ T
theorem Ex.refl (S : ST) : Ex S S := ⟨[], by simp⟩
theorem Ex.app {S S1 : ST} (e : Ex S S1) (T : ST) : Ex S (S1 ++ T) := by obtain ⟨U, rfl⟩ := e; exact ⟨U ++ T, by simp⟩
theorem Ex.trans {S S1 S2 : ST} (e : Ex S S1) (f : Ex S1 S2) : Ex S S2 := by obtain ⟨U, rfl⟩ := f; exact e.app U
theorem Ex.get {S S1 : ST} (e : Ex S S1) {i : Nat} {o : O} (h : S[i]? = some o) : S1[i]? = some o := by obtain ⟨U, rfl⟩ := e; rw [List.getElem?_append_left (lt_of_get h)]; exact h
theorem Ex.fr {S S1 : ST} (e : Ex S S1) (iw : Nat) : Frm [] S S1 := by obtain ⟨U, rfl⟩ := e; exact .app _ _ _
theorem Ex.le {S S1 : ST} (e : Ex S S1) : S.length ≤ S1.length := by obtain ⟨U, rfl⟩ := e; simp
theorem Ex.use {S S1 : ST} (e : Ex S S1) {P : ST → Prop} (k : ∀ T, P (S ++ T)) : P S1 := by obtain ⟨U, rfl⟩ := e; exact k U
theorem Ex.lay {τ : Type} {F : List Nat} {S S1 : ST} {A : τ → Nat} {c : τ → Option O} (e : Ex S S1) (l : Lay F S A c) : Lay F S1 A c := by obtain ⟨U, rfl⟩ := e; exact l.app U
open Classical in
theorem Lay.put {τ : Type} {F : List Nat} {S : ST} {A : τ → Nat} {c : τ → Option O} (L : Lay F S A c) {t : τ} {o o0 : O} (h : c t = some o0) : Lay F (S.set (A t) o) A (fun u => if u = t then some o else c u) :=
  L.set h (by rw [if_pos rfl]) fun u hu => by rw [if_neg hu]
theorem Lay.eqc {τ : Type} {F : List Nat} {S : ST} {A : τ → Nat} {c c' : τ → Option O} (L : Lay F S A c) (h : ∀ t, c' t = c t) : Lay F S A c' := by
  have : c' = c := funext h
  rw [this]; exact L
end Mir

namespace Pf
open PySem L2 PyProof.Rows Mir
def top (i : Nat) : Stmt := PySem.Challenge.pw_nowhisper_k42_pages_in_frames_and_at_hom.main.body.getD i (.Pass ⟨0, 0, 0, 0⟩)
def cD_PAGE : D := .int 16
/-! ### the mirror -/
@[irreducible] noncomputable def b__law_draws : MS :=
 (sSeq (sSet 2 (eLst aNil))
 (sSeq (sSet 3 (eC (.int 7)))
 (sSeq (sFor (iSeq (eV 0)) (.nm 4)
 (sSeq (sSet 5 (eCall bAbs (aCons (eCall bInt (aCons (eV 4) aNil)) aNil)))
 (sSeq (sSet 3 (e2 mMod (eCall bInt (aCons (e2 mAdd (e2 mAdd (e2 mMul (eV 3) (eC (.int 48271))) (eV 5)) (eC (.int 1))) aNil)) (eC (.int 2147483647))))
 (sSeq (sIf (tb (e2 mLt (eV 5) (e2 mPow (eC (.int 10)) (eC (.int 18)))))
 (sSeq (sExpr (eBm "list" bAppend (eV 2) (aCons (e2 mMod (eCall bInt (aCons (eV 5) aNil)) (eC (.int 997))) aNil)))
 (sSeq (sExpr (eBm "list" bAppend (eV 2) (aCons (e2 mMod (eCall bInt (aCons (eV 3) aNil)) (eC (.int 65521))) aNil)))
 (sSet 5 (eC (.int 0)))))
 sNil)
 (sFor (iRg1 (aCons (eC (.int 60)) aNil)) (.nm 6)
 (sIf (tb (e2 mGt (eV 5) (eC (.int 0))))
 (sSeq (sExpr (eBm "list" bAppend (eV 2) (aCons (e2 mMod (eCall bInt (aCons (eV 5) aNil)) (eC (.int 997))) aNil)))
 (sSet 5 (e2 mFDiv (eV 5) (eC (.int 997)))))
 sNil))))))
 (sSeq (sFor (iRg1 (aCons (eV 1) aNil)) (.nm 6)
 (sSeq (sSet 3 (e2 mMod (eCall bInt (aCons (e2 mAdd (e2 mMul (eV 3) (eC (.int 48271))) (eC (.int 69621))) aNil)) (eC (.int 2147483647))))
 (sExpr (eBm "list" bAppend (eV 2) (aCons (e2 mFDiv (eV 3) (eC (.int 5))) aNil)))))
 (sRet (eV 2))))))
@[irreducible] noncomputable def m__law_draws : Fn := mkFn 2 5 b__law_draws
theorem mLen__law_draws : ∀ ds S, ds.length ≠ 2 → m__law_draws ds S = .bad := fun ds S h => by unfold m__law_draws; exact mkFn_len ds S h
@[irreducible] noncomputable def b__law_next : MS :=
 (sSeq (sPutAug mIAdd (eV 0) (eC (.str "at")) (eC (.int 1)))
 (sSeq (sIf (tb (e2 mGt (e2 mIx (eV 0) (eC (.str "at"))) (eCall bLen (aCons (e2 mIx (eV 0) (eC (.str "draws"))) aNil))))
 (sRet (eC (.int 0)))
 sNil)
 (sRet (e2 mMod (eCall bInt (aCons (e2 mIx (e2 mIx (eV 0) (eC (.str "draws"))) (e2 mSub (e2 mIx (eV 0) (eC (.str "at"))) (eC (.int 1)))) aNil)) (eV 1)))))
@[irreducible] noncomputable def m__law_next : Fn := mkFn 2 0 b__law_next
theorem mLen__law_next : ∀ ds S, ds.length ≠ 2 → m__law_next ds S = .bad := fun ds S h => by unfold m__law_next; exact mkFn_len ds S h
@[irreducible] noncomputable def b__law_word : MS :=
 (sSeq (sSet 1 (eFn 2 m__law_next (aCons (eV 0) (aCons (e2 mShl (eC (.int 1)) (eC (.int 30))) aNil))))
 (sRet (e2 mIx (eLst (aCons (eC (.int 0)) (aCons (eC (.int 1)) (aCons (eC (.int 4294967295)) (aCons (e2 mMod (eCall bInt (aCons (eV 1) aNil)) (eC (.int 997))) (aCons (e2 mAdd (e2 mMul (eC (.int 4)) (eV 1)) (eC (.int 3))) aNil)))))) (e2 mMod (eCall bInt (aCons (e2 mFDiv (eV 1) (eC (.int 997))) aNil)) (eC (.int 5))))))
@[irreducible] noncomputable def m__law_word : Fn := mkFn 1 1 b__law_word
theorem mLen__law_word : ∀ ds S, ds.length ≠ 1 → m__law_word ds S = .bad := fun ds S h => by unfold m__law_word; exact mkFn_len ds S h
@[irreducible] noncomputable def b__law_frame : MS :=
 (sSeq (sFor (iSeq (e2 mIx (eV 0) (eC (.str "came")))) (.tp [2, 3])
 (sIf (tb (e2 mEq (eV 2) (eV 1)))
 (sRet (eV 3))
 sNil))
 (sRet (eC .non)))
@[irreducible] noncomputable def m__law_frame : Fn := mkFn 2 2 b__law_frame
theorem mLen__law_frame : ∀ ds S, ds.length ≠ 2 → m__law_frame ds S = .bad := fun ds S h => by unfold m__law_frame; exact mkFn_len ds S h
@[irreducible] noncomputable def b_Pages___init__ : MS :=
 (sSeq (Mir.sFld ["Pages"] "home" (eV 0) (eCall bList (aCons (eV 1) aNil)))
 (sSeq (Mir.sFld ["Pages"] "frames" (eV 0) (eCall bTuple (aCons (eV 2) aNil)))
 (Mir.sFld ["Pages"] "came" (eV 0) (eLst aNil))))
@[irreducible] noncomputable def m_Pages___init__ : Fn := mkFn 3 0 b_Pages___init__
theorem mLen_Pages___init__ : ∀ ds S, ds.length ≠ 3 → m_Pages___init__ ds S = .bad := fun ds S h => by unfold m_Pages___init__; exact mkFn_len ds S h
noncomputable def m__law_same : Nat → Fn
  | 0 => mBad
  | n + 1 => mkFn 2 1 ((sSeq (sIf (tb (e2 mIs (eV 1) (eC .non)))
 (sRet (e2 mIs (eV 0) (eC .non)))
 sNil)
 (sSeq (sIf (Mir.tOr (tTru (eCall bIsi (aCons (eV 1) (aCons (eC (.opq (.ty "tuple"))) aNil)))) (tTru (eCall bIsi (aCons (eV 1) (aCons (eC (.opq (.ty "list"))) aNil)))))
 (sSeq (sIf (Mir.tOr (tb (e2 mNe (eCall bIsi (aCons (eV 1) (aCons (eC (.opq (.ty "tuple"))) aNil))) (eCall bIsi (aCons (eV 0) (aCons (eC (.opq (.ty "tuple"))) aNil))))) (tb (e2 mNe (eCall bIsi (aCons (eV 1) (aCons (eC (.opq (.ty "list"))) aNil))) (eCall bIsi (aCons (eV 0) (aCons (eC (.opq (.ty "list"))) aNil))))))
 (sRet (eC (.bl false)))
 sNil)
 (sSeq (sIf (tb (e2 mNe (eCall bLen (aCons (eV 0) aNil)) (eCall bLen (aCons (eV 1) aNil))))
 (sRet (eC (.bl false)))
 sNil)
 (sSeq (sFor (iRg1 (aCons (eCall bLen (aCons (eV 1) aNil)) aNil)) (.nm 2)
 (sIf (Mir.tNot (tTru (eFn 2 (m__law_same n) (aCons (e2 mIx (eV 0) (eV 2)) (aCons (e2 mIx (eV 1) (eV 2)) aNil)))))
 (sRet (eC (.bl false)))
 sNil))
 (sRet (eC (.bl true))))))
 sNil)
 (sSeq (sIf (tb (e2 mNe (eCall bIsi (aCons (eV 1) (aCons (eC (.opq (.ty "bool"))) aNil))) (eCall bIsi (aCons (eV 0) (aCons (eC (.opq (.ty "bool"))) aNil)))))
 (sRet (eC (.bl false)))
 sNil)
 (sSeq (sIf (Mir.tOr (tb (e2 mNe (eCall bIsi (aCons (eV 1) (aCons (eC (.opq (.ty "int"))) aNil))) (eCall bIsi (aCons (eV 0) (aCons (eC (.opq (.ty "int"))) aNil))))) (tb (e2 mNe (eCall bIsi (aCons (eV 1) (aCons (eC (.opq (.ty "str"))) aNil))) (eCall bIsi (aCons (eV 0) (aCons (eC (.opq (.ty "str"))) aNil))))))
 (sRet (eC (.bl false)))
 sNil)
 (sRet (e2 mEq (eV 0) (eV 1))))))))
theorem mLen__law_same {n : Nat} : ∀ ds S, ds.length ≠ 2 → m__law_same n ds S = .bad := fun ds S h => by cases n with | zero => (unfold m__law_same; rfl) | succ n => (unfold m__law_same; exact mkFn_len ds S h)
@[irreducible] noncomputable def b__law_words : MS :=
 (sSeq (sSet 2 (eLst aNil))
 (sSeq (sFor (iRg1 (aCons (e2 mFDiv (eCall bLen (aCons (e2 mIx (eV 0) (eC (.str "home"))) aNil)) (eC (.int 16))) aNil)) (.nm 3)
 (sSeq (sSet 4 (eFn 2 m__law_frame (aCons (eV 0) (aCons (eV 3) aNil))))
 (sIf (tb (e2 mIs (eV 4) (eC .non)))
 (sSet 2 (e2 mAdd (eV 2) (eSl (e2 mIx (eV 0) (eC (.str "home"))) (oSome (e2 mMul (eC (.int 16)) (eV 3))) (oSome (e2 mAdd (e2 mMul (eC (.int 16)) (eV 3)) (eC (.int 16)))))))
 (sSet 2 (e2 mAdd (eV 2) (eSl (eV 1) (oSome (e2 mMul (eC (.int 16)) (eV 4))) (oSome (e2 mAdd (e2 mMul (eC (.int 16)) (eV 4)) (eC (.int 16))))))))))
 (sRet (eCall bTuple (aCons (eV 2) aNil)))))
@[irreducible] noncomputable def m__law_words : Fn := mkFn 2 3 b__law_words
theorem mLen__law_words : ∀ ds S, ds.length ≠ 2 → m__law_words ds S = .bad := fun ds S h => by unfold m__law_words; exact mkFn_len ds S h
@[irreducible] noncomputable def b_Pages_frame_of : MS :=
 (sSeq (sSet 2 (eLc (iSeq (e1 (mFld ["Pages"] "came") (eV 0))) (.tp [3, 4]) (tb (e2 mEq (eV 3) (eV 1))) (eV 4) [3, 4]))
 (sRet (eIf (tb (e2 mNe (eV 2) (eLst aNil))) (e2 mIx (eV 2) (eC (.int 0))) (eC .non))))
@[irreducible] noncomputable def m_Pages_frame_of : Fn := mkFn 2 3 b_Pages_frame_of
theorem mLen_Pages_frame_of : ∀ ds S, ds.length ≠ 2 → m_Pages_frame_of ds S = .bad := fun ds S h => by unfold m_Pages_frame_of; exact mkFn_len ds S h
@[irreducible] noncomputable def b_Pages_word : MS :=
 (sSeq (sSet 3 (eMeth "frame_of" [("Pages", m_Pages_frame_of)] (eV 0) (aCons (e2 mFDiv (eV 1) (eC cD_PAGE)) aNil)))
 (sSeq (sIf (tb (e2 mIs (eV 3) (eC .non)))
 (sRet (e2 mIx (e1 (mFld ["Pages"] "home") (eV 0)) (eV 1)))
 sNil)
 (sRet (e2 mIx (eV 2) (e2 mAdd (e2 mMul (eV 3) (eC cD_PAGE)) (e2 mMod (eV 1) (eC cD_PAGE)))))))
@[irreducible] noncomputable def m_Pages_word : Fn := mkFn 3 1 b_Pages_word
theorem mLen_Pages_word : ∀ ds S, ds.length ≠ 3 → m_Pages_word ds S = .bad := fun ds S h => by unfold m_Pages_word; exact mkFn_len ds S h
@[irreducible] noncomputable def b_Pages_words : MS :=
 (sRet (eCall bTuple (aCons (eLc (iRg1 (aCons (eCall bLen (aCons (e1 (mFld ["Pages"] "home") (eV 0)) aNil)) aNil)) (.nm 2) tYesM (eMeth "word" [("Pages", m_Pages_word)] (eV 0) (aCons (eV 2) (aCons (eV 1) aNil))) [2]) aNil)))
@[irreducible] noncomputable def m_Pages_words : Fn := mkFn 2 1 b_Pages_words
theorem mLen_Pages_words : ∀ ds S, ds.length ≠ 2 → m_Pages_words ds S = .bad := fun ds S h => by unfold m_Pages_words; exact mkFn_len ds S h
@[irreducible] noncomputable def b__law_is_kept : MS :=
 (sSeq (sSet 5 (eFn 2 m__law_words (aCons (eV 2) (aCons (eV 4) aNil))))
 (sSeq (sIf (Mir.tOr (tb (e2 mNe (eV 3) (eV 4))) (Mir.tNot (tTru (eFn 2 (m__law_same 40) (aCons (eMeth "words" [("Pages", m_Pages_words)] (eV 1) (aCons (eV 3) aNil)) (aCons (eV 5) aNil))))))
 (sRet (eC (.bl false)))
 sNil)
 (sSeq (sFor (iRg1 (aCons (e2 mFDiv (eCall bLen (aCons (e2 mIx (eV 2) (eC (.str "home"))) aNil)) (eC (.int 16))) aNil)) (.nm 6)
 (sIf (Mir.tNot (tTru (eFn 2 (m__law_same 40) (aCons (eMeth "frame_of" [("Pages", m_Pages_frame_of)] (eV 1) (aCons (eV 6) aNil)) (aCons (eFn 2 m__law_frame (aCons (eV 2) (aCons (eV 6) aNil))) aNil)))))
 (sRet (eC (.bl false)))
 sNil))
 (sSeq (sFor (iRg1 (aCons (eC (.int 3)) aNil)) (.nm 7)
 (sSeq (sSet 8 (eFn 2 m__law_next (aCons (eV 0) (aCons (eCall bLen (aCons (eV 5) aNil)) aNil))))
 (sIf (Mir.tNot (tTru (eFn 2 (m__law_same 40) (aCons (eMeth "word" [("Pages", m_Pages_word)] (eV 1) (aCons (eV 8) (aCons (eV 3) aNil))) (aCons (e2 mIx (eV 5) (eV 8)) aNil)))))
 (sRet (eC (.bl false)))
 sNil)))
 (sRet (eC (.bl true)))))))
@[irreducible] noncomputable def m__law_is_kept : Fn := mkFn 5 4 b__law_is_kept
theorem mLen__law_is_kept : ∀ ds S, ds.length ≠ 5 → m__law_is_kept ds S = .bad := fun ds S h => by unfold m__law_is_kept; exact mkFn_len ds S h
@[irreducible] noncomputable def b_Pages_bring : MS :=
 (sSeq (sSet 3 (eC .non))
 (sSeq (sIf (tb (e2 mLt (eCall bLen (aCons (e1 (mFld ["Pages"] "came") (eV 0)) aNil)) (eCall bLen (aCons (e1 (mFld ["Pages"] "frames") (eV 0)) aNil))))
 (sSet 4 (e2 mIx (e1 (mFld ["Pages"] "frames") (eV 0)) (eCall bLen (aCons (e1 (mFld ["Pages"] "came") (eV 0)) aNil))))
 (sSeq (sSetT (.tp [3, 4]) (eBm "list" bPopAt (e1 (mFld ["Pages"] "came") (eV 0)) (aCons (eC (.int 0)) aNil)))
 (sSlc (e1 (mFld ["Pages"] "home") (eV 0)) (oSome (e2 mMul (eV 3) (eC cD_PAGE))) (oSome (e2 mAdd (e2 mMul (eV 3) (eC cD_PAGE)) (eC cD_PAGE))) (eSl (eV 2) (oSome (e2 mMul (eV 4) (eC cD_PAGE))) (oSome (e2 mAdd (e2 mMul (eV 4) (eC cD_PAGE)) (eC cD_PAGE)))))))
 (sSeq (sSlc (eV 2) (oSome (e2 mMul (eV 4) (eC cD_PAGE))) (oSome (e2 mAdd (e2 mMul (eV 4) (eC cD_PAGE)) (eC cD_PAGE))) (eSl (e1 (mFld ["Pages"] "home") (eV 0)) (oSome (e2 mMul (eV 1) (eC cD_PAGE))) (oSome (e2 mAdd (e2 mMul (eV 1) (eC cD_PAGE)) (eC cD_PAGE)))))
 (sSeq (sExpr (eBm "list" bAppend (e1 (mFld ["Pages"] "came") (eV 0)) (aCons (eTup (aCons (eV 1) (aCons (eV 4) aNil))) aNil)))
 (sRet (eTup (aCons (eV 4) (aCons (eV 3) aNil))))))))
@[irreducible] noncomputable def m_Pages_bring : Fn := mkFn 3 2 b_Pages_bring
theorem mLen_Pages_bring : ∀ ds S, ds.length ≠ 3 → m_Pages_bring ds S = .bad := fun ds S h => by unfold m_Pages_bring; exact mkFn_len ds S h
@[irreducible] noncomputable def b__law_bring : MS :=
 (sSeq (sSet 3 (eC .non))
 (sSeq (sIf (tb (e2 mLt (eCall bLen (aCons (e2 mIx (eV 0) (eC (.str "came"))) aNil)) (eCall bLen (aCons (e2 mIx (eV 0) (eC (.str "frames"))) aNil))))
 (sSet 4 (e2 mIx (e2 mIx (eV 0) (eC (.str "frames"))) (eCall bLen (aCons (e2 mIx (eV 0) (eC (.str "came"))) aNil))))
 (sSeq (sSetT (.tp [3, 4]) (eBm "list" bPopAt (e2 mIx (eV 0) (eC (.str "came"))) (aCons (eC (.int 0)) aNil)))
 (sFor (iRg1 (aCons (eC (.int 16)) aNil)) (.nm 5)
 (sPut (e2 mIx (eV 0) (eC (.str "home"))) (e2 mAdd (e2 mMul (eC (.int 16)) (eV 3)) (eV 5)) (e2 mIx (eV 2) (e2 mAdd (e2 mMul (eC (.int 16)) (eV 4)) (eV 5)))))))
 (sSeq (sFor (iRg1 (aCons (eC (.int 16)) aNil)) (.nm 5)
 (sPut (eV 2) (e2 mAdd (e2 mMul (eC (.int 16)) (eV 4)) (eV 5)) (e2 mIx (e2 mIx (eV 0) (eC (.str "home"))) (e2 mAdd (e2 mMul (eC (.int 16)) (eV 1)) (eV 5)))))
 (sSeq (sExpr (eBm "list" bAppend (e2 mIx (eV 0) (eC (.str "came"))) (aCons (eTup (aCons (eV 1) (aCons (eV 4) aNil))) aNil)))
 (sRet (eTup (aCons (eV 4) (aCons (eV 3) aNil))))))))
@[irreducible] noncomputable def m__law_bring : Fn := mkFn 3 3 b__law_bring
theorem mLen__law_bring : ∀ ds S, ds.length ≠ 3 → m__law_bring ds S = .bad := fun ds S h => by unfold m__law_bring; exact mkFn_len ds S h
@[irreducible] noncomputable def b_law : MS :=
 (sSeq (sSet 1 (eDict [((eC (.str "draws")), (eFn 2 m__law_draws (aCons (eV 0) (aCons (eC (.int 700)) aNil)))), ((eC (.str "at")), (eC (.int 0)))]))
 (sSeq (sSet 2 (eLst (aCons (e2 mAdd (eC (.int 2)) (eFn 2 m__law_next (aCons (eV 1) (aCons (eC (.int 3)) aNil)))) (aCons (e2 mAdd (eC (.int 2)) (eFn 2 m__law_next (aCons (eV 1) (aCons (eC (.int 3)) aNil)))) aNil))))
 (sSeq (sSet 3 (e2 mAdd (e2 mAdd (e2 mIx (eV 2) (eC (.int 0))) (e2 mIx (eV 2) (eC (.int 1)))) (eFn 2 m__law_next (aCons (eV 1) (aCons (eC (.int 2)) aNil)))))
 (sSeq (sSet 4 (e2 mAdd (eLc (iRg1 (aCons (eV 3) aNil)) (.nm 8) (tb (e2 mEq (e2 mMod (eCall bInt (aCons (eV 8) aNil)) (eC (.int 2))) (eC (.int 0)))) (eV 8) [8]) (eLc (iRg1 (aCons (eV 3) aNil)) (.nm 8) (tb (e2 mEq (e2 mMod (eCall bInt (aCons (eV 8) aNil)) (eC (.int 2))) (eC (.int 1)))) (eV 8) [8])))
 (sSeq (sSet 5 (eLc (iRg1 (aCons (e2 mMul (eC (.int 16)) (eV 3)) aNil)) (.nm 8) tYesM (eFn 1 m__law_word (aCons (eV 1) aNil)) [8]))
 (sSeq (sSet 6 (eCall bList (aCons (eV 5) aNil)))
 (sSeq (sSet 7 (eLst aNil))
 (sSeq (sFor (iRg1 (aCons (eC (.int 2)) aNil)) (.nm 8)
 (sSeq (sSet 9 (eLc (iRg1 (aCons (e2 mMul (eC (.int 16)) (e2 mAdd (eC (.int 1)) (eFn 2 m__law_next (aCons (eV 1) (aCons (eC (.int 7)) aNil))))) aNil)) (.nm 19) tYesM (eFn 1 m__law_word (aCons (eV 1) aNil)) [19]))
 (sSeq (sSet 10 (eCall bTuple (aCons (eCall bSorted (aCons (e2 mIx (eLst (aCons (eSl (eV 4) oNone (oSome (e2 mIx (eV 2) (eC (.int 0))))) (aCons (eSl (eV 4) (oSome (e2 mIx (eV 2) (eC (.int 0)))) (oSome (e2 mAdd (e2 mIx (eV 2) (eC (.int 0))) (e2 mIx (eV 2) (eC (.int 1)))))) aNil))) (eV 8)) aNil)) aNil)))
 (sExpr (eBm "list" bAppend (eV 7) (aCons (eLst (aCons (eMake "Pages" 3 m_Pages___init__ (aCons (eV 9) (aCons (eV 10) aNil))) (aCons (eDict [((eC (.str "home")), (eCall bList (aCons (eV 9) aNil))), ((eC (.str "frames")), (eV 10)), ((eC (.str "came")), (eLst aNil))]) (aCons (eV 9) (aCons (eCall bTuple (aCons (eV 9) aNil)) aNil))))) aNil))))))
 (sSeq (sFor (iRg1 (aCons (eC (.int 14)) aNil)) (.nm 11)
 (sSeq (sSetT (.tp [12, 13, 9, 14]) (e2 mIx (eV 7) (eFn 2 m__law_next (aCons (eV 1) (aCons (eC (.int 2)) aNil)))))
 (sSeq (sSet 15 (eFn 2 m__law_next (aCons (eV 1) (aCons (e2 mFDiv (eCall bLen (aCons (eV 14) aNil)) (eC (.int 16))) aNil))))
 (sSeq (sSet 16 (eFn 2 m__law_frame (aCons (eV 13) (aCons (eV 15) aNil))))
 (sSeq (sIf (tb (e2 mIs (eV 16) (eC .non)))
 (sIf (Mir.tNot (tTru (eFn 2 (m__law_same 40) (aCons (eMeth "bring" [("Pages", m_Pages_bring)] (eV 12) (aCons (eV 15) (aCons (eV 5) aNil))) (aCons (eFn 3 m__law_bring (aCons (eV 13) (aCons (eV 15) (aCons (eV 6) aNil)))) aNil)))))
 (sRet (eC (.bl false)))
 sNil)
 (sSeq (sSet 17 (e2 mAdd (e2 mMul (eC (.int 16)) (eV 16)) (eFn 2 m__law_next (aCons (eV 1) (aCons (eC (.int 16)) aNil)))))
 (sSeq (sSet 18 (eFn 1 m__law_word (aCons (eV 1) aNil)))
 (sSeq (sPut (eV 5) (eV 17) (eV 18))
 (sPut (eV 6) (eV 17) (eV 18))))))
 (sIf (Mir.tOr (Mir.tNot (tTru (eFn 5 m__law_is_kept (aCons (eV 1) (aCons (eV 12) (aCons (eV 13) (aCons (eV 5) (aCons (eV 6) aNil)))))))) (tb (e2 mNe (eV 9) (eCall bList (aCons (eV 14) aNil)))))
 (sRet (eC (.bl false)))
 sNil))))))
 (sSeq (sFor (iSeq (eV 7)) (.tp [12, 13, 9, 14])
 (sIf (Mir.tOr (Mir.tNot (tTru (eFn 5 m__law_is_kept (aCons (eV 1) (aCons (eV 12) (aCons (eV 13) (aCons (eV 5) (aCons (eV 6) aNil)))))))) (tb (e2 mNe (eV 9) (eCall bList (aCons (eV 14) aNil)))))
 (sRet (eC (.bl false)))
 sNil))
 (sRet (eC (.bl true)))))))))))))
@[irreducible] noncomputable def m_law : Fn := mkFn 1 19 b_law
theorem mLen_law : ∀ ds S, ds.length ≠ 1 → m_law ds S = .bad := fun ds S h => by unfold m_law; exact mkFn_len ds S h
end Pf

namespace Pf
open PySem L2 PyProof.Rows Mir
structure Zs (K : PySem.W.Frag) (mg : Str → Option Value) : Prop where
  z_int : mg "int" = none
  z_abs : mg "abs" = none
  z_range : mg "range" = none
  z_len : mg "len" = none
  z_list : mg "list" = none
  fb_home : BearsK K mg ["Pages"] "home"
  z_tuple : mg "tuple" = none
  fb_frames : BearsK K mg ["Pages"] "frames"
  fb_came : BearsK K mg ["Pages"] "came"
  z_isinstance : mg "isinstance" = none
  z_bool : mg "bool" = none
  z_str : mg "str" = none
  c_PAGE : ConAt K mg "PAGE" cD_PAGE
  z_sorted : mg "sorted" = none
section
variable {P : Program} {w : World} {K : PySem.W.Frag} {mg : Str → Option Value} {base : Heap}
theorem sc__law_draws : FnScope ["script", "many", "draws", "seed", "cell", "number", "k"] ["script", "many"] (defScope (top 4)) := ⟨rfl, rfl, rfl, by decide +kernel, rfl, by decide +kernel, by decide +kernel⟩
theorem ok__law_draws (Z : Zs K mg) (Dx : DefAt K mg "_law_draws" "_law_draws" (top 4) ["script", "many"]) : Okd P w K mg base CX0 1 "_law_draws" 2 m__law_draws := by
  unfold m__law_draws b__law_draws
  exact okd0 (N := ["script", "many", "draws", "seed", "cell", "number", "k"]) (l := 0) Dx sc__law_draws rfl rfl fun f cdv A outer s H E hr =>
 (dss_cons (ds_set (i := 2) sc__law_draws.nd rfl (by first | exact Or.inl rfl | exact Or.inr rfl) (de_lst da_nil))
 (dss_cons (ds_set (i := 3) sc__law_draws.nd rfl (by first | exact Or.inl rfl | exact Or.inr rfl) de_int)
 (dss_cons (ds_for PassesOwn.never rfl (di_seq (de_v 0)) (dg_name (i := 4) sc__law_draws.nd rfl (by first | exact Or.inl rfl | exact Or.inr rfl))
 (dss_cons (ds_set (i := 5) sc__law_draws.nd rfl (by first | exact Or.inl rfl | exact Or.inr rfl) (de_callB bi_abs (by rfl) Z.z_abs bb_abs (da_cons (de_callTy bi_int (by rfl) Z.z_int bb_int (da_cons (de_v 4) da_nil)) da_nil)))
 (dss_cons (ds_set (i := 3) sc__law_draws.nd rfl (by first | exact Or.inl rfl | exact Or.inr rfl) (de_bin op2_mod (de_callTy bi_int (by rfl) Z.z_int bb_int (da_cons (de_bin op2_add (de_bin op2_add (de_bin op2_mul (de_v 3) de_int) (de_v 5)) de_int) da_nil)) de_int))
 (dss_cons (ds_if (dt_cmp op2_lt (de_v 5) (de_bin op2_pow de_int de_int))
 (dss_cons (ds_expr (de_bm bm_append PySem.F.plainAttrs_list PySem.F.slot_list_append PySem.F.type_list_append (de_v 2) (da_cons (de_bin op2_mod (de_callTy bi_int (by rfl) Z.z_int bb_int (da_cons (de_v 5) da_nil)) de_int) da_nil)))
 (dss_cons (ds_expr (de_bm bm_append PySem.F.plainAttrs_list PySem.F.slot_list_append PySem.F.type_list_append (de_v 2) (da_cons (de_bin op2_mod (de_callTy bi_int (by rfl) Z.z_int bb_int (da_cons (de_v 3) da_nil)) de_int) da_nil)))
 (dss_one (ds_set (i := 5) sc__law_draws.nd rfl (by first | exact Or.inl rfl | exact Or.inr rfl) de_int))))
 dss_nil)
 (dss_one (ds_for PassesOwn.never rfl (di_range1 (by rfl) Z.z_range (da_cons de_int da_nil)) (dg_name (i := 6) sc__law_draws.nd rfl (by first | exact Or.inl rfl | exact Or.inr rfl))
 (dss_one (ds_if (dt_cmp op2_gt (de_v 5) de_int)
 (dss_cons (ds_expr (de_bm bm_append PySem.F.plainAttrs_list PySem.F.slot_list_append PySem.F.type_list_append (de_v 2) (da_cons (de_bin op2_mod (de_callTy bi_int (by rfl) Z.z_int bb_int (da_cons (de_v 5) da_nil)) de_int) da_nil)))
 (dss_one (ds_set (i := 5) sc__law_draws.nd rfl (by first | exact Or.inl rfl | exact Or.inr rfl) (de_bin op2_fdiv (de_v 5) de_int))))
 dss_nil))))))))
 (dss_cons (ds_for PassesOwn.never rfl (di_range1 (by rfl) Z.z_range (da_cons (de_v 1) da_nil)) (dg_name (i := 6) sc__law_draws.nd rfl (by first | exact Or.inl rfl | exact Or.inr rfl))
 (dss_cons (ds_set (i := 3) sc__law_draws.nd rfl (by first | exact Or.inl rfl | exact Or.inr rfl) (de_bin op2_mod (de_callTy bi_int (by rfl) Z.z_int bb_int (da_cons (de_bin op2_add (de_bin op2_mul (de_v 3) de_int) de_int) da_nil)) de_int))
 (dss_one (ds_expr (de_bm bm_append PySem.F.plainAttrs_list PySem.F.slot_list_append PySem.F.type_list_append (de_v 2) (da_cons (de_bin op2_fdiv (de_v 3) de_int) da_nil))))))
 (dss_one (ds_ret (de_v 2)))))))
theorem sc__law_next : FnScope ["w", "many"] ["w", "many"] (defScope (top 5)) := ⟨rfl, rfl, rfl, by decide +kernel, rfl, by decide +kernel, by decide +kernel⟩
theorem ok__law_next (Z : Zs K mg) (Dx : DefAt K mg "_law_next" "_law_next" (top 5) ["w", "many"]) : Okd P w K mg base CX0 1 "_law_next" 2 m__law_next := by
  unfold m__law_next b__law_next
  exact okd0 (N := ["w", "many"]) (l := 0) Dx sc__law_next rfl rfl fun f cdv A outer s H E hr =>
 (dss_cons (ds_putAug (hu65 hr) (de_v 0) de_str de_int op2_iadd)
 (dss_cons (ds_if (dt_cmp op2_gt (de_ix (hu65 hr) (de_v 0) de_str) (de_callB bi_len (by rfl) Z.z_len bb_len (da_cons (de_ix (hu65 hr) (de_v 0) de_str) da_nil)))
 (dss_one (ds_ret de_int))
 dss_nil)
 (dss_one (ds_ret (de_bin op2_mod (de_callTy bi_int (by rfl) Z.z_int bb_int (da_cons (de_ix (hu65 hr) (de_ix (hu65 hr) (de_v 0) de_str) (de_bin op2_sub (de_ix (hu65 hr) (de_v 0) de_str) de_int)) da_nil)) (de_v 1))))))
theorem sc__law_word : FnScope ["w", "number"] ["w"] (defScope (top 12)) := ⟨rfl, rfl, rfl, by decide +kernel, rfl, by decide +kernel, by decide +kernel⟩
theorem ok__law_word (Z : Zs K mg) (Dx : DefAt K mg "_law_word" "_law_word" (top 12) ["w"]) (h__law_next : Okd P w K mg base CX0 1 "_law_next" 2 m__law_next) : Okd P w K mg base CX0 2 "_law_word" 1 m__law_word := by
  unfold m__law_word b__law_word
  exact okd0 (N := ["w", "number"]) (l := 1) Dx sc__law_word rfl rfl fun f cdv A outer s H E hr =>
 (dss_cons (ds_set (i := 1) sc__law_word.nd rfl (by first | exact Or.inl rfl | exact Or.inr rfl) (de_fnE h__law_next (hr.mono (by decide)) (by rfl) hx0 (da_cons (de_v 0) (da_cons (de_bin op2_shl de_int de_int) da_nil))))
 (dss_one (ds_ret (de_ix (hu65 hr) (de_lst (da_cons de_int (da_cons de_int (da_cons de_int (da_cons (de_bin op2_mod (de_callTy bi_int (by rfl) Z.z_int bb_int (da_cons (de_v 1) da_nil)) de_int) (da_cons (de_bin op2_add (de_bin op2_mul de_int (de_v 1)) de_int) da_nil)))))) (de_bin op2_mod (de_callTy bi_int (by rfl) Z.z_int bb_int (da_cons (de_bin op2_fdiv (de_v 1) de_int) da_nil)) de_int)))))
theorem sc__law_frame : FnScope ["model", "page", "one", "frame"] ["model", "page"] (defScope (top 8)) := ⟨rfl, rfl, rfl, by decide +kernel, rfl, by decide +kernel, by decide +kernel⟩
theorem ok__law_frame (Z : Zs K mg) (Dx : DefAt K mg "_law_frame" "_law_frame" (top 8) ["model", "page"]) : Okd P w K mg base CX0 1 "_law_frame" 2 m__law_frame := by
  unfold m__law_frame b__law_frame
  exact okd0 (N := ["model", "page", "one", "frame"]) (l := 0) Dx sc__law_frame rfl rfl fun f cdv A outer s H E hr =>
 (dss_cons (ds_for PassesOwn.never rfl (di_seq (de_ix (hu65 hr) (de_v 0) de_str)) (dg_tup rfl (dgs_cons (dg_name (i := 2) sc__law_frame.nd rfl (by first | exact Or.inl rfl | exact Or.inr rfl)) (dgs_cons (dg_name (i := 3) sc__law_frame.nd rfl (by first | exact Or.inl rfl | exact Or.inr rfl)) dgs_nil)))
 (dss_one (ds_if (dt_cmp (op2_eq (hu64 hr)) (de_v 2) (de_v 1))
 (dss_one (ds_ret (de_v 3)))
 dss_nil)))
 (dss_one (ds_ret de_non)))
theorem sc_Pages___init__ : FnScope ["self", "image", "frames"] ["self", "image", "frames"] (defScope (inClass (top 2) 0)) := ⟨rfl, rfl, rfl, by decide +kernel, rfl, by decide +kernel, by decide +kernel⟩
theorem ok_Pages___init__ (Z : Zs K mg) (Dx : InitAt K mg "Pages" "Pages.__init__" (inClass (top 2) 0) ["self", "image", "frames"]) : Oki P w K mg base 1 "Pages" 3 m_Pages___init__ := by
  unfold m_Pages___init__ b_Pages___init__
  exact oki0 (N := ["self", "image", "frames"]) (l := 0) Dx sc_Pages___init__ rfl rfl fun f cdv A outer s H E hr =>
 (dss_cons (ds_fld Z.fb_home (de_v 0) (de_callTy bi_list (by rfl) Z.z_list bb_list (da_cons (de_v 1) da_nil)))
 (dss_cons (ds_fld Z.fb_frames (de_v 0) (de_callTy bi_tuple (by rfl) Z.z_tuple bb_tuple (da_cons (de_v 2) da_nil)))
 (dss_one (ds_fld Z.fb_came (de_v 0) (de_lst da_nil)))))
theorem sc__law_same : FnScope ["actual", "due", "k"] ["actual", "due"] (defScope (top 7)) := ⟨rfl, rfl, rfl, by decide +kernel, rfl, by decide +kernel, by decide +kernel⟩
theorem okS__law_same {n : Nat} (Z : Zs K mg) (Dx : DefAt K mg "_law_same" "_law_same" (top 7) ["actual", "due"]) (h__law_same : Okd P w K mg base CX0 (0 + n) "_law_same" 2 (m__law_same n)) : Okd P w K mg base CX0 (0 + n + 1) "_law_same" 2 (m__law_same (n + 1)) := by
  unfold m__law_same
  exact okd0 (N := ["actual", "due", "k"]) (l := 0 + n) Dx sc__law_same rfl rfl fun f cdv A outer s H E hr =>
 (dss_cons (ds_if (dt_cmp op2_is (de_v 1) de_non)
 (dss_one (ds_ret (de_cmp op2_is (de_v 0) de_non)))
 dss_nil)
 (dss_cons (ds_if (dt_w (dw_or (dt_tru (de_callB bi_isi (by rfl) Z.z_isinstance bb_isinstance (da_cons (de_v 1) (da_cons (de_ty (by rfl) Z.z_tuple bb_tuple) da_nil)))) (dw_or1 (dt_tru (de_callB bi_isi (by rfl) Z.z_isinstance bb_isinstance (da_cons (de_v 1) (da_cons (de_ty (by rfl) Z.z_list bb_list) da_nil)))))))
 (dss_cons (ds_if (dt_w (dw_or (dt_cmp (op2_ne (hu64 hr)) (de_callB bi_isi (by rfl) Z.z_isinstance bb_isinstance (da_cons (de_v 1) (da_cons (de_ty (by rfl) Z.z_tuple bb_tuple) da_nil))) (de_callB bi_isi (by rfl) Z.z_isinstance bb_isinstance (da_cons (de_v 0) (da_cons (de_ty (by rfl) Z.z_tuple bb_tuple) da_nil)))) (dw_or1 (dt_cmp (op2_ne (hu64 hr)) (de_callB bi_isi (by rfl) Z.z_isinstance bb_isinstance (da_cons (de_v 1) (da_cons (de_ty (by rfl) Z.z_list bb_list) da_nil))) (de_callB bi_isi (by rfl) Z.z_isinstance bb_isinstance (da_cons (de_v 0) (da_cons (de_ty (by rfl) Z.z_list bb_list) da_nil)))))))
 (dss_one (ds_ret de_bl))
 dss_nil)
 (dss_cons (ds_if (dt_cmp (op2_ne (hu64 hr)) (de_callB bi_len (by rfl) Z.z_len bb_len (da_cons (de_v 0) da_nil)) (de_callB bi_len (by rfl) Z.z_len bb_len (da_cons (de_v 1) da_nil)))
 (dss_one (ds_ret de_bl))
 dss_nil)
 (dss_cons (ds_for PassesOwn.never rfl (di_range1 (by rfl) Z.z_range (da_cons (de_callB bi_len (by rfl) Z.z_len bb_len (da_cons (de_v 1) da_nil)) da_nil)) (dg_name (i := 2) sc__law_same.nd rfl (by first | exact Or.inl rfl | exact Or.inr rfl))
 (dss_one (ds_if (dt_not (dt_tru (de_fnE h__law_same hr (by rfl) hx0 (da_cons (de_ix (hu65 hr) (de_v 0) (de_v 2)) (da_cons (de_ix (hu65 hr) (de_v 1) (de_v 2)) da_nil)))))
 (dss_one (ds_ret de_bl))
 dss_nil)))
 (dss_one (ds_ret de_bl)))))
 dss_nil)
 (dss_cons (ds_if (dt_cmp (op2_ne (hu64 hr)) (de_callB bi_isi (by rfl) Z.z_isinstance bb_isinstance (da_cons (de_v 1) (da_cons (de_ty (by rfl) Z.z_bool bb_bool) da_nil))) (de_callB bi_isi (by rfl) Z.z_isinstance bb_isinstance (da_cons (de_v 0) (da_cons (de_ty (by rfl) Z.z_bool bb_bool) da_nil))))
 (dss_one (ds_ret de_bl))
 dss_nil)
 (dss_cons (ds_if (dt_w (dw_or (dt_cmp (op2_ne (hu64 hr)) (de_callB bi_isi (by rfl) Z.z_isinstance bb_isinstance (da_cons (de_v 1) (da_cons (de_ty (by rfl) Z.z_int bb_int) da_nil))) (de_callB bi_isi (by rfl) Z.z_isinstance bb_isinstance (da_cons (de_v 0) (da_cons (de_ty (by rfl) Z.z_int bb_int) da_nil)))) (dw_or1 (dt_cmp (op2_ne (hu64 hr)) (de_callB bi_isi (by rfl) Z.z_isinstance bb_isinstance (da_cons (de_v 1) (da_cons (de_ty (by rfl) Z.z_str bb_str) da_nil))) (de_callB bi_isi (by rfl) Z.z_isinstance bb_isinstance (da_cons (de_v 0) (da_cons (de_ty (by rfl) Z.z_str bb_str) da_nil)))))))
 (dss_one (ds_ret de_bl))
 dss_nil)
 (dss_one (ds_ret (de_cmp (op2_eq (hu64 hr)) (de_v 0) (de_v 1))))))))
theorem okA__law_same (Z : Zs K mg) (D__law_same : DefAt K mg "_law_same" "_law_same" (top 7) ["actual", "due"]) : ∀ n : Nat, Okd P w K mg base CX0 (0 + n) "_law_same" 2 (m__law_same n) := by
  intro n
  induction n with
  | zero => exact (by unfold m__law_same; exact okd_bad D__law_same rfl)
  | succ n ih =>
    have h__law_same := ih
    exact (okS__law_same Z D__law_same h__law_same)
theorem ok__law_same (Z : Zs K mg) (D__law_same : DefAt K mg "_law_same" "_law_same" (top 7) ["actual", "due"]) : Okd P w K mg base CX0 40 "_law_same" 2 (m__law_same 40) := (okA__law_same Z D__law_same 40)
theorem sc__law_words : FnScope ["model", "memory", "found", "page", "frame"] ["model", "memory"] (defScope (top 10)) := ⟨rfl, rfl, rfl, by decide +kernel, rfl, by decide +kernel, by decide +kernel⟩
theorem ok__law_words (Z : Zs K mg) (Dx : DefAt K mg "_law_words" "_law_words" (top 10) ["model", "memory"]) (h__law_frame : Okd P w K mg base CX0 1 "_law_frame" 2 m__law_frame) : Okd P w K mg base CX0 2 "_law_words" 2 m__law_words := by
  unfold m__law_words b__law_words
  exact okd0 (N := ["model", "memory", "found", "page", "frame"]) (l := 1) Dx sc__law_words rfl rfl fun f cdv A outer s H E hr =>
 (dss_cons (ds_set (i := 2) sc__law_words.nd rfl (by first | exact Or.inl rfl | exact Or.inr rfl) (de_lst da_nil))
 (dss_cons (ds_for PassesOwn.never rfl (di_range1 (by rfl) Z.z_range (da_cons (de_bin op2_fdiv (de_callB bi_len (by rfl) Z.z_len bb_len (da_cons (de_ix (hu65 hr) (de_v 0) de_str) da_nil)) de_int) da_nil)) (dg_name (i := 3) sc__law_words.nd rfl (by first | exact Or.inl rfl | exact Or.inr rfl))
 (dss_cons (ds_set (i := 4) sc__law_words.nd rfl (by first | exact Or.inl rfl | exact Or.inr rfl) (de_fnE h__law_frame (hr.mono (by decide)) (by rfl) hx0 (da_cons (de_v 0) (da_cons (de_v 3) da_nil))))
 (dss_one (ds_if (dt_cmp op2_is (de_v 4) de_non)
 (dss_one (ds_set (i := 2) sc__law_words.nd rfl (by first | exact Or.inl rfl | exact Or.inr rfl) (de_bin op2_add (de_v 2) (de_slice (de_ix (hu65 hr) (de_v 0) de_str) (do_some (de_bin op2_mul de_int (de_v 3))) (do_some (de_bin op2_add (de_bin op2_mul de_int (de_v 3)) de_int))))))
 (dss_one (ds_set (i := 2) sc__law_words.nd rfl (by first | exact Or.inl rfl | exact Or.inr rfl) (de_bin op2_add (de_v 2) (de_slice (de_v 1) (do_some (de_bin op2_mul de_int (de_v 4))) (do_some (de_bin op2_add (de_bin op2_mul de_int (de_v 4)) de_int))))))))))
 (dss_one (ds_ret (de_callTy bi_tuple (by rfl) Z.z_tuple bb_tuple (da_cons (de_v 2) da_nil))))))
theorem sc_Pages_frame_of : FnScope ["self", "page", "found", "one", "frame"] ["self", "page"] (defScope (inClass (top 2) 1)) := ⟨rfl, rfl, rfl, by decide +kernel, rfl, by decide +kernel, by decide +kernel⟩
theorem ok_Pages_frame_of (Z : Zs K mg) (Dx : MethAt K mg "Pages" "frame_of" "Pages.frame_of" (inClass (top 2) 1) ["self", "page"]) : Okm P w K mg base CX0 1 "Pages" "frame_of" 2 m_Pages_frame_of := by
  unfold m_Pages_frame_of b_Pages_frame_of
  exact okm0 (N := ["self", "page", "found", "one", "frame"]) (l := 0) Dx sc_Pages_frame_of rfl rfl fun f cdv A outer s H E hr =>
 (dss_cons (ds_setLc (i := 2) (own := [("one", 3), ("frame", 4)]) rfl sc_Pages_frame_of.nd rfl rfl (sw_true rfl rfl rfl (by decide +kernel)) (di_seq (de_fld Z.fb_came (de_v 0))) (blkOk_by (own := [("one", 3), ("frame", 4)]) (N := ["self", "page", "found", "one", "frame"]) (sc := defScope (inClass (top 2) 1)) (by decide +kernel)) (fun _ _ _ _ _ => (dg_tup rfl (dgs_cons (dg_name (i := 3) sc_Pages_frame_of.nd rfl (by first | exact Or.inl rfl | exact Or.inr rfl)) (dgs_cons (dg_name (i := 4) sc_Pages_frame_of.nd rfl (by first | exact Or.inl rfl | exact Or.inr rfl)) dgs_nil)))) (fun _ _ _ _ _ => (dpt_one (dt_cmp (op2_eq (hu64 hr)) (de_v 3) (de_v 1)))) (fun _ _ _ _ _ => (de_v 4)))
 (dss_one (ds_ret (de_ifExp (dt_cmp (op2_ne (hu64 hr)) (de_v 2) (de_lst da_nil)) (de_ix (hu65 hr) (de_v 2) de_int) de_non))))
theorem sc_Pages_word : FnScope ["self", "address", "memory", "frame"] ["self", "address", "memory"] (defScope (inClass (top 2) 3)) := ⟨rfl, rfl, rfl, by decide +kernel, rfl, by decide +kernel, by decide +kernel⟩
theorem ok_Pages_word (Z : Zs K mg) (Dx : MethAt K mg "Pages" "word" "Pages.word" (inClass (top 2) 3) ["self", "address", "memory"]) (h_Pages_frame_of : Okm P w K mg base CX0 1 "Pages" "frame_of" 2 m_Pages_frame_of) : Okm P w K mg base CX0 2 "Pages" "word" 3 m_Pages_word := by
  unfold m_Pages_word b_Pages_word
  exact okm0 (N := ["self", "address", "memory", "frame"]) (l := 1) Dx sc_Pages_word rfl rfl fun f cdv A outer s H E hr =>
 (dss_cons (ds_set (i := 3) sc_Pages_word.nd rfl (by first | exact Or.inl rfl | exact Or.inr rfl) (de_meth (mt_cons (methOf h_Pages_frame_of (hr.mono (by decide)) hx0 mLen_Pages_frame_of) mt_nil) (de_v 0) (da_cons (de_bin op2_fdiv (de_v 1) (de_cg Z.c_PAGE (by rfl))) da_nil)))
 (dss_cons (ds_if (dt_cmp op2_is (de_v 3) de_non)
 (dss_one (ds_ret (de_ix (hu65 hr) (de_fld Z.fb_home (de_v 0)) (de_v 1))))
 dss_nil)
 (dss_one (ds_ret (de_ix (hu65 hr) (de_v 2) (de_bin op2_add (de_bin op2_mul (de_v 3) (de_cg Z.c_PAGE (by rfl))) (de_bin op2_mod (de_v 1) (de_cg Z.c_PAGE (by rfl)))))))))
theorem sc_Pages_words : FnScope ["self", "memory", "address"] ["self", "memory"] (defScope (inClass (top 2) 4)) := ⟨rfl, rfl, rfl, by decide +kernel, rfl, by decide +kernel, by decide +kernel⟩
theorem ok_Pages_words (Z : Zs K mg) (Dx : MethAt K mg "Pages" "words" "Pages.words" (inClass (top 2) 4) ["self", "memory"]) (h_Pages_word : Okm P w K mg base CX0 2 "Pages" "word" 3 m_Pages_word) : Okm P w K mg base CX0 3 "Pages" "words" 2 m_Pages_words := by
  unfold m_Pages_words b_Pages_words
  exact okm0 (N := ["self", "memory", "address"]) (l := 2) Dx sc_Pages_words rfl rfl fun f cdv A outer s H E hr =>
 (dss_one (ds_ret (de_callTy bi_tuple (by rfl) Z.z_tuple bb_tuple (da_cons (de_lc (own := [("address", 2)]) rfl sc_Pages_words.nd (di_range1 (by rfl) Z.z_range (da_cons (de_callB bi_len (by rfl) Z.z_len bb_len (da_cons (de_fld Z.fb_home (de_v 0)) da_nil)) da_nil)) (blkOk_by (own := [("address", 2)]) (N := ["self", "memory", "address"]) (sc := defScope (inClass (top 2) 4)) (by decide +kernel)) (fun _ _ _ _ _ => (dg_name (i := 2) sc_Pages_words.nd rfl (by first | exact Or.inl rfl | exact Or.inr rfl))) (fun _ _ _ _ _ => dpt_nil) (fun _ _ _ _ _ => (de_meth (mt_cons (methOf h_Pages_word (hr.mono (by decide)) hx0 mLen_Pages_word) mt_nil) (de_v 0) (da_cons (de_v 2) (da_cons (de_v 1) da_nil))))) da_nil))))
theorem sc__law_is_kept : FnScope ["w", "pages", "model", "memory", "mine", "due", "page", "turn", "address"] ["w", "pages", "model", "memory", "mine"] (defScope (top 11)) := ⟨rfl, rfl, rfl, by decide +kernel, rfl, by decide +kernel, by decide +kernel⟩
theorem ok__law_is_kept (Z : Zs K mg) (Dx : DefAt K mg "_law_is_kept" "_law_is_kept" (top 11) ["w", "pages", "model", "memory", "mine"]) (h__law_words : Okd P w K mg base CX0 2 "_law_words" 2 m__law_words) (h__law_next : Okd P w K mg base CX0 1 "_law_next" 2 m__law_next) (h__law_same : Okd P w K mg base CX0 40 "_law_same" 2 (m__law_same 40)) (h_Pages_words : Okm P w K mg base CX0 3 "Pages" "words" 2 m_Pages_words) (h_Pages_frame_of : Okm P w K mg base CX0 1 "Pages" "frame_of" 2 m_Pages_frame_of) (h__law_frame : Okd P w K mg base CX0 1 "_law_frame" 2 m__law_frame) (h_Pages_word : Okm P w K mg base CX0 2 "Pages" "word" 3 m_Pages_word) : Okd P w K mg base CX0 41 "_law_is_kept" 5 m__law_is_kept := by
  unfold m__law_is_kept b__law_is_kept
  exact okd0 (N := ["w", "pages", "model", "memory", "mine", "due", "page", "turn", "address"]) (l := 40) Dx sc__law_is_kept rfl rfl fun f cdv A outer s H E hr =>
 (dss_cons (ds_set (i := 5) sc__law_is_kept.nd rfl (by first | exact Or.inl rfl | exact Or.inr rfl) (de_fnE h__law_words (hr.mono (by decide)) (by rfl) hx0 (da_cons (de_v 2) (da_cons (de_v 4) da_nil))))
 (dss_cons (ds_if (dt_w (dw_or (dt_cmp (op2_ne (hu64 hr)) (de_v 3) (de_v 4)) (dw_or1 (dt_not (dt_tru (de_fnE h__law_same (hr.mono (by decide)) (by rfl) hx0 (da_cons (de_meth (mt_cons (methOf h_Pages_words (hr.mono (by decide)) hx0 mLen_Pages_words) mt_nil) (de_v 1) (da_cons (de_v 3) da_nil)) (da_cons (de_v 5) da_nil))))))))
 (dss_one (ds_ret de_bl))
 dss_nil)
 (dss_cons (ds_for PassesOwn.never rfl (di_range1 (by rfl) Z.z_range (da_cons (de_bin op2_fdiv (de_callB bi_len (by rfl) Z.z_len bb_len (da_cons (de_ix (hu65 hr) (de_v 2) de_str) da_nil)) de_int) da_nil)) (dg_name (i := 6) sc__law_is_kept.nd rfl (by first | exact Or.inl rfl | exact Or.inr rfl))
 (dss_one (ds_if (dt_not (dt_tru (de_fnE h__law_same (hr.mono (by decide)) (by rfl) hx0 (da_cons (de_meth (mt_cons (methOf h_Pages_frame_of (hr.mono (by decide)) hx0 mLen_Pages_frame_of) mt_nil) (de_v 1) (da_cons (de_v 6) da_nil)) (da_cons (de_fnE h__law_frame (hr.mono (by decide)) (by rfl) hx0 (da_cons (de_v 2) (da_cons (de_v 6) da_nil))) da_nil)))))
 (dss_one (ds_ret de_bl))
 dss_nil)))
 (dss_cons (ds_for PassesOwn.never rfl (di_range1 (by rfl) Z.z_range (da_cons de_int da_nil)) (dg_name (i := 7) sc__law_is_kept.nd rfl (by first | exact Or.inl rfl | exact Or.inr rfl))
 (dss_cons (ds_set (i := 8) sc__law_is_kept.nd rfl (by first | exact Or.inl rfl | exact Or.inr rfl) (de_fnE h__law_next (hr.mono (by decide)) (by rfl) hx0 (da_cons (de_v 0) (da_cons (de_callB bi_len (by rfl) Z.z_len bb_len (da_cons (de_v 5) da_nil)) da_nil))))
 (dss_one (ds_if (dt_not (dt_tru (de_fnE h__law_same (hr.mono (by decide)) (by rfl) hx0 (da_cons (de_meth (mt_cons (methOf h_Pages_word (hr.mono (by decide)) hx0 mLen_Pages_word) mt_nil) (de_v 1) (da_cons (de_v 8) (da_cons (de_v 3) da_nil))) (da_cons (de_ix (hu65 hr) (de_v 5) (de_v 8)) da_nil)))))
 (dss_one (ds_ret de_bl))
 dss_nil))))
 (dss_one (ds_ret de_bl))))))
theorem sc_Pages_bring : FnScope ["self", "page", "memory", "gone", "frame"] ["self", "page", "memory"] (defScope (inClass (top 2) 2)) := ⟨rfl, rfl, rfl, by decide +kernel, rfl, by decide +kernel, by decide +kernel⟩
theorem ok_Pages_bring (Z : Zs K mg) (Dx : MethAt K mg "Pages" "bring" "Pages.bring" (inClass (top 2) 2) ["self", "page", "memory"]) : Okm P w K mg base CX0 1 "Pages" "bring" 3 m_Pages_bring := by
  unfold m_Pages_bring b_Pages_bring
  exact okm0 (N := ["self", "page", "memory", "gone", "frame"]) (l := 0) Dx sc_Pages_bring rfl rfl fun f cdv A outer s H E hr =>
 (dss_cons (ds_set (i := 3) sc_Pages_bring.nd rfl (by first | exact Or.inl rfl | exact Or.inr rfl) de_non)
 (dss_cons (ds_if (dt_cmp op2_lt (de_callB bi_len (by rfl) Z.z_len bb_len (da_cons (de_fld Z.fb_came (de_v 0)) da_nil)) (de_callB bi_len (by rfl) Z.z_len bb_len (da_cons (de_fld Z.fb_frames (de_v 0)) da_nil)))
 (dss_one (ds_set (i := 4) sc_Pages_bring.nd rfl (by first | exact Or.inl rfl | exact Or.inr rfl) (de_ix (hu65 hr) (de_fld Z.fb_frames (de_v 0)) (de_callB bi_len (by rfl) Z.z_len bb_len (da_cons (de_fld Z.fb_came (de_v 0)) da_nil)))))
 (dss_cons (ds_asg (de_bm bm_popAt PySem.F.plainAttrs_list PySem.F.slot_list_pop PySem.F.type_list_pop (de_fld Z.fb_came (de_v 0)) (da_cons de_int da_nil)) (dg_tup rfl (dgs_cons (dg_name (i := 3) sc_Pages_bring.nd rfl (by first | exact Or.inl rfl | exact Or.inr rfl)) (dgs_cons (dg_name (i := 4) sc_Pages_bring.nd rfl (by first | exact Or.inl rfl | exact Or.inr rfl)) dgs_nil))))
 (dss_one (ds_slc (de_fld Z.fb_home (de_v 0)) (do_some (de_bin op2_mul (de_v 3) (de_cg Z.c_PAGE (by rfl)))) (do_some (de_bin op2_add (de_bin op2_mul (de_v 3) (de_cg Z.c_PAGE (by rfl))) (de_cg Z.c_PAGE (by rfl)))) (de_slice (de_v 2) (do_some (de_bin op2_mul (de_v 4) (de_cg Z.c_PAGE (by rfl)))) (do_some (de_bin op2_add (de_bin op2_mul (de_v 4) (de_cg Z.c_PAGE (by rfl))) (de_cg Z.c_PAGE (by rfl)))))))))
 (dss_cons (ds_slc (de_v 2) (do_some (de_bin op2_mul (de_v 4) (de_cg Z.c_PAGE (by rfl)))) (do_some (de_bin op2_add (de_bin op2_mul (de_v 4) (de_cg Z.c_PAGE (by rfl))) (de_cg Z.c_PAGE (by rfl)))) (de_slice (de_fld Z.fb_home (de_v 0)) (do_some (de_bin op2_mul (de_v 1) (de_cg Z.c_PAGE (by rfl)))) (do_some (de_bin op2_add (de_bin op2_mul (de_v 1) (de_cg Z.c_PAGE (by rfl))) (de_cg Z.c_PAGE (by rfl))))))
 (dss_cons (ds_expr (de_bm bm_append PySem.F.plainAttrs_list PySem.F.slot_list_append PySem.F.type_list_append (de_fld Z.fb_came (de_v 0)) (da_cons (de_tup (da_cons (de_v 1) (da_cons (de_v 4) da_nil))) da_nil)))
 (dss_one (ds_ret (de_tup (da_cons (de_v 4) (da_cons (de_v 3) da_nil)))))))))
theorem sc__law_bring : FnScope ["model", "page", "memory", "gone", "frame", "k"] ["model", "page", "memory"] (defScope (top 9)) := ⟨rfl, rfl, rfl, by decide +kernel, rfl, by decide +kernel, by decide +kernel⟩
theorem ok__law_bring (Z : Zs K mg) (Dx : DefAt K mg "_law_bring" "_law_bring" (top 9) ["model", "page", "memory"]) : Okd P w K mg base CX0 1 "_law_bring" 3 m__law_bring := by
  unfold m__law_bring b__law_bring
  exact okd0 (N := ["model", "page", "memory", "gone", "frame", "k"]) (l := 0) Dx sc__law_bring rfl rfl fun f cdv A outer s H E hr =>
 (dss_cons (ds_set (i := 3) sc__law_bring.nd rfl (by first | exact Or.inl rfl | exact Or.inr rfl) de_non)
 (dss_cons (ds_if (dt_cmp op2_lt (de_callB bi_len (by rfl) Z.z_len bb_len (da_cons (de_ix (hu65 hr) (de_v 0) de_str) da_nil)) (de_callB bi_len (by rfl) Z.z_len bb_len (da_cons (de_ix (hu65 hr) (de_v 0) de_str) da_nil)))
 (dss_one (ds_set (i := 4) sc__law_bring.nd rfl (by first | exact Or.inl rfl | exact Or.inr rfl) (de_ix (hu65 hr) (de_ix (hu65 hr) (de_v 0) de_str) (de_callB bi_len (by rfl) Z.z_len bb_len (da_cons (de_ix (hu65 hr) (de_v 0) de_str) da_nil)))))
 (dss_cons (ds_asg (de_bm bm_popAt PySem.F.plainAttrs_list PySem.F.slot_list_pop PySem.F.type_list_pop (de_ix (hu65 hr) (de_v 0) de_str) (da_cons de_int da_nil)) (dg_tup rfl (dgs_cons (dg_name (i := 3) sc__law_bring.nd rfl (by first | exact Or.inl rfl | exact Or.inr rfl)) (dgs_cons (dg_name (i := 4) sc__law_bring.nd rfl (by first | exact Or.inl rfl | exact Or.inr rfl)) dgs_nil))))
 (dss_one (ds_for PassesOwn.never rfl (di_range1 (by rfl) Z.z_range (da_cons de_int da_nil)) (dg_name (i := 5) sc__law_bring.nd rfl (by first | exact Or.inl rfl | exact Or.inr rfl))
 (dss_one (ds_put (hu65 hr) (de_ix (hu65 hr) (de_v 0) de_str) (de_bin op2_add (de_bin op2_mul de_int (de_v 3)) (de_v 5)) (de_ix (hu65 hr) (de_v 2) (de_bin op2_add (de_bin op2_mul de_int (de_v 4)) (de_v 5)))))))))
 (dss_cons (ds_for PassesOwn.never rfl (di_range1 (by rfl) Z.z_range (da_cons de_int da_nil)) (dg_name (i := 5) sc__law_bring.nd rfl (by first | exact Or.inl rfl | exact Or.inr rfl))
 (dss_one (ds_put (hu65 hr) (de_v 2) (de_bin op2_add (de_bin op2_mul de_int (de_v 4)) (de_v 5)) (de_ix (hu65 hr) (de_ix (hu65 hr) (de_v 0) de_str) (de_bin op2_add (de_bin op2_mul de_int (de_v 1)) (de_v 5))))))
 (dss_cons (ds_expr (de_bm bm_append PySem.F.plainAttrs_list PySem.F.slot_list_append PySem.F.type_list_append (de_ix (hu65 hr) (de_v 0) de_str) (da_cons (de_tup (da_cons (de_v 1) (da_cons (de_v 4) da_nil))) da_nil)))
 (dss_one (ds_ret (de_tup (da_cons (de_v 4) (da_cons (de_v 3) da_nil)))))))))
theorem sc_law : FnScope ["script", "w", "counts", "many", "frames", "memory", "mine", "guests", "k", "image", "own", "turn", "pages", "model", "kept", "page", "frame", "at", "word", "one"] ["script"] (defScope (top 13)) := ⟨rfl, rfl, rfl, by decide +kernel, rfl, by decide +kernel, by decide +kernel⟩
theorem law_ok {P : Program} {w : World} {K : PySem.W.Frag} {mg : Str → Option Value} {base : Heap} {f : Addr} {fd : FuncData} (Z : Zs K mg) (F : Fun K "law" "law" (top 13) f fd) (h__law_draws : Okd P w K mg base CX0 1 "_law_draws" 2 m__law_draws) (h__law_next : Okd P w K mg base CX0 1 "_law_next" 2 m__law_next) (h__law_word : Okd P w K mg base CX0 2 "_law_word" 1 m__law_word) (h__law_frame : Okd P w K mg base CX0 1 "_law_frame" 2 m__law_frame) (h_Pages___init__ : Oki P w K mg base 1 "Pages" 3 m_Pages___init__) (h__law_same : Okd P w K mg base CX0 40 "_law_same" 2 (m__law_same 40)) (h__law_is_kept : Okd P w K mg base CX0 41 "_law_is_kept" 5 m__law_is_kept) (h_Pages_bring : Okm P w K mg base CX0 1 "Pages" "bring" 3 m_Pages_bring) (h__law_bring : Okd P w K mg base CX0 1 "_law_bring" 3 m__law_bring) : FnOk P w K mg base CX0 42 f fd ["script"] (spM K mg 1 m_law) := by
  unfold m_law b_law
  exact fn0 (N := ["script", "w", "counts", "many", "frames", "memory", "mine", "guests", "k", "image", "own", "turn", "pages", "model", "kept", "page", "frame", "at", "word", "one"]) (l := 41) F sc_law rfl rfl fun cdv A outer s H E hr =>
 (dss_cons (ds_set (i := 1) sc_law.nd rfl (by first | exact Or.inl rfl | exact Or.inr rfl) (de_dict (dps_cons de_str (de_fnE h__law_draws (hr.mono (by decide)) (by rfl) hx0 (da_cons (de_v 0) (da_cons de_int da_nil))) (dps_cons de_str de_int dps_nil))))
 (dss_cons (ds_set (i := 2) sc_law.nd rfl (by first | exact Or.inl rfl | exact Or.inr rfl) (de_lst (da_cons (de_bin op2_add de_int (de_fnE h__law_next (hr.mono (by decide)) (by rfl) hx0 (da_cons (de_v 1) (da_cons de_int da_nil)))) (da_cons (de_bin op2_add de_int (de_fnE h__law_next (hr.mono (by decide)) (by rfl) hx0 (da_cons (de_v 1) (da_cons de_int da_nil)))) da_nil))))
 (dss_cons (ds_set (i := 3) sc_law.nd rfl (by first | exact Or.inl rfl | exact Or.inr rfl) (de_bin op2_add (de_bin op2_add (de_ix (hu65 hr) (de_v 2) de_int) (de_ix (hu65 hr) (de_v 2) de_int)) (de_fnE h__law_next (hr.mono (by decide)) (by rfl) hx0 (da_cons (de_v 1) (da_cons de_int da_nil)))))
 (dss_cons (ds_set (i := 4) sc_law.nd rfl (by first | exact Or.inl rfl | exact Or.inr rfl) (de_bin op2_add (de_lc (own := [("k", 8)]) rfl sc_law.nd (di_range1 (by rfl) Z.z_range (da_cons (de_v 3) da_nil)) (blkOk_by (own := [("k", 8)]) (N := ["script", "w", "counts", "many", "frames", "memory", "mine", "guests", "k", "image", "own", "turn", "pages", "model", "kept", "page", "frame", "at", "word", "one"]) (sc := defScope (top 13)) (by decide +kernel)) (fun _ _ _ _ _ => (dg_name (i := 8) sc_law.nd rfl (by first | exact Or.inl rfl | exact Or.inr rfl))) (fun _ _ _ _ _ => (dpt_one (dt_cmp (op2_eq (hu64 hr)) (de_bin op2_mod (de_callTy bi_int (by rfl) Z.z_int bb_int (da_cons (de_v 8) da_nil)) de_int) de_int))) (fun _ _ _ _ _ => (de_v 8))) (de_lc (own := [("k", 8)]) rfl sc_law.nd (di_range1 (by rfl) Z.z_range (da_cons (de_v 3) da_nil)) (blkOk_by (own := [("k", 8)]) (N := ["script", "w", "counts", "many", "frames", "memory", "mine", "guests", "k", "image", "own", "turn", "pages", "model", "kept", "page", "frame", "at", "word", "one"]) (sc := defScope (top 13)) (by decide +kernel)) (fun _ _ _ _ _ => (dg_name (i := 8) sc_law.nd rfl (by first | exact Or.inl rfl | exact Or.inr rfl))) (fun _ _ _ _ _ => (dpt_one (dt_cmp (op2_eq (hu64 hr)) (de_bin op2_mod (de_callTy bi_int (by rfl) Z.z_int bb_int (da_cons (de_v 8) da_nil)) de_int) de_int))) (fun _ _ _ _ _ => (de_v 8)))))
 (dss_cons (ds_setLc (i := 5) (own := [("k", 8)]) rfl sc_law.nd rfl rfl (sw_true rfl rfl rfl (by decide +kernel)) (di_range1 (by rfl) Z.z_range (da_cons (de_bin op2_mul de_int (de_v 3)) da_nil)) (blkOk_by (own := [("k", 8)]) (N := ["script", "w", "counts", "many", "frames", "memory", "mine", "guests", "k", "image", "own", "turn", "pages", "model", "kept", "page", "frame", "at", "word", "one"]) (sc := defScope (top 13)) (by decide +kernel)) (fun _ _ _ _ _ => (dg_name (i := 8) sc_law.nd rfl (by first | exact Or.inl rfl | exact Or.inr rfl))) (fun _ _ _ _ _ => dpt_nil) (fun _ _ _ _ _ => (de_fnE h__law_word (hr.mono (by decide)) (by rfl) hx0 (da_cons (de_v 1) da_nil))))
 (dss_cons (ds_set (i := 6) sc_law.nd rfl (by first | exact Or.inl rfl | exact Or.inr rfl) (de_callTy bi_list (by rfl) Z.z_list bb_list (da_cons (de_v 5) da_nil)))
 (dss_cons (ds_set (i := 7) sc_law.nd rfl (by first | exact Or.inl rfl | exact Or.inr rfl) (de_lst da_nil))
 (dss_cons (ds_for PassesOwn.never rfl (di_range1 (by rfl) Z.z_range (da_cons de_int da_nil)) (dg_name (i := 8) sc_law.nd rfl (by first | exact Or.inl rfl | exact Or.inr rfl))
 (dss_cons (ds_setLc (i := 9) (own := [("one", 19)]) rfl sc_law.nd rfl rfl (sw_true rfl rfl rfl (by decide +kernel)) (di_range1 (by rfl) Z.z_range (da_cons (de_bin op2_mul de_int (de_bin op2_add de_int (de_fnE h__law_next (hr.mono (by decide)) (by rfl) hx0 (da_cons (de_v 1) (da_cons de_int da_nil))))) da_nil)) (blkOk_by (own := [("one", 19)]) (N := ["script", "w", "counts", "many", "frames", "memory", "mine", "guests", "k", "image", "own", "turn", "pages", "model", "kept", "page", "frame", "at", "word", "one"]) (sc := defScope (top 13)) (by decide +kernel)) (fun _ _ _ _ _ => (dg_name (i := 19) sc_law.nd rfl (by first | exact Or.inl rfl | exact Or.inr rfl))) (fun _ _ _ _ _ => dpt_nil) (fun _ _ _ _ _ => (de_fnE h__law_word (hr.mono (by decide)) (by rfl) hx0 (da_cons (de_v 1) da_nil))))
 (dss_cons (ds_set (i := 10) sc_law.nd rfl (by first | exact Or.inl rfl | exact Or.inr rfl) (de_callTy bi_tuple (by rfl) Z.z_tuple bb_tuple (da_cons (de_callB bi_sorted (by rfl) Z.z_sorted bb_sorted (da_cons (de_ix (hu65 hr) (de_lst (da_cons (de_slice (de_v 4) do_none (do_some (de_ix (hu65 hr) (de_v 2) de_int))) (da_cons (de_slice (de_v 4) (do_some (de_ix (hu65 hr) (de_v 2) de_int)) (do_some (de_bin op2_add (de_ix (hu65 hr) (de_v 2) de_int) (de_ix (hu65 hr) (de_v 2) de_int)))) da_nil))) (de_v 8)) da_nil)) da_nil)))
 (dss_one (ds_expr (de_bm bm_append PySem.F.plainAttrs_list PySem.F.slot_list_append PySem.F.type_list_append (de_v 7) (da_cons (de_lst (da_cons (de_makeE h_Pages___init__ (hr.mono (by decide)) (by rfl) (da_cons (de_v 9) (da_cons (de_v 10) da_nil))) (da_cons (de_dict (dps_cons de_str (de_callTy bi_list (by rfl) Z.z_list bb_list (da_cons (de_v 9) da_nil)) (dps_cons de_str (de_v 10) (dps_cons de_str (de_lst da_nil) dps_nil)))) (da_cons (de_v 9) (da_cons (de_callTy bi_tuple (by rfl) Z.z_tuple bb_tuple (da_cons (de_v 9) da_nil)) da_nil))))) da_nil)))))))
 (dss_cons (ds_for PassesOwn.never rfl (di_range1 (by rfl) Z.z_range (da_cons de_int da_nil)) (dg_name (i := 11) sc_law.nd rfl (by first | exact Or.inl rfl | exact Or.inr rfl))
 (dss_cons (ds_asg (de_ix (hu65 hr) (de_v 7) (de_fnE h__law_next (hr.mono (by decide)) (by rfl) hx0 (da_cons (de_v 1) (da_cons de_int da_nil)))) (dg_tup rfl (dgs_cons (dg_name (i := 12) sc_law.nd rfl (by first | exact Or.inl rfl | exact Or.inr rfl)) (dgs_cons (dg_name (i := 13) sc_law.nd rfl (by first | exact Or.inl rfl | exact Or.inr rfl)) (dgs_cons (dg_name (i := 9) sc_law.nd rfl (by first | exact Or.inl rfl | exact Or.inr rfl)) (dgs_cons (dg_name (i := 14) sc_law.nd rfl (by first | exact Or.inl rfl | exact Or.inr rfl)) dgs_nil))))))
 (dss_cons (ds_set (i := 15) sc_law.nd rfl (by first | exact Or.inl rfl | exact Or.inr rfl) (de_fnE h__law_next (hr.mono (by decide)) (by rfl) hx0 (da_cons (de_v 1) (da_cons (de_bin op2_fdiv (de_callB bi_len (by rfl) Z.z_len bb_len (da_cons (de_v 14) da_nil)) de_int) da_nil))))
 (dss_cons (ds_set (i := 16) sc_law.nd rfl (by first | exact Or.inl rfl | exact Or.inr rfl) (de_fnE h__law_frame (hr.mono (by decide)) (by rfl) hx0 (da_cons (de_v 13) (da_cons (de_v 15) da_nil))))
 (dss_cons (ds_if (dt_cmp op2_is (de_v 16) de_non)
 (dss_one (ds_if (dt_not (dt_tru (de_fnE h__law_same (hr.mono (by decide)) (by rfl) hx0 (da_cons (de_meth (mt_cons (methOf h_Pages_bring (hr.mono (by decide)) hx0 mLen_Pages_bring) mt_nil) (de_v 12) (da_cons (de_v 15) (da_cons (de_v 5) da_nil))) (da_cons (de_fnE h__law_bring (hr.mono (by decide)) (by rfl) hx0 (da_cons (de_v 13) (da_cons (de_v 15) (da_cons (de_v 6) da_nil)))) da_nil)))))
 (dss_one (ds_ret de_bl))
 dss_nil))
 (dss_cons (ds_set (i := 17) sc_law.nd rfl (by first | exact Or.inl rfl | exact Or.inr rfl) (de_bin op2_add (de_bin op2_mul de_int (de_v 16)) (de_fnE h__law_next (hr.mono (by decide)) (by rfl) hx0 (da_cons (de_v 1) (da_cons de_int da_nil)))))
 (dss_cons (ds_set (i := 18) sc_law.nd rfl (by first | exact Or.inl rfl | exact Or.inr rfl) (de_fnE h__law_word (hr.mono (by decide)) (by rfl) hx0 (da_cons (de_v 1) da_nil)))
 (dss_cons (ds_put (hu65 hr) (de_v 5) (de_v 17) (de_v 18))
 (dss_one (ds_put (hu65 hr) (de_v 6) (de_v 17) (de_v 18)))))))
 (dss_one (ds_if (dt_w (dw_or (dt_not (dt_tru (de_fnE h__law_is_kept (hr.mono (by decide)) (by rfl) hx0 (da_cons (de_v 1) (da_cons (de_v 12) (da_cons (de_v 13) (da_cons (de_v 5) (da_cons (de_v 6) da_nil)))))))) (dw_or1 (dt_cmp (op2_ne (hu64 hr)) (de_v 9) (de_callTy bi_list (by rfl) Z.z_list bb_list (da_cons (de_v 14) da_nil))))))
 (dss_one (ds_ret de_bl))
 dss_nil)))))))
 (dss_cons (ds_for PassesOwn.never rfl (di_seq (de_v 7)) (dg_tup rfl (dgs_cons (dg_name (i := 12) sc_law.nd rfl (by first | exact Or.inl rfl | exact Or.inr rfl)) (dgs_cons (dg_name (i := 13) sc_law.nd rfl (by first | exact Or.inl rfl | exact Or.inr rfl)) (dgs_cons (dg_name (i := 9) sc_law.nd rfl (by first | exact Or.inl rfl | exact Or.inr rfl)) (dgs_cons (dg_name (i := 14) sc_law.nd rfl (by first | exact Or.inl rfl | exact Or.inr rfl)) dgs_nil)))))
 (dss_one (ds_if (dt_w (dw_or (dt_not (dt_tru (de_fnE h__law_is_kept (hr.mono (by decide)) (by rfl) hx0 (da_cons (de_v 1) (da_cons (de_v 12) (da_cons (de_v 13) (da_cons (de_v 5) (da_cons (de_v 6) da_nil)))))))) (dw_or1 (dt_cmp (op2_ne (hu64 hr)) (de_v 9) (de_callTy bi_list (by rfl) Z.z_list bb_list (da_cons (de_v 14) da_nil))))))
 (dss_one (ds_ret de_bl))
 dss_nil)))
 (dss_one (ds_ret de_bl))))))))))))
end
end Pf

namespace Pf
open PySem L2 PyProof.Rows Mir
theorem c_page : cD_PAGE = .int 16 := rfl
local macro_rules | `(tactic| walk_at "mir") => `(tactic| simp -implicitDefEqProofs only [wp_ok, wp_sSeq, seq_nx, seq_rt, seq_ex, kx_seq, kx_mk, kRet_seq, kRet_mk, kRet_fe, kx_fe, fe_ex, seq_bk, seq_ct, wp_sNil, wp_sBreak, wp_sCont, wp_sRetN, wp_sExpr, kExpr_eq, wp_sRet, kRet_eq, wp_sSet, kSet_eq, wp_sSetT, wp_sIf, kIfS_d, kIfS_n, kIfS_t, kIfS_f, wp_sPar, kPar_eq, wp_sAug, kAug_eq, kAug2_eq, wp_sPut, kPut1_eq, kPut2_eq, kPut3_ref, wp_sPutAug, wp_sSlc, kSc1_eq, kSc2_eq, kSc3_eq, kSc4_ref, r_tupR2, r_lstR2, set_app_lt, kPA1_eq, kPA3_eq, wp_sFld, kFld1_eq, wp_sFldAug, kFA0_eq, kFA1_eq, kFA2_eq, wp_sFor, wp_iSeq, kSeq_tup, kSeq_fl, wp_iRg1, kRg1_eq, wp_iRg2, kRg2_eq,
  wp_eV, kV_some, wp_eC, wp_e2, k2a_eq, k2b_eq, wp_e1, k1_eq, wp_eCall, wp_aNil, wp_aCons, kC1_eq, kC2_eq, wp_eTup, kTup_eq, wp_eLst, kLst_eq, wp_eFn, kFn_eq, wp_tb, kTb_eq, wp_tTru, kTru_bl, wp_tAnd, kAnd_d, kAnd_n, kAnd_t, kAnd_f, wp_tOr, kOr_d, kOr_n, kOr_t, kOr_f, wp_tNot, kNot_eq, wp_eIf, kIf_d, kIf_n, kIf_t, kIf_f, wp_eAnd, kAndV_d, kAndV_n, kAndV_t, kAndV_f, wp_eOr, kOrV_d, kOrV_n, kOrV_t, kOrV_f, wp_eNot, kNotV_bl, wp_eChain, kCh1_eq, kCh2_eq, kCh3_eq, wp_eSl, kSl1_eq, kSl2_eq, kSl3_eq, wp_oNone, wp_oSome, kO_eq, wp_eBm, kBm_eq, kBm2_eq, wp_eBm0, kBm0_eq, wp_eMeth, kMt2_eq, wp_eMake, kMk_eq, kMkI_eq, wp_eDict, wp_pairs_nil, wp_pairs_cons, kP1_eq, kP2_eq, kP3_eq, wp_eLc, wp_allocO, fe_nx, fe_rt,
  r_add, r_addS, r_addT, r_iadd, r_sub, r_mul, r_fdiv, r_mod, r_pow, r_shl, r_shr, r_and, r_or, r_xor, r_neg, r_lt, r_le, r_gt, r_ge, r_eqI, r_eqS, r_eqB, r_neI, r_neS, r_neB, r_isB, r_isNB, r_is0, r_isI, r_isT, r_isNot0, r_isNotI, r_isNotT, r_int, r_intB, r_abs, r_max2, r_min2, r_lenT, r_lenF, r_lenR, kLen_lst, kLen_dk, kOpt_some, r_ixT, r_ixF, r_ixR, kIx_lst, kIx_dkS, kIx_dkI, look_cons, inr_inj, inl_inj, ofS_inj, String.reduceEq, reduceIte, kPutO_dkS, kPutO_dkI, r_append, sl_ref, kPA2_ref, kPAo_dkS, kPAo_dkI, kPA4_ref, kPDo_dkS, kPDo_dkI,
  List.getElem?_cons_zero, List.getElem?_cons_succ, List.set_cons_zero, List.set_cons_succ, List.length_cons, List.length_nil, List.map_cons, List.map_nil, List.cons_append, List.nil_append, List.replicate_succ, List.replicate_zero, decide_eq_true_eq, decide_eq_false_iff_not, decide_true, decide_false, Bool.not_true, Bool.not_false, Nat.reduceAdd, tyD_ref, beq_self_eq_true, Int.zero_add, Int.mul_one, Int.toNat_natCast, Nat.zero_add, wp_mkFn, eq_self, c_page , r_fld, kFldO_ins, lk_nil, lk_cons, kFld2_ref, kFA3_ref, kFlO_ins, kMt_ref, kMtO_ins, kMtM_some, putA_nil, putA_cons, mem_one, kLsO_lst, r_pop0, r_popAt0, r_insert, r_extend, r_tupR, r_tupT, r_tupF, r_listR, r_listT, r_listF, r_addR, kSeq_refO, set_get, set_get', set_same, List.take_zero, List.drop_zero, r_mulR, List.flatten_replicate_singleton, wipe_nil, wipe_cons, wp_tYes, kSetT_ref, kSetT_tup, kSetT_nm, setG_nil, setG_cons, atI_0, atI_1, atI_2, atI_3, List.length_set, List.set_set, List.getElem?_append_left, List.head?_cons, List.tail_cons, sz_le, sz_lt, Nat.reduceLeDiff, Nat.reduceLT, Nat.reduceSub, lim64_of, lim62_of, cMod_of, cDiv_of, cNn_of, cPow_of, Int.reduceLT, Int.reduceLE, Int.reduceNeg, Int.reduceToNat, Int.reduceAdd, r_inT, r_ninT, flat_int, flat_str, flat_bl, eqF_int, eqF_str, dec_or, List.all_cons, List.all_nil, List.any_cons, List.any_nil, Bool.and_self, Bool.and_true, Bool.or_false, Bool.false_or, Bool.true_or, Bool.or_true, r_isi, kIsi_some, tyN_non, tyN_bl, tyN_int, tyN_str, tyN_tup, tyN_fl, tyN_ref, tyO_lst, tyO_dk, subN_int, subN_bool, subN_str, subN_tuple, subN_list, subN_dict, Option.bind_some, String.reduceBEq, r_isS, r_isBl, r_isR, r_isF, r_isNotS, r_isNotBl, r_isNotR, r_isNotF, reduceCtorEq, kDict_dk, kDk_some, keysD_nil, keysD_s, keysD_i, Option.map_some, dmerge_def, List.foldl_cons, List.foldl_nil, dput_nil, dput_n, dput_h, List.forall_mem_cons, List.not_mem_nil, true_imp_iff, false_imp_iff, implies_true, ne_eq, not_false_eq_true, not_true_eq_false, get_app, get_app0, set_app, set_app0, get_appE, get_appE0, set_appE, set_appE0, List.length_map, List.length_append, List.append_assoc, Nat.add_assoc, Nat.reduceEqDiff, true_and, and_true])
local macro_rules | `(tactic| walk_at "mirs") => `(tactic| simp -implicitDefEqProofs only [wp_ok, wp_sSeq, seq_nx, seq_rt, seq_ex, kx_seq, kx_mk, kRet_seq, kRet_mk, kRet_fe, kx_fe, fe_ex, seq_bk, seq_ct, wp_sNil, wp_sBreak, wp_sCont, wp_sRetN, wp_sExpr, kExpr_eq, wp_sRet, kRet_eq, wp_sSet, kSet_eq, wp_sSetT, wp_sIf, kIfS_d, kIfS_n, kIfS_t, kIfS_f, wp_sPar, kPar_eq, wp_sAug, kAug_eq, kAug2_eq, wp_sPut, kPut1_eq, kPut2_eq, kPut3_ref, wp_sPutAug, wp_sSlc, kSc1_eq, kSc2_eq, kSc3_eq, kSc4_ref, r_tupR2, r_lstR2, set_app_lt, kPA1_eq, kPA3_eq, wp_sFld, kFld1_eq, wp_sFldAug, kFA0_eq, kFA1_eq, kFA2_eq, wp_sFor, wp_iSeq, kSeq_tup, kSeq_fl, wp_iRg1, kRg1_eq, wp_iRg2, kRg2_eq,
  wp_eV, kV_some, wp_eC, wp_e2, k2a_eq, k2b_eq, wp_e1, k1_eq, wp_eCall, wp_aNil, wp_aCons, kC1_eq, kC2_eq, wp_eTup, kTup_eq, wp_eLst, kLst_eq, wp_eFn, kFn_eq, wp_tb, kTb_eq, wp_tTru, kTru_bl, wp_tAnd, kAnd_d, kAnd_n, kAnd_t, kAnd_f, wp_tOr, kOr_d, kOr_n, kOr_t, kOr_f, wp_tNot, kNot_eq, wp_eIf, kIf_d, kIf_n, kIf_t, kIf_f, wp_eAnd, kAndV_d, kAndV_n, kAndV_t, kAndV_f, wp_eOr, kOrV_d, kOrV_n, kOrV_t, kOrV_f, wp_eNot, kNotV_bl, wp_eChain, kCh1_eq, kCh2_eq, kCh3_eq, wp_eSl, kSl1_eq, kSl2_eq, kSl3_eq, wp_oNone, wp_oSome, kO_eq, wp_eBm, kBm_eq, kBm2_eq, wp_eBm0, kBm0_eq, wp_eMeth, kMt2_eq, wp_eMake, kMk_eq, kMkI_eq, wp_eDict, wp_pairs_nil, wp_pairs_cons, kP1_eq, kP2_eq, kP3_eq, wp_eLc, wp_allocO, fe_nx, fe_rt,
  r_add, r_addS, r_addT, r_iadd, r_sub, r_mul, r_fdiv, r_mod, r_pow, r_shl, r_shr, r_and, r_or, r_xor, r_neg, r_lt, r_le, r_gt, r_ge, r_eqI, r_eqS, r_eqB, r_neI, r_neS, r_neB, r_isB, r_isNB, r_is0, r_isI, r_isT, r_isNot0, r_isNotI, r_isNotT, r_int, r_intB, r_abs, r_max2, r_min2, r_lenT, r_lenF, r_lenR, kLen_lst, kLen_dk, kOpt_some, r_ixT, r_ixF, r_ixR, kIx_lst, kIx_dkS, kIx_dkI, look_cons, inr_inj, inl_inj, ofS_inj, String.reduceEq, reduceIte, kPutO_dkS, kPutO_dkI, r_append, sl_ref, kPA2_ref, kPAo_dkS, kPAo_dkI, kPA4_ref, kPDo_dkS, kPDo_dkI,
  List.getElem?_cons_zero, List.getElem?_cons_succ, List.set_cons_zero, List.set_cons_succ, List.length_cons, List.length_nil, List.map_cons, List.map_nil, List.cons_append, List.nil_append, List.replicate_succ, List.replicate_zero, decide_eq_true_eq, decide_eq_false_iff_not, decide_true, decide_false, Bool.not_true, Bool.not_false, Nat.reduceAdd, tyD_ref, beq_self_eq_true, Int.zero_add, Int.mul_one, Int.toNat_natCast, Nat.zero_add, wp_mkFn, eq_self, c_page , r_fld, kFldO_ins, lk_nil, lk_cons, kFld2_ref, kFA3_ref, kFlO_ins, kMt_ref, kMtO_ins, kMtM_some, putA_nil, putA_cons, mem_one, kLsO_lst, r_pop0, r_popAt0, r_insert, r_extend, r_tupR, r_tupT, r_tupF, r_listR, r_listT, r_listF, r_addR, kSeq_refO, set_get, set_get', set_same, List.take_zero, List.drop_zero, r_mulR, List.flatten_replicate_singleton, wipe_nil, wipe_cons, wp_tYes, kSetT_ref, kSetT_tup, kSetT_nm, setG_nil, setG_cons, atI_0, atI_1, atI_2, atI_3, List.length_set, List.set_set, List.getElem?_append_left, List.head?_cons, List.tail_cons, sz_le, sz_lt, Nat.reduceLeDiff, Nat.reduceLT, Nat.reduceSub, lim64_of, lim62_of, cMod_of, cDiv_of, cNn_of, cPow_of, Int.reduceLT, Int.reduceLE, Int.reduceNeg, Int.reduceToNat, Int.reduceAdd, r_inT, r_ninT, flat_int, flat_str, flat_bl, eqF_int, eqF_str, dec_or, List.all_cons, List.all_nil, List.any_cons, List.any_nil, Bool.and_self, Bool.and_true, Bool.or_false, Bool.false_or, Bool.true_or, Bool.or_true, r_isi, kIsi_some, tyN_non, tyN_bl, tyN_int, tyN_str, tyN_tup, tyN_fl, tyN_ref, tyO_lst, tyO_dk, subN_int, subN_bool, subN_str, subN_tuple, subN_list, subN_dict, Option.bind_some, String.reduceBEq, r_isS, r_isBl, r_isR, r_isF, r_isNotS, r_isNotBl, r_isNotR, r_isNotF, reduceCtorEq, kDict_dk, kDk_some, keysD_nil, keysD_s, keysD_i, Option.map_some, dmerge_def, List.foldl_cons, List.foldl_nil, dput_nil, dput_n, dput_h, List.forall_mem_cons, List.not_mem_nil, true_imp_iff, false_imp_iff, implies_true, ne_eq, not_false_eq_true, not_true_eq_false, get_app, get_app0, set_app, set_app0, get_appE, get_appE0, set_appE, set_appE0, List.length_map, List.length_append, List.append_assoc, Nat.add_assoc, Nat.reduceEqDiff, true_and, and_true, *])
local macro_rules | `(tactic| walk_at "sd") => `(tactic| first | with_reducible rfl | decide | (have hSZ : SZ = 16777216 := rfl; first | exact cMod_of (by omega) | exact lim64_l (by omega) (by omega) | exact lim64_r (by omega) (by omega) | exact cNn_of (by omega) | exact cDiv_of (by omega) (by omega) | exact cPow_of (by omega) (by omega) (by omega) (by omega) | exact lim62_of (by omega) (by omega) | exact lim64_of (by omega) (by omega) | omega | ((try simp only [List.length_map, List.length_append, List.length_cons, List.length_nil] at *); (have hSZ : SZ = 16777216 := rfl); omega)))
local macro_rules | `(tactic| walk_at "side") => `(tactic| repeat (with_reducible refine And.intro (by walk_at "sd") ?_))
/-! ### the draws -/
/-- the store with the draws at n, their dict at iw -/
structure DrawSt (S : ST) (iw n : Nat) : Prop where
  ne : iw ≠ n
  ex : ∃ (a : Int) (xs : List Int), S[iw]? = some (.dk [(.inr "draws", .ref n), (.inr "at", .int a)]) ∧ S[n]? = some (.lst (xs.map D.int)) ∧ 0 ≤ a ∧ (∀ x ∈ xs, 0 ≤ x) ∧ xs.length < SZ
/-- all but the draws' place stands as it was -/
structure Fr (iw : Nat) (S S' : ST) : Prop where
  le : S.length ≤ S'.length
  eq : ∀ i, i ≠ iw → i < S.length → S'[i]? = S[i]?
theorem Fr.refl (iw : Nat) (S : ST) : Fr iw S S := ⟨Nat.le_refl _, fun _ _ _ => rfl⟩
theorem Fr.trans {iw : Nat} {S S1 S2 : ST} (a : Fr iw S S1) (b : Fr iw S1 S2) : Fr iw S S2 := ⟨Nat.le_trans a.le b.le, fun i h1 h2 => (b.eq i h1 (Nat.lt_of_lt_of_le h2 a.le)).trans (a.eq i h1 h2)⟩
theorem Fr.app (iw : Nat) (S T : ST) : Fr iw S (S ++ T) := ⟨by simp, fun i _ h => List.getElem?_append_left h⟩
theorem Fr.set (iw : Nat) (S : ST) (o : O) : Fr iw S (S.set iw o) := ⟨by simp, fun i h _ => List.getElem?_set_ne (Ne.symm h)⟩
theorem Fr.get {iw : Nat} {S S' : ST} (f : Fr iw S S') {i : Nat} {o : O} (h : i ≠ iw) (e : S[i]? = some o) : S'[i]? = some o := by rw [f.eq i h (List.getElem?_eq_some_iff.mp e).1]; exact e
theorem DrawSt.fr {S S' : ST} {iw n : Nat} (d : DrawSt S iw n) (h : S'[iw]? = S[iw]?) (f : Fr iw S S') : DrawSt S' iw n := by
  obtain ⟨ne, a, xs, h1, h2, h3⟩ := d
  exact ⟨ne, a, xs, h.trans h1, f.get (Ne.symm ne) h2, h3⟩
theorem DrawSt.app {S : ST} {iw n : Nat} (d : DrawSt S iw n) (T : ST) : DrawSt (S ++ T) iw n := by
  refine d.fr ?_ (.app iw S T)
  obtain ⟨_, a, xs, h1, _⟩ := d
  rw [List.getElem?_append_left (List.getElem?_eq_some_iff.mp h1).1]
theorem next_ok {S : ST} {iw n : Nat} (d : DrawSt S iw n) {many : Int} (hm : 0 < many) :
    ∃ (v : Int) (S' : ST), m__law_next [.ref iw, .int many] S = .ok (.int v) S' ∧ 0 ≤ v ∧ v < many ∧ DrawSt S' iw n ∧ Fr iw S S' := by
  obtain ⟨ne, a, xs, h1, h2, h3, h4, h5⟩ := d
  suffices h : wpR (m__law_next [.ref iw, .int many] S) (fun r S' => ∃ v : Int, r = .int v ∧ 0 ≤ v ∧ v < many ∧ DrawSt S' iw n ∧ Fr iw S S') (fun _ _ _ => False) by
    obtain ⟨r, S', e, v, rfl, q⟩ := wpR_eq h
    exact ⟨v, S', e, q⟩
  have hl : iw < S.length := (List.getElem?_eq_some_iff.mp h1).1
  unfold m__law_next
  walk_at "mir"
  unfold b__law_next
  walk_at "mirs"
  generalize hS : S.set iw (.dk [(Sum.inr (Str.ofString "draws"), D.ref n), (Sum.inr (Str.ofString "at"), D.int (a + 1))]) = S1
  have g1 : S1[iw]? = some (.dk [(Sum.inr (Str.ofString "draws"), D.ref n), (Sum.inr (Str.ofString "at"), D.int (a + 1))]) := by rw [← hS]; exact set_same hl
  have g2 : S1[n]? = some (.lst (xs.map D.int)) := by rw [← hS, set_get (Ne.symm ne)]; exact h2
  have dS : DrawSt S1 iw n := ⟨ne, a + 1, xs, g1, g2, by omega, h4, h5⟩
  have fS : Fr iw S S1 := by rw [← hS]; exact .set _ _ _
  walk_at "mirs"
  refine ⟨fun _ => ⟨0, rfl, Int.le_refl _, hm⟩, fun c => ?_⟩
  have ha : a.toNat < xs.length := by omega
  rw [atI_pos (by omega) (by rw [List.length_map]; omega), show (a + 1 - 1).toNat = a.toNat by omega, List.getElem?_map, List.getElem?_eq_getElem ha, Option.map_some]
  walk_at "mirs"
  walk_at "side"
  exact ⟨_, rfl, Int.emod_nonneg _ (by omega), Int.emod_lt_of_pos _ hm⟩
theorem next_w {S : Mir.ST} {iw n : Nat} (d : DrawSt S iw n) {many : Int} (hm : 0 < many) {Q : D → Mir.ST → Prop} {X : XQ} (k : ∀ (v : Int) (S' : Mir.ST), 0 ≤ v → v < many → DrawSt S' iw n → Fr iw S S' → Q (.int v) S') : wpR (m__law_next [.ref iw, .int many] S) Q X := by
  obtain ⟨v, S', e, h0, h1, hd, hf⟩ := next_ok d hm
  exact wpR_of ⟨_, _, e, k v S' h0 h1 hd hf⟩
theorem abs_nn (c : Int) : 0 ≤ (if c < 0 then -c else c) := by split <;> omega
theorem in_loop {K : Kt} {a0 a1 a3 a4 g6 : Option D} (S0 : Mir.ST) (xs : List Int) (r : Int) (B : Nat) (hr : 0 ≤ r) (hx : ∀ x ∈ xs, 0 ≤ x) (hl : xs.length ≤ B) (hB : B + 60 < SZ)
    (k : ∀ (xs : List Int) (r : Int) (g6 : Option D), (∀ x ∈ xs, 0 ≤ x) → xs.length ≤ B + 60 → K.nx [a0, a1, some (D.ref S0.length), a3, a4, some (.int r), g6] (S0 ++ [.lst (xs.map D.int)])) :
    kFor (.nm 6) (sIf (tb (e2 mGt (eV 5) (eC (.int 0)))) (sSeq (sExpr (eBm "list" bAppend (eV 2) (aCons (e2 mMod (eCall bInt (aCons (eV 5) aNil)) (eC (.int 997))) aNil))) (sSet 5 (e2 mFDiv (eV 5) (eC (.int 997))))) sNil)
      K [a0, a1, some (D.ref S0.length), a3, a4, some (.int r), g6] ⟨rngD 0 1 60, none⟩ (S0 ++ [.lst (xs.map D.int)]) := by
  refine for_rng (fun i G S => ∃ (r : Int) (xs : List Int) (g6 : Option D), G = [a0, a1, some (D.ref S0.length), a3, a4, some (.int r), g6] ∧ S = S0 ++ [.lst (xs.map D.int)] ∧ 0 ≤ r ∧ (∀ x ∈ xs, 0 ≤ x) ∧ xs.length ≤ B + i) ?_ ?_ ?_
  · exact ⟨r, xs, g6, rfl, rfl, hr, hx, by omega⟩
  · intro G S hP
    obtain ⟨r, xs, g6, hG, hS, h0, hx, hl⟩ := hP
    rw [hG, hS]
    exact k xs r g6 hx hl
  · clear hl hx hr g6 r xs
    intro i G S hi hP
    obtain ⟨r, xs, g6, hG, hS, h0, hx, hl⟩ := hP
    rw [hG, hS]
    clear hG hS
    refine ⟨_, rfl, ?_⟩
    walk_at "mir"
    refine ⟨fun hb => ?_, fun hb => ⟨r, xs, _, rfl, rfl, h0, hx, by omega⟩⟩
    walk_at "side"
    refine ⟨r / 997, xs ++ [r % 997], _, rfl, by rw [List.map_append]; rfl, by omega, ?_, by rw [List.length_append, List.length_singleton]; omega⟩
    intro x hx2
    rcases List.mem_append.mp hx2 with h | h
    · exact hx x h
    · rw [List.mem_singleton.mp h]; omega
theorem draws_ok (ns : List Int) (h63 : ns.length ≤ 63) (many : Nat) (hm : many ≤ 10000) (S0 : Mir.ST) :
    ∃ (n : Nat) (xs : List Int) (S' : Mir.ST), m__law_draws [.fl (ns.map D.int), .int many] S0 = .ok (.ref n) S' ∧ S'[n]? = some (.lst (xs.map D.int)) ∧ (∀ x ∈ xs, 0 ≤ x) ∧ xs.length < SZ ∧ S0.length ≤ n ∧ ∃ T, S' = S0 ++ T := by
  suffices h : wpR (m__law_draws [.fl (ns.map D.int), .int many] S0) (fun r S' => ∃ (n : Nat) (xs : List Int), r = .ref n ∧ S'[n]? = some (.lst (xs.map D.int)) ∧ (∀ x ∈ xs, 0 ≤ x) ∧ xs.length < SZ ∧ S0.length ≤ n ∧ ∃ T, S' = S0 ++ T) (fun _ _ _ => False) by
    obtain ⟨r, S', e, h2⟩ := wpR_eq h
    obtain ⟨n, xs, e2, q⟩ := h2
    rw [e2] at e
    exact ⟨n, xs, S', e, q⟩
  unfold m__law_draws
  walk_at "mir"
  unfold b__law_draws
  walk_at "mir"
  refine for_at (fun i G S => ∃ (m : Int) (xs : List Int) (g4 g5 g6 : Option D), G = [some (.fl (ns.map D.int)), some (.int many), some (.ref S0.length), some (.int m), g4, g5, g6] ∧ S = S0 ++ [.lst (xs.map D.int)] ∧ 0 ≤ m ∧ m < 2147483647 ∧ (∀ x ∈ xs, 0 ≤ x) ∧ xs.length ≤ 62 * i) ?_ (fun _ _ _ _ _ => True.intro) ?_ ?_
  · exact ⟨7, [], _, _, _, rfl, rfl, by omega, by omega, by simp, by simp⟩
  · intro G S hP
    rw [seq_nx]
    obtain ⟨m, xs, g4, g5, g6, hG, hS, h0, h1, hx, hl⟩ := hP
    rw [hG, hS]
    clear hG hS
    replace hl : xs.length ≤ 62 * 63 := by
      have e : (List.map D.int ns).length = ns.length := List.length_map ..
      have : xs.length ≤ 62 * (List.map D.int ns).length := hl
      omega
    walk_at "mir"
    walk_at "side"
    refine for_rng (fun i G S => ∃ (m : Int) (xs : List Int) (g6 : Option D), G = [some (.fl (ns.map D.int)), some (.int many), some (.ref S0.length), some (.int m), g4, g5, g6] ∧ S = S0 ++ [.lst (xs.map D.int)] ∧ 0 ≤ m ∧ m < 2147483647 ∧ (∀ x ∈ xs, 0 ≤ x) ∧ xs.length ≤ 62 * 63 + i) ?_ ?_ ?_
    · exact ⟨m, xs, g6, rfl, rfl, h0, h1, hx, by omega⟩
    · clear h0 h1 hx hl m xs g6
      intro G S hP
      rw [seq_nx]
      obtain ⟨m, xs, g6, hG, hS, h0, h1, hx, hl⟩ := hP
      rw [hG, hS]
      clear hG hS
      walk_at "mir"
      exact ⟨_, xs, rfl, by simp, hx, by unfold SZ; omega, by simp, _, rfl⟩
    · clear h0 h1 hx hl m xs g6
      intro i G S hi hP
      obtain ⟨m, xs, g6, hG, hS, h0, h1, hx, hl⟩ := hP
      rw [hG, hS]
      clear hG hS
      refine ⟨_, rfl, ?_⟩
      walk_at "mir"
      walk_at "side"
      refine ⟨(m * 48271 + 69621) % 2147483647, xs ++ [(m * 48271 + 69621) % 2147483647 / 5], _, rfl, by rw [List.map_append]; rfl, by omega, by omega, ?_, by rw [List.length_append, List.length_singleton]; omega⟩
      intro x hx2
      rcases List.mem_append.mp hx2 with h | h
      · exact hx x h
      · rw [List.mem_singleton.mp h]; omega
  · intro i d G S hd hP
    obtain ⟨m, xs, g4, g5, g6, hG, hS, h0, h1, hx, hl⟩ := hP
    rw [hG, hS]
    clear hG hS
    have hd2 : (List.map D.int ns)[i]? = some d := hd
    have hi : i < ns.length := by
      have := (List.getElem?_eq_some_iff.mp hd2).1
      rw [List.length_map] at this
      exact this
    rw [List.getElem?_map, List.getElem?_eq_getElem hi, Option.map_some] at hd2
    cases hd2
    clear hd
    refine ⟨_, rfl, ?_⟩
    generalize ns[i] = c
    walk_at "mir"
    have hc := abs_nn c
    generalize (if c < 0 then -c else c) = c1 at hc ⊢
    generalize hm1 : (m * 48271 + (c1 + 1)) % 2147483647 = m1
    generalize hm2 : (m * 48271 + c1 + 1) % 2147483647 = m2
    walk_at "side"
    constructor
    · intro hb
      walk_at "side"
      have e : List.map D.int xs ++ [D.int (c1 % 997), D.int (m2 % 65521)] = (xs ++ [c1 % 997, m2 % 65521]).map D.int := by simp
      rw [e]
      refine in_loop S0 _ 0 (62 * i + 2) (by omega) ?_ (by rw [List.length_append]; show _ + 2 ≤ _; omega) (by unfold SZ; omega) fun ys r g6 hy hz => ⟨m2, ys, _, _, _, rfl, rfl, by omega, by omega, hy, by omega⟩
      intro x hx2
      rcases List.mem_append.mp hx2 with h | h
      · exact hx x h
      · simp only [List.mem_cons, List.not_mem_nil, or_false] at h
        rcases h with rfl | rfl <;> omega
    · intro hb
      exact in_loop S0 xs c1 (62 * i + 2) hc hx (by omega) (by unfold SZ; omega) fun ys r g6 hy hz => ⟨m2, ys, _, _, _, rfl, rfl, by omega, by omega, hy, by omega⟩
theorem DrawSt.put {S : Mir.ST} {iw n i : Nat} {o : O} (d : DrawSt S iw n) (h1 : i ≠ iw) (h2 : i ≠ n) : DrawSt (S.set i o) iw n := by
  obtain ⟨ne, a, xs, g1, g2, g3⟩ := d
  exact ⟨ne, a, xs, (set_get' h1).trans g1, (set_get' h2).trans g2, g3⟩
theorem DrawSt.lw {S : Mir.ST} {iw n : Nat} (d : DrawSt S iw n) : iw < S.length := by
  obtain ⟨_, _, _, g, _⟩ := d
  exact lt_of_get g
theorem DrawSt.ln {S : Mir.ST} {iw n : Nat} (d : DrawSt S iw n) : n < S.length := by
  obtain ⟨_, _, _, _, g, _⟩ := d
  exact lt_of_get g
theorem DrawSt.newl {S : Mir.ST} {iw n i : Nat} {o : O} (d : DrawSt S iw n) (h : S.length ≤ i) : DrawSt (S.set i o) iw n := d.put (by have := d.lw; omega) (by have := d.ln; omega)
/-- a comprehension whose items are drawn -/
theorem lc_draw {S : Mir.ST} {G : GE} {X : XQ} {t : Tg} {fe : ME} {own : List Nat} {r : Src} {Q : D → Mir.ST → Prop} {iw n : Nat} (P : D → Prop) (d : DrawSt S iw n) (hg : r.gd = none) (hl : r.ds.length < SZ)
    (hs : ∀ x S', x ∈ r.ds → DrawSt S' iw n → Fr iw S S' → ∃ G1, bindT t x (wipeG G own) S' = some G1 ∧ wpE fe G1 S' (fun v S2 => P v ∧ DrawSt S2 iw n ∧ Fr iw S' S2) fun _ _ _ => False)
    (hd : ∀ vs S', vs.length = r.ds.length → (∀ v ∈ vs, P v) → DrawSt S' iw n → Fr iw S S' → S'[S.length]? = some (.lst vs) → Q (.ref S.length) S') : kLc t tYesM fe own G Q X r S := by
  have ok : ∀ S, r.ok S := fun S => by unfold Src.ok; rw [hg]; trivial
  have f0 : Fr iw S (S ++ [O.lst []]) := .app _ _ _
  refine lc_inv (fun ds acc S' => DrawSt S' iw n ∧ Fr iw S S' ∧ S'[S.length]? = some (.lst acc) ∧ (∀ v ∈ acc, P v) ∧ acc.length + ds.length = r.ds.length ∧ ∀ x ∈ ds, x ∈ r.ds) ⟨d.app _, f0, get_app0, fun v h => absurd h List.not_mem_nil, by simp, fun _ h => h⟩ (fun _ _ S _ => ok S) ?_ ?_
  · intro acc S' h
    obtain ⟨h1, h2, h3, h4, h5, _⟩ := h
    exact hd acc S' (by simpa using h5) h4 h1 h2 h3
  · intro x ds acc S' h
    obtain ⟨h1, h2, h3, h4, h5, h6⟩ := h
    rw [List.length_cons] at h5
    obtain ⟨G1, g1, g2⟩ := hs x S' (h6 x (List.mem_cons_self ..)) h1 h2
    refine ⟨G1, g1, ?_⟩
    rw [wp_tYes]
    refine ⟨fun c => Bool.noConfusion c, fun _ => wpR_mono g2 fun v S2 q => ?_⟩
    obtain ⟨q1, q2, q3⟩ := q
    have nw : S.length ≠ iw := by have := d.lw; omega
    have h3' := q3.get nw h3
    refine ⟨h3', by omega, ?_, ?_, ?_, ?_, ?_, fun y hy => h6 y (List.mem_cons_of_mem _ hy)⟩
    · exact q2.put nw (by have := d.ln; omega)
    · have f2 := h2.trans q3
      exact ⟨by rw [List.length_set]; exact f2.le, fun i h1 h2 => by rw [set_get' (by omega)]; exact f2.eq i h1 h2⟩
    · rw [set_same (lt_of_get h3')]
    · intro y hy
      rcases List.mem_append.mp hy with c | c
      · exact h4 y c
      · rw [List.mem_singleton.mp c]; exact q1
    · rw [List.length_append, List.length_singleton]; omega
theorem neIw {S : Mir.ST} {iw n i : Nat} {ds : List D} (d : DrawSt S iw n) (h : S[i]? = some (.lst ds)) : i ≠ iw := by
  obtain ⟨_, _, _, g, _⟩ := d
  exact ne_of_get h g (by intro c; cases c)
def Sh : Nat → D → Prop
  | 0, _ => False
  | n + 1, d => match d with
    | .tup ds => (∀ d ∈ ds, Sh n d) ∧ ds.length ≤ SZ
    | .non => True | .int _ => True | .bl _ => True | .str _ => True
    | _ => False
theorem same_refl : ∀ (n : Nat) (d : D), Sh n d → ∀ S : Mir.ST, wpR (m__law_same n [d, d] S) (fun r S' => r = .bl true ∧ S' = S) (fun _ _ _ => False)
  | 0, d, h, S => h.elim
  | n + 1, d, h, S => by
    rw [m__law_same]
    cases d with
    | non => walk_at "mir"
    | int i => walk_at "mir"
    | bl b => walk_at "mir"
    | str x => walk_at "mir"
    | fl ds => exact h.elim
    | ref m => exact h.elim
    | opq v => exact h.elim
    | tup ds =>
      obtain ⟨h1, h2⟩ := h
      walk_at "mir"
      walk_at "side"
      refine for_rng (fun _ G S1 => ∃ g2, G = [some (.tup ds), some (.tup ds), g2] ∧ S1 = S) ⟨_, rfl, rfl⟩ ?_ ?_
      · intro G S1 hP
        obtain ⟨g2, hG, hS⟩ := hP
        rw [hG, hS]
        walk_at "mir"
      · intro i G S1 hi hP
        obtain ⟨g2, hG, hS⟩ := hP
        rw [hG, hS]
        refine ⟨_, rfl, ?_⟩
        have hi2 : i < ds.length := hi
        walk_at "mir"
        rw [atI_pos (by omega) (by omega), Int.toNat_natCast, List.getElem?_eq_getElem hi2]
        walk_at "mir"
        rw [atI_pos (by omega) (by omega), Int.toNat_natCast, List.getElem?_eq_getElem hi2]
        walk_at "mir"
        refine wpR_mono (wpR_none (same_refl n ds[i] (h1 _ (List.getElem_mem hi2)) S)) ?_
        rintro r S' ⟨hr, hS'⟩
        rw [hr, hS']
        walk_at "mir"
        exact ⟨_, rfl⟩
theorem same_w {n : Nat} {d : D} (h : Sh n d) {S : Mir.ST} {Q : D → Mir.ST → Prop} {X : XQ} (k : Q (.bl true) S) : wpR (m__law_same n [d, d] S) Q X := by
  refine wpR_mono (wpR_none (same_refl n d h S)) ?_
  rintro r S' ⟨hr, hS⟩
  rw [hr, hS]
  exact k
theorem sh_tup {n : Nat} {ds : List D} (h : ∀ d ∈ ds, Sh n d) (hl : ds.length ≤ SZ) : Sh (n + 1) (.tup ds) := ⟨h, hl⟩
/-! ### pages -/
def caD (p : Nat × Nat) : D := .tup [.int p.1, .int p.2]
def onD : Option Nat → D | none => .non | some n => .int n
def frOf (ca : List (Nat × Nat)) (page : Nat) : Option Nat := (ca.find? fun p => decide (p.1 = page)).map (·.2)
def cut16 (xs : List Int) (i : Nat) : List Int := (xs.drop (i * 16)).take 16
def blit (xs : List Int) (i : Nat) (ys : List Int) : List Int := xs.take (i * 16) ++ ys ++ xs.drop (i * 16 + 16)
structure Pg where
  home : List Int
  fr : List Nat
  ca : List (Nat × Nat)
structure PgOk (p : Pg) (M : Nat) : Prop where
  hs : p.home.length ≤ 1000000
  f0 : 0 < p.fr.length
  f1 : p.fr.length ≤ 1000
  ff : ∀ f ∈ p.fr, f * 16 + 16 ≤ M
  cl : p.ca.length ≤ p.fr.length
  cf : ∀ q ∈ p.ca, q.1 * 16 + 16 ≤ p.home.length ∧ q.2 * 16 + 16 ≤ M
theorem cut16_len {xs : List Int} {i : Nat} (h : i * 16 + 16 ≤ xs.length) : (cut16 xs i).length = 16 := by
  unfold cut16
  rw [List.length_take, List.length_drop]
  omega
theorem blit_len {xs ys : List Int} {i : Nat} (h : i * 16 + 16 ≤ xs.length) (h2 : ys.length = 16) : (blit xs i ys).length = xs.length := by
  unfold blit
  rw [List.length_append, List.length_append, List.length_take, List.length_drop]
  omega
/-- a page comes: the pages, the memory, the frame, the page that went -/
def bring (p : Pg) (page : Nat) (mem : List Int) : Pg × List Int × Nat × Option Nat :=
  if p.ca.length < p.fr.length then
    let f := p.fr.getD p.ca.length 0
    ({ p with ca := p.ca ++ [(page, f)] }, blit mem f (cut16 p.home page), f, none)
  else
    let q := p.ca.headD (0, 0)
    let home := blit p.home q.1 (cut16 mem q.2)
    ({ p with home := home, ca := p.ca.tail ++ [(page, q.2)] }, blit mem q.2 (cut16 home page), q.2, some q.1)
theorem head_of {p : Pg} {M : Nat} (ok : PgOk p M) (h : ¬ p.ca.length < p.fr.length) : ∃ q r, p.ca = q :: r ∧ p.ca.headD (0, 0) = q := by
  have := ok.f0
  cases e : p.ca with
  | nil => rw [e, List.length_nil] at h; omega
  | cons q r => exact ⟨q, r, rfl, rfl⟩
theorem bring_ok {p : Pg} {M : Nat} {mem : List Int} (ok : PgOk p M) (hm : mem.length = M) {page : Nat} (hp : page * 16 + 16 ≤ p.home.length) :
    PgOk (bring p page mem).1 M ∧ (bring p page mem).1.home.length = p.home.length ∧ (bring p page mem).1.fr = p.fr ∧ (bring p page mem).2.1.length = M ∧ (bring p page mem).2.2.1 * 16 + 16 ≤ M := by
  unfold bring
  by_cases h : p.ca.length < p.fr.length
  · rw [if_pos h]
    have hf : p.fr.getD p.ca.length 0 * 16 + 16 ≤ M := ok.ff _ (by rw [List.getD_eq_getElem?_getD, List.getElem?_eq_getElem h]; exact List.getElem_mem h)
    refine ⟨⟨ok.hs, ok.f0, ok.f1, ok.ff, by simp only [List.length_append, List.length_singleton]; omega, fun q hq => ?_⟩, rfl, rfl, ?_, hf⟩
    · rcases List.mem_append.mp hq with c | c
      · exact ok.cf q c
      · rw [List.mem_singleton.mp c]; exact ⟨hp, hf⟩
    · show (blit _ _ _).length = M
      rw [blit_len (by omega) (cut16_len hp), hm]
  · rw [if_neg h]
    obtain ⟨q, r, e1, e2⟩ := head_of ok h
    have hq := ok.cf q (by rw [e1]; exact List.mem_cons_self ..)
    have hh : (blit p.home q.1 (cut16 mem q.2)).length = p.home.length := blit_len hq.1 (cut16_len (by omega))
    simp only [e2]
    refine ⟨⟨by rw [hh]; exact ok.hs, ok.f0, ok.f1, ok.ff, ?_, fun z hz => ?_⟩, hh, (by trivial), ?_, hq.2⟩
    · have := ok.cl
      rw [e1] at this ⊢
      simp only [List.tail_cons, List.length_append, List.length_singleton, List.length_cons] at this ⊢
      exact this
    · rw [hh]
      rcases List.mem_append.mp hz with c | c
      · exact ok.cf z (List.mem_of_mem_tail c)
      · rw [List.mem_singleton.mp c]; exact ⟨hp, hq.2⟩
    · show (blit _ _ _).length = M
      rw [blit_len (by omega) (cut16_len (by omega)), hm]
/-- the word at an address -/
def wordAt (p : Pg) (mem : List Int) (a : Nat) : Int := match frOf p.ca (a / 16) with
  | none => p.home.getD a 0
  | some f => mem.getD (f * 16 + a % 16) 0
theorem frOf_ok {p : Pg} {M : Nat} (ok : PgOk p M) {page f : Nat} (h : frOf p.ca page = some f) : f * 16 + 16 ≤ M ∧ page * 16 + 16 ≤ p.home.length := by
  unfold frOf at h
  rw [Option.map_eq_some_iff] at h
  obtain ⟨q, h1, h2⟩ := h
  have hq := ok.cf q (List.mem_of_find?_eq_some h1)
  have e := List.find?_some h1
  rw [← h2]
  have e : q.1 = page := of_decide_eq_true e
  rw [← e]
  exact ⟨hq.2, hq.1⟩
structure PgAt (S : Mir.ST) (pg h c : Nat) (p : Pg) : Prop where
  o : S[pg]? = some (.ins (Str.ofString "Pages") [(Str.ofString "home", .ref h), (Str.ofString "frames", .tup (p.fr.map fun f : Nat => D.int f)), (Str.ofString "came", .ref c)])
  h : S[h]? = some (.lst (p.home.map D.int))
  c : S[c]? = some (.lst (p.ca.map caD))
theorem PgAt.app {S : Mir.ST} {pg h c : Nat} {p : Pg} (a : PgAt S pg h c p) (T : Mir.ST) : PgAt (S ++ T) pg h c p :=
  ⟨by rw [List.getElem?_append_left (lt_of_get a.o)]; exact a.o, by rw [List.getElem?_append_left (lt_of_get a.h)]; exact a.h, by rw [List.getElem?_append_left (lt_of_get a.c)]; exact a.c⟩
theorem at_map {α : Type} {g : α → D} {xs : List α} {i : Nat} {a : α} (h : xs[i]? = some a) : atI (xs.map g) (i : Int) = some (g a) := by
  have hl := (List.getElem?_eq_some_iff.mp h).1
  rw [atI_pos (by omega) (by rw [List.length_map]; omega), Int.toNat_natCast, List.getElem?_map, h]
  rfl
theorem at_getD {xs : List Int} {i : Nat} (h : i < xs.length) : atI (xs.map D.int) (i : Int) = some (.int (xs.getD i 0)) := at_map (by rw [List.getD_eq_getElem?_getD, List.getElem?_eq_getElem h]; rfl)
theorem at_getDN {xs : List Nat} {i : Nat} (h : i < xs.length) : atI (xs.map fun f : Nat => D.int f) (i : Int) = some (.int (xs.getD i 0 : Nat)) := at_map (g := fun f : Nat => D.int f) (by rw [List.getD_eq_getElem?_getD, List.getElem?_eq_getElem h]; rfl)
theorem nb_ints {xs : List Int} : ∀ d ∈ xs.map D.int, Nb 1 d := fun d h => by
  obtain ⟨x, _, rfl⟩ := List.mem_map.mp h
  exact True.intro
theorem found_head (ca : List (Nat × Nat)) (page : Nat) : ((ca.filter fun p => decide (p.1 = page)).map fun p => D.int (p.2 : Nat)) = [] ∧ frOf ca page = none ∨
    ∃ f r, ((ca.filter fun p => decide (p.1 = page)).map fun p => D.int (p.2 : Nat)) = D.int (f : Nat) :: r ∧ frOf ca page = some f := by
  unfold frOf
  rw [← List.head?_filter]
  cases ca.filter fun p => decide (p.1 = page) with
  | nil => exact .inl ⟨rfl, rfl⟩
  | cons q r => exact .inr ⟨q.2, _, rfl, rfl⟩
theorem fof_w {S : Mir.ST} {pg h c page : Nat} {p : Pg} (a : PgAt S pg h c p) (hl : p.ca.length ≤ 1000) {Q : D → Mir.ST → Prop} {X : XQ} (k : ∀ T, Q (onD (frOf p.ca page)) (S ++ T)) : wpR (m_Pages_frame_of [.ref pg, .int page] S) Q X := by
  obtain ⟨h1, h2, h3⟩ := a
  have l3 := lt_of_get h3
  unfold m_Pages_frame_of
  walk_at "mir"
  unfold b_Pages_frame_of
  walk_at "mirs"
  refine lc_map p.ca caD (fun q => decide (q.1 = page)) (fun q => D.int (q.2 : Nat)) rfl (fun acc => ?_) (by unfold SZ; omega) (fun q hq acc => ?_) ?_
  · show (S ++ [O.lst acc])[c]? = _
    rw [List.getElem?_append_left l3]; exact h3
  · refine ⟨_, rfl, ?_⟩
    walk_at "mir"
    exact decide_eq_decide.mpr (by omega)
  · walk_at "mir"
    have nb : ∀ d ∈ ((p.ca.filter fun q => decide (q.1 = page)).map fun q => D.int (q.2 : Nat)), Nb 1 d := fun d hd => by
      obtain ⟨x, _, rfl⟩ := List.mem_map.mp hd
      exact True.intro
    rcases found_head p.ca page with ⟨e1, e2⟩ | ⟨f, r, e1, e2⟩
    · rw [e1]
      refine w_neL (n := 1) (ds := []) (es := []) get_app0 (by rw [get_app]; rfl) (fun d hd => absurd hd List.not_mem_nil) (fun d hd => absurd hd List.not_mem_nil) (by decide) (fun _ => ?_) (fun c => absurd rfl c)
      walk_at "mir"
      have := k [.lst [], .lst []]
      rw [e2] at this
      exact this
    · rw [e1]
      rw [e1] at nb
      refine w_neL (n := 1) (ds := D.int f :: r) (es := []) get_app0 (by rw [get_app]; rfl) nb (fun d hd => absurd hd List.not_mem_nil) (by decide) (fun c => absurd c (by simp)) (fun _ => ?_)
      walk_at "mir"
      have := k [.lst (D.int f :: r), .lst []]
      rw [e2] at this
      exact this
theorem cut16_eq {xs : List Int} {i : Nat} (h : i * 16 + 16 ≤ xs.length) : Mir.cutD (xs.map D.int) (some ((i : Int) * 16)) (some ((i : Int) * 16 + 16)) = (cut16 xs i).map D.int := by
  have e1 : HT.sIx (xs.map D.int).length 0 (some ((i : Int) * 16)) = i * 16 := by
    rw [show (i : Int) * 16 = ((i * 16 : Nat) : Int) by omega, HT.sIx_nat, List.length_map]; omega
  have e2 : HT.sIx (xs.map D.int).length (xs.map D.int).length (some ((i : Int) * 16 + 16)) = i * 16 + 16 := by
    rw [show (i : Int) * 16 + 16 = ((i * 16 + 16 : Nat) : Int) by omega, HT.sIx_nat, List.length_map]; omega
  unfold Mir.cutD cut16
  rw [e1, e2, show i * 16 + 16 - i * 16 = 16 by omega, List.map_take, List.map_drop]
theorem blit_eq {xs ys : List Int} {i : Nat} : (xs.map D.int).take ((i : Int) * 16).toNat ++ (ys.map D.int ++ (xs.map D.int).drop ((i : Int) * 16 + 16).toNat) = (blit xs i ys).map D.int := by
  rw [show ((i : Int) * 16).toNat = i * 16 by omega, show ((i : Int) * 16 + 16).toNat = i * 16 + 16 by omega]
  unfold blit
  rw [List.map_append, List.map_append, List.map_take, List.map_drop, List.append_assoc]
theorem set_back {S : Mir.ST} {c h m : Nat} {x y z w : O} (n1 : h ≠ c) (n2 : m ≠ c) : (((S.set c x).set h y).set m z).set c w = ((S.set h y).set m z).set c w := by
  rw [List.set_comm x y n1.symm, List.set_comm x z n2.symm, List.set_set]
theorem bring_w {S : Mir.ST} {pg h c m page M : Nat} {p : Pg} {mem : List Int} (a : PgAt S pg h c p) (hm : S[m]? = some (.lst (mem.map D.int))) (ok : PgOk p M) (hM : mem.length = M) (hM2 : M ≤ 1000000) (hp : page * 16 + 16 ≤ p.home.length)
    (n1 : m ≠ h) (n2 : m ≠ c) (n3 : h ≠ c) {Q : D → Mir.ST → Prop} {X : XQ}
    (k : ∀ T, Q (.tup [.int (bring p page mem).2.2.1, onD (bring p page mem).2.2.2]) ((((S.set h (.lst ((bring p page mem).1.home.map D.int))).set m (.lst ((bring p page mem).2.1.map D.int))).set c (.lst ((bring p page mem).1.ca.map caD))) ++ T)) :
    wpR (m_Pages_bring [.ref pg, .int page, .ref m] S) Q X := by
  obtain ⟨h1, h2, h3⟩ := a
  have l0 := lt_of_get h1
  have l1 := lt_of_get h2
  have l2 := lt_of_get h3
  have l3 := lt_of_get hm
  have m1 : pg ≠ h := ne_of_get h1 h2 (by intro c; cases c)
  have m2 : pg ≠ c := ne_of_get h1 h3 (by intro c; cases c)
  have m3 : pg ≠ m := ne_of_get h1 hm (by intro c; cases c)
  have hcl := ok.cl
  have hf1 := ok.f1
  have hhs := ok.hs
  unfold m_Pages_bring
  walk_at "mir"
  unfold b_Pages_bring
  walk_at "mirs"
  unfold bring at k
  constructor
  · intro hb
    have hb2 : p.ca.length < p.fr.length := by omega
    rw [if_pos hb2] at k
    have hf : p.fr.getD p.ca.length 0 * 16 + 16 ≤ M := ok.ff _ (by rw [List.getD_eq_getElem?_getD, List.getElem?_eq_getElem hb2]; exact List.getElem_mem hb2)
    rw [at_getDN hb2]
    generalize p.fr.getD p.ca.length 0 = f at hf k
    dsimp only at k
    walk_at "mirs"
    walk_at "side"
    rw [cut16_eq hp]
    have hc := cut16_len hp
    refine ⟨⟨by omega, by omega, by omega, by omega, by rw [List.length_map, hc]; unfold SZ; omega⟩, by unfold SZ; omega, ?_⟩
    rw [blit_eq, show List.map caD p.ca ++ [D.tup [D.int page, D.int f]] = (p.ca ++ [(page, f)]).map caD by rw [List.map_append]; rfl]
    have := k [O.lst (List.map D.int (cut16 p.home page))]
    rw [set_self h2] at this
    exact this
  · intro hb
    have hb2 : ¬ p.ca.length < p.fr.length := by omega
    rw [if_neg hb2] at k
    obtain ⟨q, r, e1, e2⟩ := head_of ok hb2
    have hq := ok.cf q (by rw [e1]; exact List.mem_cons_self ..)
    rw [e2, e1, List.tail_cons] at k
    rw [e1] at h3 ⊢
    rw [e1, List.length_cons] at hcl
    dsimp only at k
    walk_at "mirs"
    refine ⟨by unfold SZ; omega, ?_⟩
    rw [show caD q = .tup [.int q.1, .int q.2] from rfl]
    have hc1 := cut16_len (xs := mem) (i := q.2) (by omega)
    have hb1 : (blit p.home q.1 (cut16 mem q.2)).length = p.home.length := blit_len hq.1 hc1
    have hc2 := cut16_len (xs := blit p.home q.1 (cut16 mem q.2)) (i := page) (by omega)
    walk_at "mirs"
    rw [cut16_eq (by omega)]
    refine ⟨⟨by omega, by omega, by omega, by omega, by rw [List.length_map, hc1]; unfold SZ; omega⟩, ?_⟩
    rw [blit_eq]
    generalize hH : blit p.home q.1 (cut16 mem q.2) = home at hb1 hc2 k ⊢
    rw [cut16_eq (by omega), blit_eq, show List.map caD r ++ [D.tup [D.int page, D.int q.2]] = (r ++ [(page, q.2)]).map caD by rw [List.map_append]; rfl]
    refine ⟨⟨by omega, by omega, by omega, by omega, by rw [List.length_map, hc2]; unfold SZ; omega⟩, by unfold SZ; omega, ?_⟩
    rw [set_back n3 n2]
    exact k _
theorem page_in {p : Pg} {a : Nat} (hd : p.home.length % 16 = 0) (h : a < p.home.length) : a / 16 * 16 + 16 ≤ p.home.length := by omega
theorem word_w {S : Mir.ST} {pg h c m a : Nat} {M : Nat} {p : Pg} {mem : List Int} (s : PgAt S pg h c p) (hm : S[m]? = some (.lst (mem.map D.int))) (ok : PgOk p M) (hM : mem.length = M) (ha : a < p.home.length)
    {Q : D → Mir.ST → Prop} {X : XQ} (k : ∀ T, Q (.int (wordAt p mem a)) (S ++ T)) : wpR (m_Pages_word [.ref pg, .int a, .ref m] S) Q X := by
  have s' := s
  obtain ⟨h1, h2, h3⟩ := s'
  have l0 := lt_of_get h1
  have l1 := lt_of_get h2
  have l2 := lt_of_get h3
  have l3 := lt_of_get hm
  have hcl := ok.cl
  have hf1 := ok.f1
  unfold m_Pages_word
  walk_at "mir"
  unfold b_Pages_word
  walk_at "mirs"
  walk_at "side"
  rw [show (a : Int) / 16 = ((a / 16 : Nat) : Int) by omega]
  refine fof_w s (by omega) fun T => ?_
  unfold wordAt at k
  cases e : frOf p.ca (a / 16) with
  | none =>
    rw [e] at k
    show wpS _ _ _ _
    unfold onD
    walk_at "mirs"
    rw [at_getD ha]
    walk_at "mirs"
  | some f =>
    rw [e] at k
    have hf := (frOf_ok ok e).1
    unfold onD
    walk_at "mirs"
    walk_at "side"
    rw [show (f : Int) * 16 + (a : Int) % 16 = ((f * 16 + a % 16 : Nat) : Int) by omega, at_getD (by omega)]
    walk_at "mirs"
def wordsD (p : Pg) (mem : List Int) : List D := (List.range p.home.length).map fun a => D.int (wordAt p mem a)
theorem words_w {S : Mir.ST} {pg h c m : Nat} {M : Nat} {p : Pg} {mem : List Int} (s : PgAt S pg h c p) (hm : S[m]? = some (.lst (mem.map D.int))) (ok : PgOk p M) (hM : mem.length = M)
    {Q : D → Mir.ST → Prop} {X : XQ} (k : ∀ T, Q (.tup (wordsD p mem)) (S ++ T)) : wpR (m_Pages_words [.ref pg, .ref m] S) Q X := by
  have s' := s
  obtain ⟨h1, h2, h3⟩ := s'
  have l0 := lt_of_get h1
  have l3 := lt_of_get hm
  have hhs := ok.hs
  unfold m_Pages_words
  walk_at "mir"
  unfold b_Pages_words
  walk_at "mirs"
  walk_at "side"
  refine lc_grow (List.range p.home.length) (fun a : Nat => D.int (a : Int)) (fun _ => true) (fun a => D.int (wordAt p mem a)) rngD_map (fun _ _ => True.intro) (by rw [List.length_range]; unfold SZ; omega) (fun a ha acc T => ?_) (fun T => ?_)
  · refine ⟨_, rfl, ?_⟩
    walk_at "mir"
    refine ⟨T, rfl, ?_⟩
    have g := fun o i (h : S[i]? = some o) => (List.getElem?_append_left (l₂ := O.lst acc :: T) (lt_of_get h)).trans h
    have h1' := g _ _ h1
    walk_at "mirs"
    refine word_w (s.app _) (g _ _ hm) ok hM (List.mem_range.mp ha) fun T2 => ?_
    exact ⟨rfl, T ++ T2, by rw [List.append_assoc, List.cons_append]⟩
  · rw [List.filter_eq_self.mpr (fun _ _ => rfl)]
    walk_at "mir"
    exact k _
/-! ### the law's own pages -/
structure MdAt (S : Mir.ST) (md h c : Nat) (p : Pg) : Prop where
  o : S[md]? = some (.dk [(.inr (Str.ofString "home"), .ref h), (.inr (Str.ofString "frames"), .tup (p.fr.map fun f : Nat => D.int f)), (.inr (Str.ofString "came"), .ref c)])
  h : S[h]? = some (.lst (p.home.map D.int))
  c : S[c]? = some (.lst (p.ca.map caD))
theorem lframe_w {S : Mir.ST} {md h c page : Nat} {p : Pg} (a : MdAt S md h c p) {Q : D → Mir.ST → Prop} {X : XQ} (k : Q (onD (frOf p.ca page)) S) : wpR (m__law_frame [.ref md, .int page] S) Q X := by
  obtain ⟨h1, h2, h3⟩ := a
  unfold m__law_frame
  walk_at "mir"
  unfold b__law_frame
  walk_at "mirs"
  refine for_map p.ca caD rfl (fun ys G S1 => S1 = S ∧ (∃ g2 g3, G = [some (.ref md), some (.int page), g2, g3]) ∧ frOf p.ca page = frOf ys page) ⟨rfl, ⟨_, _, rfl⟩, rfl⟩ (fun ys G S1 q => by rw [q.1]; exact h3) ?_ ?_
  · intro G S1 q
    obtain ⟨q1, ⟨g2, g3, q2⟩, q3⟩ := q
    rw [q1, q2]
    rw [q3] at k
    walk_at "mir"
    exact k
  · intro q ys G S1 z
    obtain ⟨z1, ⟨g2, g3, z2⟩, z3⟩ := z
    rw [z1, z2]
    refine ⟨_, rfl, ?_⟩
    walk_at "mir"
    constructor
    · intro e
      rw [z3] at k
      unfold frOf at k
      rw [List.find?_cons_of_pos (by rw [decide_eq_true_eq]; omega)] at k
      exact k
    · intro e
      refine ⟨⟨_, _, rfl⟩, ?_⟩
      rw [z3]
      unfold frOf
      rw [List.find?_cons_of_neg (by rw [decide_eq_true_eq]; omega)]
theorem blit_step {xs ys : List Int} {o n : Nat} (h1 : o + n < xs.length) (h2 : n < ys.length) :
    (xs.take o ++ ys.take n ++ xs.drop (o + n)).set (o + n) (ys.getD n 0) = xs.take o ++ ys.take (n + 1) ++ xs.drop (o + (n + 1)) := by
  have e1 : (xs.take o ++ ys.take n).length = o + n := by rw [List.length_append, List.length_take, List.length_take]; omega
  rw [List.set_append_right _ _ (by omega), e1, Nat.sub_self, List.drop_eq_getElem_cons h1, List.set_cons_zero, List.getD_eq_getElem?_getD, List.getElem?_eq_getElem h2, ← List.take_append_getElem h2]
  simp only [List.append_assoc, List.singleton_append, List.cons_append, List.nil_append, Nat.add_assoc, Option.getD_some]
theorem blit_0 {xs ys : List Int} {o : Nat} : xs.take o ++ ys.take 0 ++ xs.drop (o + 0) = xs := by simp
theorem blit_16 {xs ys : List Int} {i : Nat} (h : ys.length = 16) : xs.take (i * 16) ++ ys.take 16 ++ xs.drop (i * 16 + 16) = blit xs i ys := by
  unfold blit
  rw [List.take_of_length_le (i := 16) (by omega)]
theorem cut_getD {xs : List Int} {i k : Nat} (h : i * 16 + 16 ≤ xs.length) (hk : k < 16) : (cut16 xs i).getD k 0 = xs.getD (i * 16 + k) 0 := by
  unfold cut16
  rw [List.getD_eq_getElem?_getD, List.getD_eq_getElem?_getD, List.getElem?_take_of_lt hk, List.getElem?_drop]
theorem dset_int {xs : List Int} {k : Nat} {a : Int} : (xs.map D.int).set k (.int a) = (xs.set k a).map D.int := by rw [List.map_set]
/-- the sixteen words of a page, one by one -/
theorem into_mem {K : Kt} {S : Mir.ST} {md h c m page M f : Nat} {p : Pg} {mem : List Int} {g3 g5 : Option D} (a : MdAt S md h c p) (hm : S[m]? = some (.lst (mem.map D.int))) (hs : p.home.length ≤ 1000000) (hM : mem.length = M) (hM2 : M ≤ 1000000)
    (hp : page * 16 + 16 ≤ p.home.length) (hf : f * 16 + 16 ≤ M) (n1 : m ≠ h) (m3 : md ≠ m)
    (k : ∀ g5, K.nx [some (.ref md), some (.int page), some (.ref m), g3, some (.int f), g5] (S.set m (.lst ((blit mem f (cut16 p.home page)).map D.int)))) :
    kFor (.nm 5) (sPut (eV 2) (e2 mAdd (e2 mMul (eC (.int 16)) (eV 4)) (eV 5)) (e2 mIx (e2 mIx (eV 0) (eC (.str (Str.ofString "home")))) (e2 mAdd (e2 mMul (eC (.int 16)) (eV 1)) (eV 5))))
      K [some (.ref md), some (.int page), some (.ref m), g3, some (.int f), g5] ⟨rngD 0 1 16, none⟩ S := by
  obtain ⟨h1, h2, h3⟩ := a
  have hc := cut16_len hp
  have l3 := lt_of_get hm
  refine for_rng (fun i G S1 => ∃ g5, G = [some (.ref md), some (.int page), some (.ref m), g3, some (.int f), g5] ∧ S1 = S.set m (.lst ((mem.take (f * 16) ++ (cut16 p.home page).take i ++ mem.drop (f * 16 + i)).map D.int))) ⟨_, rfl, ?_⟩ ?_ ?_
  · rw [blit_0, set_self hm]
  · intro G S1 q
    obtain ⟨g5, q1, q2⟩ := q
    rw [q1, q2, blit_16 hc]
    exact k g5
  · intro i G S1 hi q
    obtain ⟨g5, q1, q2⟩ := q
    have e := blit_step (xs := mem) (ys := cut16 p.home page) (o := f * 16) (n := i) (by omega) (by omega)
    rw [cut_getD hp hi] at e
    have hl : (mem.take (f * 16) ++ (cut16 p.home page).take i ++ mem.drop (f * 16 + i)).length = M := by
      rw [List.length_append, List.length_append, List.length_take, List.length_take, List.length_drop]; omega
    generalize mem.take (f * 16) ++ (cut16 p.home page).take i ++ mem.drop (f * 16 + i) = cur at e hl q2
    rw [q1, q2]
    refine ⟨_, rfl, ?_⟩
    walk_at "mirs"
    walk_at "side"
    rw [show 16 * (page : Int) + (i : Int) = ((page * 16 + i : Nat) : Int) by omega, at_getD (by omega)]
    walk_at "mirs"
    walk_at "side"
    rw [kPutO_at (by omega) (by rw [List.length_map]; omega), show (16 * (f : Int) + (i : Int)).toNat = f * 16 + i by omega, dset_int, e]
    walk_at "mirs"
    exact ⟨_, rfl⟩
theorem into_home {K : Kt} {S : Mir.ST} {md h c m gone M f : Nat} {p : Pg} {mem : List Int} {g1 g5 : Option D} (h1 : S[md]? = some (.dk [(.inr (Str.ofString "home"), .ref h), (.inr (Str.ofString "frames"), .tup (p.fr.map fun f : Nat => D.int f)), (.inr (Str.ofString "came"), .ref c)]))
    (h2 : S[h]? = some (.lst (p.home.map D.int))) (hm : S[m]? = some (.lst (mem.map D.int))) (hs : p.home.length ≤ 1000000) (hM : mem.length = M) (hM2 : M ≤ 1000000)
    (hp : gone * 16 + 16 ≤ p.home.length) (hf : f * 16 + 16 ≤ M) (n1 : m ≠ h) (m3 : md ≠ h)
    (k : ∀ g5, K.nx [some (.ref md), g1, some (.ref m), some (.int gone), some (.int f), g5] (S.set h (.lst ((blit p.home gone (cut16 mem f)).map D.int)))) :
    kFor (.nm 5) (sPut (e2 mIx (eV 0) (eC (.str (Str.ofString "home")))) (e2 mAdd (e2 mMul (eC (.int 16)) (eV 3)) (eV 5)) (e2 mIx (eV 2) (e2 mAdd (e2 mMul (eC (.int 16)) (eV 4)) (eV 5))))
      K [some (.ref md), g1, some (.ref m), some (.int gone), some (.int f), g5] ⟨rngD 0 1 16, none⟩ S := by
  have hf' : f * 16 + 16 ≤ mem.length := by omega
  have hc := cut16_len hf'
  have l3 := lt_of_get h2
  refine for_rng (fun i G S1 => ∃ g5, G = [some (.ref md), g1, some (.ref m), some (.int gone), some (.int f), g5] ∧ S1 = S.set h (.lst ((p.home.take (gone * 16) ++ (cut16 mem f).take i ++ p.home.drop (gone * 16 + i)).map D.int))) ⟨_, rfl, ?_⟩ ?_ ?_
  · rw [blit_0, set_self h2]
  · intro G S1 q
    obtain ⟨g5, q1, q2⟩ := q
    rw [q1, q2, blit_16 hc]
    exact k g5
  · intro i G S1 hi q
    obtain ⟨g5, q1, q2⟩ := q
    have e := blit_step (xs := p.home) (ys := cut16 mem f) (o := gone * 16) (n := i) (by omega) (by omega)
    rw [cut_getD hf' hi] at e
    have hl : (p.home.take (gone * 16) ++ (cut16 mem f).take i ++ p.home.drop (gone * 16 + i)).length = p.home.length := by
      rw [List.length_append, List.length_append, List.length_take, List.length_take, List.length_drop]; omega
    generalize p.home.take (gone * 16) ++ (cut16 mem f).take i ++ p.home.drop (gone * 16 + i) = cur at e hl q2
    rw [q1, q2]
    refine ⟨_, rfl, ?_⟩
    walk_at "mirs"
    walk_at "side"
    rw [show 16 * (f : Int) + (i : Int) = ((f * 16 + i : Nat) : Int) by omega, at_getD (by omega)]
    walk_at "mirs"
    walk_at "side"
    rw [kPutO_at (by omega) (by rw [List.length_map]; omega), show (16 * (gone : Int) + (i : Int)).toNat = gone * 16 + i by omega, dset_int, e]
    walk_at "mirs"
    exact ⟨_, rfl⟩
theorem lbring_w {S : Mir.ST} {md h c m page M : Nat} {p : Pg} {mem : List Int} (a : MdAt S md h c p) (hm : S[m]? = some (.lst (mem.map D.int))) (ok : PgOk p M) (hM : mem.length = M) (hM2 : M ≤ 1000000) (hp : page * 16 + 16 ≤ p.home.length)
    (n1 : m ≠ h) (n2 : m ≠ c) (n3 : h ≠ c) {Q : D → Mir.ST → Prop} {X : XQ}
    (k : Q (.tup [.int (bring p page mem).2.2.1, onD (bring p page mem).2.2.2]) (((S.set h (.lst ((bring p page mem).1.home.map D.int))).set m (.lst ((bring p page mem).2.1.map D.int))).set c (.lst ((bring p page mem).1.ca.map caD)))) :
    wpR (m__law_bring [.ref md, .int page, .ref m] S) Q X := by
  obtain ⟨h1, h2, h3⟩ := a
  have l0 := lt_of_get h1
  have l1 := lt_of_get h2
  have l2 := lt_of_get h3
  have l3 := lt_of_get hm
  have m1 : md ≠ h := ne_of_get h1 h2 (by intro c; cases c)
  have m2 : md ≠ c := ne_of_get h1 h3 (by intro c; cases c)
  have m3 : md ≠ m := ne_of_get h1 hm (by intro c; cases c)
  have hcl := ok.cl
  have hf1 := ok.f1
  have hhs := ok.hs
  unfold m__law_bring
  walk_at "mir"
  unfold b__law_bring
  walk_at "mirs"
  unfold bring at k
  constructor
  · intro hb
    have hb2 : p.ca.length < p.fr.length := by omega
    rw [if_pos hb2] at k
    have hf : p.fr.getD p.ca.length 0 * 16 + 16 ≤ M := ok.ff _ (by rw [List.getD_eq_getElem?_getD, List.getElem?_eq_getElem hb2]; exact List.getElem_mem hb2)
    rw [at_getDN hb2]
    generalize p.fr.getD p.ca.length 0 = f at hf k
    dsimp only at k
    walk_at "mirs"
    walk_at "side"
    refine into_mem ⟨h1, h2, h3⟩ hm hhs hM hM2 hp hf n1 m3 fun g5 => ?_
    rw [set_self h2] at k
    rw [show p.ca ++ [(page, f)] = p.ca ++ [(page, f)] from rfl, List.map_append] at k
    walk_at "mirs"
    exact ⟨by unfold SZ; omega, k⟩
  · intro hb
    have hb2 : ¬ p.ca.length < p.fr.length := by omega
    rw [if_neg hb2] at k
    obtain ⟨q, r, e1, e2⟩ := head_of ok hb2
    have hq := ok.cf q (by rw [e1]; exact List.mem_cons_self ..)
    rw [e2, e1, List.tail_cons] at k
    rw [e1] at h3 ⊢
    rw [e1, List.length_cons] at hcl
    dsimp only at k
    walk_at "mirs"
    refine ⟨by unfold SZ; omega, ?_⟩
    rw [show caD q = .tup [.int q.1, .int q.2] from rfl]
    have hc1 := cut16_len (xs := mem) (i := q.2) (by omega)
    have hb1 : (blit p.home q.1 (cut16 mem q.2)).length = p.home.length := blit_len hq.1 hc1
    walk_at "mirs"
    walk_at "side"
    refine into_home (c := c) (p := p) (by walk_at "mirs") (by walk_at "mirs") (by walk_at "mirs") hhs hM hM2 hq.1 hq.2 n1 m1 fun g5 => ?_
    walk_at "mirs"
    walk_at "side"
    refine into_mem (c := c) (p := { p with home := blit p.home q.1 (cut16 mem q.2), ca := r }) ⟨by walk_at "mirs", by walk_at "mirs", by walk_at "mirs"⟩ (by walk_at "mirs") (by show (blit _ _ _).length ≤ _; omega) hM hM2 (by show _ ≤ (blit _ _ _).length; omega) hq.2 n1 m3 fun g5 => ?_
    rw [List.map_append] at k
    walk_at "mirs"
    refine ⟨by unfold SZ; omega, ?_⟩
    rw [set_back n3 n2]
    exact k
theorem cut_page {p : Pg} {M : Nat} {mem : List Int} (ok : PgOk p M) (hM : mem.length = M) {i : Nat} (hp : i * 16 + 16 ≤ p.home.length) :
    (match frOf p.ca i with | none => cut16 p.home i | some f => cut16 mem f).map D.int = (List.range 16).map fun k => D.int (wordAt p mem (i * 16 + k)) := by
  have key : ∀ xs : List Int, ∀ j, j * 16 + 16 ≤ xs.length → (∀ k, k < 16 → xs.getD (j * 16 + k) 0 = wordAt p mem (i * 16 + k)) → (cut16 xs j).map D.int = (List.range 16).map fun k => D.int (wordAt p mem (i * 16 + k)) := by
    intro xs j hj h
    refine List.ext_getElem? fun k => ?_
    rw [List.getElem?_map, List.getElem?_map]
    by_cases hk : k < 16
    · rw [List.getElem?_range hk, List.getElem?_eq_getElem (by rw [cut16_len hj]; exact hk)]
      have := cut_getD hj hk
      rw [List.getD_eq_getElem?_getD, List.getElem?_eq_getElem (by rw [cut16_len hj]; exact hk), Option.getD_some, h k hk] at this
      rw [Option.map_some, Option.map_some, this]
    · rw [List.getElem?_eq_none (by rw [cut16_len hj]; omega), List.getElem?_eq_none (by rw [List.length_range]; omega)]
      rfl
  cases e : frOf p.ca i with
  | none =>
    refine key _ _ hp fun k hk => ?_
    unfold wordAt
    rw [show (i * 16 + k) / 16 = i by omega, e]
  | some f =>
    refine key _ _ (by rw [hM]; exact (frOf_ok ok e).1) fun k hk => ?_
    unfold wordAt
    rw [show (i * 16 + k) / 16 = i by omega, e]
    show _ = mem.getD (f * 16 + (i * 16 + k) % 16) 0
    rw [show (i * 16 + k) % 16 = k by omega]
theorem words_next {f : Nat → D} {i : Nat} : ((List.range (i * 16)).map f) ++ ((List.range 16).map fun k => f (i * 16 + k)) = (List.range ((i + 1) * 16)).map f := by
  rw [show (i + 1) * 16 = i * 16 + 16 by omega, List.range_add, List.map_append, List.map_map]
  rfl
theorem lwords_w {S : Mir.ST} {md h c m M P : Nat} {p : Pg} {mem : List Int} (a : MdAt S md h c p) (hm : S[m]? = some (.lst (mem.map D.int))) (ok : PgOk p M) (hM : mem.length = M) (hP : p.home.length = P * 16) {Q : D → Mir.ST → Prop} {X : XQ}
    (k : ∀ T, Q (.tup (wordsD p mem)) (S ++ T)) : wpR (m__law_words [.ref md, .ref m] S) Q X := by
  have a' := a
  obtain ⟨h1, h2, h3⟩ := a'
  have hhs := ok.hs
  have l0 := lt_of_get h1
  have l1 := lt_of_get h2
  have l2 := lt_of_get h3
  have l3 := lt_of_get hm
  unfold m__law_words
  walk_at "mir"
  unfold b__law_words
  walk_at "mirs"
  walk_at "side"
  rw [show ((P * 16 : Nat) : Int) / 16 = (P : Nat) by omega]
  walk_at "mir"
  refine for_rng (fun i G S1 => ∃ r g3 g4, G = [some (.ref md), some (.ref m), some (.ref r), g3, g4] ∧ Ex S S1 ∧ S1[r]? = some (.lst ((List.range (i * 16)).map fun a => D.int (wordAt p mem a)))) ⟨_, _, _, rfl, (Ex.refl S).app _, get_app0⟩ ?_ ?_
  · intro G S1 q
    obtain ⟨r, g3, g4, q1, q2, q3⟩ := q
    rw [q1]
    have := q2.use k
    unfold wordsD at this
    rw [hP] at this
    walk_at "mirs"
  · intro i G S1 hi q
    obtain ⟨r, g3, g4, q1, q2, q3⟩ := q
    have a1 : MdAt S1 md h c p := ⟨q2.get h1, q2.get h2, q2.get h3⟩
    have hm1 : S1[m]? = some (.lst (mem.map D.int)) := q2.get hm
    rw [q1]
    refine ⟨_, rfl, ?_⟩
    walk_at "mir"
    refine lframe_w a1 ?_
    have hc := cut_page ok hM (i := i) (by omega)
    have a1' := a1
    obtain ⟨g1, g2, g3⟩ := a1'
    have lr := lt_of_get q3
    have lm := lt_of_get hm1
    have lh := lt_of_get g2
    clear h1 h2 h3 hm a a1 l0 l1 l2 l3
    have hn := words_next (f := fun a => D.int (wordAt p mem a)) (i := i)
    cases e : frOf p.ca i with
    | none =>
      rw [e] at hc
      dsimp only at hc
      unfold onD
      walk_at "mirs"
      walk_at "side"
      rw [show (16 : Int) * (i : Int) = (i : Int) * 16 by omega, cut16_eq (by omega), hc]
      refine ⟨by simp only [List.length_map, List.length_range]; unfold SZ; omega, _, _, _, rfl, q2.app _, ?_⟩
      rw [get_app]
      exact congrArg (fun x => some (O.lst x)) hn
    | some f =>
      have hf := (frOf_ok ok e).1
      rw [e] at hc
      dsimp only at hc
      unfold onD
      walk_at "mirs"
      walk_at "side"
      rw [show (16 : Int) * (f : Int) = (f : Int) * 16 by omega, cut16_eq (by omega), hc]
      refine ⟨by simp only [List.length_map, List.length_range]; unfold SZ; omega, _, _, _, rfl, q2.app _, ?_⟩
      rw [get_app]
      exact congrArg (fun x => some (O.lst x)) hn
theorem Fr.frm' {iw : Nat} {S S' : Mir.ST} (f : Fr iw S S') : Frm [iw] S S' := ⟨f.le, fun i h1 h2 => f.eq i (fun c => h1 (by rw [c]; exact List.mem_cons_self ..)) h2⟩
theorem Frm.toFr {iw : Nat} {S S' : Mir.ST} (f : Frm [iw] S S') : Fr iw S S' := ⟨f.le, fun i h1 h2 => f.eq i (fun c => h1 (List.mem_singleton.mp c)) h2⟩
theorem exFr {iw : Nat} {S S' : Mir.ST} (e : Ex S S') : Fr iw S S' := e.use (P := fun S' => Fr iw S S') fun T => Fr.app _ _ _
theorem DrawSt.ext {S S' : Mir.ST} {iw n : Nat} (d : DrawSt S iw n) (e : Ex S S') : DrawSt S' iw n := e.use (P := fun S' => DrawSt S' iw n) fun T => d.app T
theorem PgAt.frm {S S' : Mir.ST} {pg h c : Nat} {p : Pg} {L : List Nat} (a : PgAt S pg h c p) (f : Frm L S S') (h1 : pg ∉ L) (h2 : h ∉ L) (h3 : c ∉ L) : PgAt S' pg h c p := ⟨f.get h1 a.o, f.get h2 a.h, f.get h3 a.c⟩
theorem MdAt.frm {S S' : Mir.ST} {pg h c : Nat} {p : Pg} {L : List Nat} (a : MdAt S pg h c p) (f : Frm L S S') (h1 : pg ∉ L) (h2 : h ∉ L) (h3 : c ∉ L) : MdAt S' pg h c p := ⟨f.get h1 a.o, f.get h2 a.h, f.get h3 a.c⟩
theorem onD_sh (o : Option Nat) (n : Nat) : Sh (n + 1) (onD o) := by cases o <;> exact True.intro
theorem wordsD_sh (p : Pg) (mem : List Int) (hp : p.home.length ≤ SZ) (n : Nat) : Sh (n + 2) (.tup (wordsD p mem)) := sh_tup (fun d hd => by
  obtain ⟨a, _, rfl⟩ := List.mem_map.mp hd
  exact True.intro) (by unfold wordsD; rw [List.length_map, List.length_range]; exact hp)
structure Kept (S : Mir.ST) (iw n pg h c md mh mc m1 m2 : Nat) (p : Pg) (mem : List Int) : Prop where
  d : DrawSt S iw n
  a : PgAt S pg h c p
  b : MdAt S md mh mc p
  x : S[m1]? = some (.lst (mem.map D.int))
  y : S[m2]? = some (.lst (mem.map D.int))
theorem Kept.ex {S S' : Mir.ST} {iw n pg h c md mh mc m1 m2 : Nat} {p : Pg} {mem : List Int} (k : Kept S iw n pg h c md mh mc m1 m2 p mem) (e : Ex S S') : Kept S' iw n pg h c md mh mc m1 m2 p mem :=
  ⟨k.d.ext e, ⟨e.get k.a.o, e.get k.a.h, e.get k.a.c⟩, ⟨e.get k.b.o, e.get k.b.h, e.get k.b.c⟩, e.get k.x, e.get k.y⟩
theorem Kept.fr {S S' : Mir.ST} {iw n pg h c md mh mc m1 m2 : Nat} {p : Pg} {mem : List Int} (k : Kept S iw n pg h c md mh mc m1 m2 p mem) (hd : DrawSt S' iw n) (f : Fr iw S S') (hn : md ≠ iw) : Kept S' iw n pg h c md mh mc m1 m2 p mem := by
  obtain ⟨_, _, _, g, _⟩ := k.d
  have n0 := ne_of_get k.a.o g (by intro c; cases c)
  have n1 := ne_of_get k.a.h g (by intro c; cases c)
  have n2 := ne_of_get k.a.c g (by intro c; cases c)
  have n3 := ne_of_get k.b.h g (by intro c; cases c)
  have n4 := ne_of_get k.b.c g (by intro c; cases c)
  have n5 := ne_of_get k.x g (by intro c; cases c)
  have n6 := ne_of_get k.y g (by intro c; cases c)
  exact ⟨hd, ⟨f.get n0 k.a.o, f.get n1 k.a.h, f.get n2 k.a.c⟩, ⟨f.get hn k.b.o, f.get n3 k.b.h, f.get n4 k.b.c⟩, f.get n5 k.x, f.get n6 k.y⟩
theorem kept_w {S : Mir.ST} {iw n pg h c md mh mc m1 m2 M P : Nat} {p : Pg} {mem : List Int} (kp : Kept S iw n pg h c md mh mc m1 m2 p mem) (hn : md ≠ iw) (ok : PgOk p M) (hM : mem.length = M) (hP : p.home.length = P * 16) (hP0 : 0 < P)
    {Q : D → Mir.ST → Prop} {X : XQ} (k : ∀ S', DrawSt S' iw n → Fr iw S S' → Q (.bl true) S') : wpR (m__law_is_kept [.ref iw, .ref pg, .ref md, .ref m1, .ref m2] S) Q X := by
  have hhs := ok.hs
  have hcl : p.ca.length ≤ 1000 := Nat.le_trans ok.cl ok.f1
  unfold m__law_is_kept
  walk_at "mir"
  unfold b__law_is_kept
  walk_at "mir"
  refine lwords_w kp.b kp.y ok hM hP fun T => ?_
  have e1 : Ex S (S ++ T) := (Ex.refl S).app T
  generalize S ++ T = S1 at e1
  have kp1 := kp.ex e1
  walk_at "mir"
  refine w_neL kp1.x kp1.y nb_ints nb_ints (by decide) (fun _ => ?_) (fun c => absurd rfl c)
  have h1 := kp1.a.o
  walk_at "mirs"
  refine words_w kp1.a kp1.x ok hM fun T => ?_
  have e2 : Ex S (S1 ++ T) := e1.app T
  have kp2 := kp1.ex ((Ex.refl S1).app T)
  generalize S1 ++ T = S2 at e2 kp2
  clear kp1 e1 h1 S1
  walk_at "mir"
  refine same_w (n := 40) (wordsD_sh p mem (by unfold SZ; omega) 38) ?_
  have h2 := kp2.b.o
  have h3 := kp2.b.h
  walk_at "mirs"
  walk_at "side"
  rw [show ((P * 16 : Nat) : Int) / 16 = (P : Nat) by omega]
  walk_at "mir"
  refine for_rng (fun i G S3 => ∃ g6, G = [some (.ref iw), some (.ref pg), some (.ref md), some (.ref m1), some (.ref m2), some (.tup (wordsD p mem)), g6, none, none] ∧ Ex S S3) ⟨_, rfl, e2⟩ ?_ ?_
  · intro G S3 q
    obtain ⟨g6, q1, q2⟩ := q
    have kp3 := kp.ex q2
    rw [q1]
    walk_at "mirs"
    refine for_rng (fun i G S4 => ∃ g7 g8, G = [some (.ref iw), some (.ref pg), some (.ref md), some (.ref m1), some (.ref m2), some (.tup (wordsD p mem)), g6, g7, g8] ∧ Fr iw S S4 ∧ DrawSt S4 iw n) ⟨_, _, rfl, exFr q2, kp3.d⟩ ?_ ?_
    · intro G S4 z
      obtain ⟨g7, g8, z1, z2, z3⟩ := z
      rw [z1]
      walk_at "mir"
      exact k _ z3 z2
    · intro i G S4 hi z
      obtain ⟨g7, g8, z1, z2, z3⟩ := z
      rw [z1]
      refine ⟨_, rfl, ?_⟩
      have hl : (wordsD p mem).length = P * 16 := by unfold wordsD; rw [List.length_map, List.length_range, hP]
      walk_at "mir"
      refine next_w z3 (by rw [hl]; omega) fun v S5 v0 v1 d5 f5 => ?_
      have kp5 := kp.fr d5 (z2.trans f5) hn
      obtain ⟨a, rfl⟩ := Int.eq_ofNat_of_zero_le v0
      have ha : a < p.home.length := by rw [hl] at v1; omega
      have h5 := kp5.a.o
      walk_at "mirs"
      refine word_w kp5.a kp5.x ok hM ha fun T => ?_
      have e : (wordsD p mem)[a]? = some (.int (wordAt p mem a)) := by
        unfold wordsD
        rw [List.getElem?_map, List.getElem?_range ha]; rfl
      walk_at "mir"
      rw [show atI (wordsD p mem) (a : Int) = some (.int (wordAt p mem a)) by rw [atI_pos (by omega) (by rw [hl]; omega), Int.toNat_natCast, e]]
      walk_at "mir"
      refine same_w (n := 40) (d := .int (wordAt p mem a)) True.intro ?_
      walk_at "mir"
      exact ⟨_, _, rfl, (z2.trans f5).trans (.app _ _ _), d5.app _⟩
  · intro i G S3 hi q
    obtain ⟨g6, q1, q2⟩ := q
    have kp3 := kp.ex q2
    have h3 := kp3.a.o
    rw [q1]
    refine ⟨_, rfl, ?_⟩
    walk_at "mirs"
    refine fof_w kp3.a hcl fun T => ?_
    have e4 : Ex S (S3 ++ T) := q2.app T
    generalize S3 ++ T = S4 at e4
    have kp4 := kp.ex e4
    walk_at "mir"
    refine lframe_w kp4.b ?_
    walk_at "mir"
    refine same_w (n := 40) (onD_sh _ 39) ?_
    walk_at "mir"
    exact ⟨_, rfl, e4⟩
theorem word42_w {S : Mir.ST} {iw n : Nat} (d : DrawSt S iw n) {Q : D → Mir.ST → Prop} {X : XQ} (k : ∀ (v : Int) (S' : Mir.ST), DrawSt S' iw n → Fr iw S S' → Q (.int v) S') : wpR (m__law_word [.ref iw] S) Q X := by
  unfold m__law_word
  walk_at "mir"
  unfold b__law_word
  walk_at "mir"
  walk_at "side"
  rw [show (1 : Int) * 2 ^ 30 = 1073741824 by decide]
  refine next_w d (by decide) fun v S1 v0 v1 d1 f1 => ?_
  walk_at "mir"
  walk_at "side"
  have h0 : 0 ≤ v / 997 % 5 := by omega
  have h1 : v / 997 % 5 < 5 := by omega
  generalize v / 997 % 5 = j at h0 h1
  obtain ⟨i, rfl⟩ := Int.eq_ofNat_of_zero_le h0
  have hi : i < 5 := by omega
  have k' := fun v => k v (S1 ++ [O.lst [D.int 0, D.int 1, D.int 4294967295, D.int (v % 997), D.int (4 * v + 3)]]) (d1.app _) (f1.trans (.app _ _ _))
  match i, hi with
  | 0, _ => exact k _ _ (d1.app _) (f1.trans (.app _ _ _))
  | 1, _ => exact k _ _ (d1.app _) (f1.trans (.app _ _ _))
  | 2, _ => exact k _ _ (d1.app _) (f1.trans (.app _ _ _))
  | 3, _ => exact k _ _ (d1.app _) (f1.trans (.app _ _ _))
  | 4, _ => exact k _ _ (d1.app _) (f1.trans (.app _ _ _))
theorem ints_of {vs : List D} (h : ∀ v ∈ vs, ∃ i : Int, v = .int i) : ∃ ns : List Int, vs = ns.map D.int := by
  induction vs with
  | nil => exact ⟨[], rfl⟩
  | cons v vs ih =>
    obtain ⟨i, rfl⟩ := h v (List.mem_cons_self ..)
    obtain ⟨ns, rfl⟩ := ih fun v hv => h v (List.mem_cons_of_mem _ hv)
    exact ⟨i :: ns, rfl⟩
inductive T42 where
  | gs | m1 | m2 | gl (k : Bool) | pg (k : Bool) | ph (k : Bool) | pc (k : Bool) | md (k : Bool) | mh (k : Bool) | mc (k : Bool) | im (k : Bool)
structure Sy where
  a1 : List Int
  a2 : List Int
  g : Bool → Pg
  l : Bool → Pg
  img : Bool → List Int
def frD (p : Pg) : D := .tup (p.fr.map fun f : Nat => D.int f)
def ct42 (A : T42 → Nat) (s : Sy) (b : Bool → Bool) : T42 → Option O
  | .gs => some (.lst ((if b false = true then [D.ref (A (.gl false))] else []) ++ (if b true = true then [D.ref (A (.gl true))] else [])))
  | .m1 => some (.lst (s.a1.map D.int))
  | .m2 => some (.lst (s.a2.map D.int))
  | .gl k => if b k = true then some (.lst [.ref (A (.pg k)), .ref (A (.md k)), .ref (A (.im k)), .tup ((s.img k).map D.int)]) else none
  | .pg k => if b k = true then some (.ins (Str.ofString "Pages") [(Str.ofString "home", .ref (A (.ph k))), (Str.ofString "frames", frD (s.g k)), (Str.ofString "came", .ref (A (.pc k)))]) else none
  | .ph k => if b k = true then some (.lst ((s.g k).home.map D.int)) else none
  | .pc k => if b k = true then some (.lst ((s.g k).ca.map caD)) else none
  | .md k => if b k = true then some (.dk [(.inr (Str.ofString "home"), .ref (A (.mh k))), (.inr (Str.ofString "frames"), frD (s.l k)), (.inr (Str.ofString "came"), .ref (A (.mc k)))]) else none
  | .mh k => if b k = true then some (.lst ((s.l k).home.map D.int)) else none
  | .mc k => if b k = true then some (.lst ((s.l k).ca.map caD)) else none
  | .im k => if b k = true then some (.lst ((s.img k).map D.int)) else none
def all2 : Bool → Bool := fun _ => true
structure SyOk (s : Sy) (M : Nat) (P : Bool → Nat) : Prop where
  e : s.a1 = s.a2
  g : s.g = s.l
  m : s.a1.length = M
  ok : ∀ k, PgOk (s.g k) M
  h : ∀ k, (s.g k).home.length = P k * 16
  i : ∀ k, (s.img k).length = P k * 16
theorem Lay.pgAt {S : Mir.ST} {F : List Nat} {A : T42 → Nat} {s : Sy} (L : Lay F S A (ct42 A s all2)) (k : Bool) : PgAt S (A (.pg k)) (A (.ph k)) (A (.pc k)) (s.g k) := ⟨L.get (t := .pg k) rfl, L.get (t := .ph k) rfl, L.get (t := .pc k) rfl⟩
theorem Lay.mdAt {S : Mir.ST} {F : List Nat} {A : T42 → Nat} {s : Sy} (L : Lay F S A (ct42 A s all2)) (k : Bool) : MdAt S (A (.md k)) (A (.mh k)) (A (.mc k)) (s.l k) := ⟨L.get (t := .md k) rfl, L.get (t := .mh k) rfl, L.get (t := .mc k) rfl⟩
def updB (f : Bool → Pg) (k : Bool) (p : Pg) : Bool → Pg := fun j => if j = k then p else f j
theorem lay_bring {S : Mir.ST} {F : List Nat} {A : T42 → Nat} {s : Sy} (L : Lay F S A (ct42 A s all2)) (k : Bool) {p : Pg} {mem : List Int} (hf : p.fr = (s.g k).fr) :
    Lay F (((S.set (A (.ph k)) (.lst (p.home.map D.int))).set (A .m1) (.lst (mem.map D.int))).set (A (.pc k)) (.lst (p.ca.map caD))) A (ct42 A { s with a1 := mem, g := updB s.g k p } all2) := by
  have L1 := L.put (t := .ph k) (o := .lst (p.home.map D.int)) rfl
  have L2 := L1.put (t := .m1) (o := .lst (mem.map D.int)) (o0 := .lst (s.a1.map D.int)) (by rw [if_neg (by simp)]; rfl)
  have L3 := L2.put (t := .pc k) (o := .lst (p.ca.map caD)) (o0 := .lst ((s.g k).ca.map caD)) (by rw [if_neg (by simp), if_neg (by simp)]; rfl)
  refine L3.eqc fun t => ?_
  cases t with
  | pg j => by_cases c : j = k <;> simp [ct42, all2, updB, c, frD, hf]
  | _ => first | (simp [ct42, all2, updB]; done) | (rename_i j; by_cases c : j = k <;> simp [ct42, all2, updB, c])
theorem lay_lbring {S : Mir.ST} {F : List Nat} {A : T42 → Nat} {s : Sy} (L : Lay F S A (ct42 A s all2)) (k : Bool) {p : Pg} {mem : List Int} (hf : p.fr = (s.l k).fr) :
    Lay F (((S.set (A (.mh k)) (.lst (p.home.map D.int))).set (A .m2) (.lst (mem.map D.int))).set (A (.mc k)) (.lst (p.ca.map caD))) A (ct42 A { s with a2 := mem, l := updB s.l k p } all2) := by
  have L1 := L.put (t := .mh k) (o := .lst (p.home.map D.int)) rfl
  have L2 := L1.put (t := .m2) (o := .lst (mem.map D.int)) (o0 := .lst (s.a2.map D.int)) (by rw [if_neg (by simp)]; rfl)
  have L3 := L2.put (t := .mc k) (o := .lst (p.ca.map caD)) (o0 := .lst ((s.l k).ca.map caD)) (by rw [if_neg (by simp), if_neg (by simp)]; rfl)
  refine L3.eqc fun t => ?_
  cases t with
  | md j => by_cases c : j = k <;> simp [ct42, all2, updB, c, frD, hf]
  | _ => first | (simp [ct42, all2, updB]; done) | (rename_i j; by_cases c : j = k <;> simp [ct42, all2, updB, c])
theorem lay_mem {S : Mir.ST} {F : List Nat} {A : T42 → Nat} {s : Sy} (L : Lay F S A (ct42 A s all2)) {x y : List Int} :
    Lay F ((S.set (A .m1) (.lst (x.map D.int))).set (A .m2) (.lst (y.map D.int))) A (ct42 A { s with a1 := x, a2 := y } all2) := by
  have L1 := L.put (t := .m1) (o := .lst (x.map D.int)) rfl
  have L2 := L1.put (t := .m2) (o := .lst (y.map D.int)) (o0 := .lst (s.a2.map D.int)) (by rw [if_neg (by simp)]; rfl)
  refine L2.eqc fun t => ?_
  cases t <;> simp [ct42]
end Pf

namespace Pf
open PySem L2 PyProof.Rows Mir
local macro_rules | `(tactic| walk_at "mir") => `(tactic| simp -implicitDefEqProofs only [wp_ok, wp_sSeq, seq_nx, seq_rt, seq_ex, kx_seq, kx_mk, kRet_seq, kRet_mk, kRet_fe, kx_fe, fe_ex, seq_bk, seq_ct, wp_sNil, wp_sBreak, wp_sCont, wp_sRetN, wp_sExpr, kExpr_eq, wp_sRet, kRet_eq, wp_sSet, kSet_eq, wp_sSetT, wp_sIf, kIfS_d, kIfS_n, kIfS_t, kIfS_f, wp_sPar, kPar_eq, wp_sAug, kAug_eq, kAug2_eq, wp_sPut, kPut1_eq, kPut2_eq, kPut3_ref, wp_sPutAug, wp_sSlc, kSc1_eq, kSc2_eq, kSc3_eq, kSc4_ref, r_tupR2, r_lstR2, set_app_lt, kPA1_eq, kPA3_eq, wp_sFld, kFld1_eq, wp_sFldAug, kFA0_eq, kFA1_eq, kFA2_eq, wp_sFor, wp_iSeq, kSeq_tup, kSeq_fl, wp_iRg1, kRg1_eq, wp_iRg2, kRg2_eq,
  wp_eV, kV_some, wp_eC, wp_e2, k2a_eq, k2b_eq, wp_e1, k1_eq, wp_eCall, wp_aNil, wp_aCons, kC1_eq, kC2_eq, wp_eTup, kTup_eq, wp_eLst, kLst_eq, wp_eFn, kFn_eq, wp_tb, kTb_eq, wp_tTru, kTru_bl, wp_tAnd, kAnd_d, kAnd_n, kAnd_t, kAnd_f, wp_tOr, kOr_d, kOr_n, kOr_t, kOr_f, wp_tNot, kNot_eq, wp_eIf, kIf_d, kIf_n, kIf_t, kIf_f, wp_eAnd, kAndV_d, kAndV_n, kAndV_t, kAndV_f, wp_eOr, kOrV_d, kOrV_n, kOrV_t, kOrV_f, wp_eNot, kNotV_bl, wp_eChain, kCh1_eq, kCh2_eq, kCh3_eq, wp_eSl, kSl1_eq, kSl2_eq, kSl3_eq, wp_oNone, wp_oSome, kO_eq, wp_eBm, kBm_eq, kBm2_eq, wp_eBm0, kBm0_eq, wp_eMeth, kMt2_eq, wp_eMake, kMk_eq, kMkI_eq, wp_eDict, wp_pairs_nil, wp_pairs_cons, kP1_eq, kP2_eq, kP3_eq, wp_eLc, wp_allocO, fe_nx, fe_rt,
  r_add, r_addS, r_addT, r_iadd, r_sub, r_mul, r_fdiv, r_mod, r_pow, r_shl, r_shr, r_and, r_or, r_xor, r_neg, r_lt, r_le, r_gt, r_ge, r_eqI, r_eqS, r_eqB, r_neI, r_neS, r_neB, r_isB, r_isNB, r_is0, r_isI, r_isT, r_isNot0, r_isNotI, r_isNotT, r_int, r_intB, r_abs, r_max2, r_min2, r_lenT, r_lenF, r_lenR, kLen_lst, kLen_dk, kOpt_some, r_ixT, r_ixF, r_ixR, kIx_lst, kIx_dkS, kIx_dkI, look_cons, inr_inj, inl_inj, ofS_inj, String.reduceEq, reduceIte, kPutO_dkS, kPutO_dkI, r_append, sl_ref, kPA2_ref, kPAo_dkS, kPAo_dkI, kPA4_ref, kPDo_dkS, kPDo_dkI,
  List.getElem?_cons_zero, List.getElem?_cons_succ, List.set_cons_zero, List.set_cons_succ, List.length_cons, List.length_nil, List.map_cons, List.map_nil, List.cons_append, List.nil_append, List.replicate_succ, List.replicate_zero, decide_eq_true_eq, decide_eq_false_iff_not, decide_true, decide_false, Bool.not_true, Bool.not_false, Nat.reduceAdd, tyD_ref, beq_self_eq_true, Int.zero_add, Int.mul_one, Int.toNat_natCast, Nat.zero_add, wp_mkFn, eq_self, c_page, r_fld, kFldO_ins, lk_nil, lk_cons, kFld2_ref, kFA3_ref, kFlO_ins, kMt_ref, kMtO_ins, kMtM_some, putA_nil, putA_cons, mem_one, kLsO_lst, r_pop0, r_popAt0, r_insert, r_extend, r_tupR, r_tupT, r_tupF, r_listR, r_listT, r_listF, r_addR, kSeq_refO, set_get, set_get', set_same, List.take_zero, List.drop_zero, r_mulR, List.flatten_replicate_singleton, wipe_nil, wipe_cons, wp_tYes, kSetT_ref, kSetT_tup, kSetT_nm, setG_nil, setG_cons, atI_0, atI_1, atI_2, atI_3, List.length_set, List.set_set, List.getElem?_append_left, List.head?_cons, List.tail_cons, sz_le, sz_lt, Nat.reduceLeDiff, Nat.reduceLT, Nat.reduceSub, lim64_of, lim62_of, cMod_of, cDiv_of, cNn_of, cPow_of, Int.reduceLT, Int.reduceLE, Int.reduceNeg, Int.reduceToNat, Int.reduceAdd, r_inT, r_ninT, flat_int, flat_str, flat_bl, eqF_int, eqF_str, dec_or, List.all_cons, List.all_nil, List.any_cons, List.any_nil, Bool.and_self, Bool.and_true, Bool.or_false, Bool.false_or, Bool.true_or, Bool.or_true, r_isi, kIsi_some, tyN_non, tyN_bl, tyN_int, tyN_str, tyN_tup, tyN_fl, tyN_ref, tyO_lst, tyO_dk, subN_int, subN_bool, subN_str, subN_tuple, subN_list, subN_dict, Option.bind_some, String.reduceBEq, r_isS, r_isBl, r_isR, r_isF, r_isNotS, r_isNotBl, r_isNotR, r_isNotF, reduceCtorEq, kDict_dk, kDk_some, keysD_nil, keysD_s, keysD_i, Option.map_some, dmerge_def, List.foldl_cons, List.foldl_nil, dput_nil, dput_n, dput_h, List.forall_mem_cons, List.not_mem_nil, true_imp_iff, false_imp_iff, implies_true, ne_eq, not_false_eq_true, not_true_eq_false, get_app, get_app0, set_app, set_app0, get_appE, get_appE0, set_appE, set_appE0, List.length_map, List.length_append, List.append_assoc, Nat.add_assoc, Nat.reduceEqDiff, true_and, and_true])
local macro_rules | `(tactic| walk_at "mirs") => `(tactic| simp -implicitDefEqProofs only [wp_ok, wp_sSeq, seq_nx, seq_rt, seq_ex, kx_seq, kx_mk, kRet_seq, kRet_mk, kRet_fe, kx_fe, fe_ex, seq_bk, seq_ct, wp_sNil, wp_sBreak, wp_sCont, wp_sRetN, wp_sExpr, kExpr_eq, wp_sRet, kRet_eq, wp_sSet, kSet_eq, wp_sSetT, wp_sIf, kIfS_d, kIfS_n, kIfS_t, kIfS_f, wp_sPar, kPar_eq, wp_sAug, kAug_eq, kAug2_eq, wp_sPut, kPut1_eq, kPut2_eq, kPut3_ref, wp_sPutAug, wp_sSlc, kSc1_eq, kSc2_eq, kSc3_eq, kSc4_ref, r_tupR2, r_lstR2, set_app_lt, kPA1_eq, kPA3_eq, wp_sFld, kFld1_eq, wp_sFldAug, kFA0_eq, kFA1_eq, kFA2_eq, wp_sFor, wp_iSeq, kSeq_tup, kSeq_fl, wp_iRg1, kRg1_eq, wp_iRg2, kRg2_eq,
  wp_eV, kV_some, wp_eC, wp_e2, k2a_eq, k2b_eq, wp_e1, k1_eq, wp_eCall, wp_aNil, wp_aCons, kC1_eq, kC2_eq, wp_eTup, kTup_eq, wp_eLst, kLst_eq, wp_eFn, kFn_eq, wp_tb, kTb_eq, wp_tTru, kTru_bl, wp_tAnd, kAnd_d, kAnd_n, kAnd_t, kAnd_f, wp_tOr, kOr_d, kOr_n, kOr_t, kOr_f, wp_tNot, kNot_eq, wp_eIf, kIf_d, kIf_n, kIf_t, kIf_f, wp_eAnd, kAndV_d, kAndV_n, kAndV_t, kAndV_f, wp_eOr, kOrV_d, kOrV_n, kOrV_t, kOrV_f, wp_eNot, kNotV_bl, wp_eChain, kCh1_eq, kCh2_eq, kCh3_eq, wp_eSl, kSl1_eq, kSl2_eq, kSl3_eq, wp_oNone, wp_oSome, kO_eq, wp_eBm, kBm_eq, kBm2_eq, wp_eBm0, kBm0_eq, wp_eMeth, kMt2_eq, wp_eMake, kMk_eq, kMkI_eq, wp_eDict, wp_pairs_nil, wp_pairs_cons, kP1_eq, kP2_eq, kP3_eq, wp_eLc, wp_allocO, fe_nx, fe_rt,
  r_add, r_addS, r_addT, r_iadd, r_sub, r_mul, r_fdiv, r_mod, r_pow, r_shl, r_shr, r_and, r_or, r_xor, r_neg, r_lt, r_le, r_gt, r_ge, r_eqI, r_eqS, r_eqB, r_neI, r_neS, r_neB, r_isB, r_isNB, r_is0, r_isI, r_isT, r_isNot0, r_isNotI, r_isNotT, r_int, r_intB, r_abs, r_max2, r_min2, r_lenT, r_lenF, r_lenR, kLen_lst, kLen_dk, kOpt_some, r_ixT, r_ixF, r_ixR, kIx_lst, kIx_dkS, kIx_dkI, look_cons, inr_inj, inl_inj, ofS_inj, String.reduceEq, reduceIte, kPutO_dkS, kPutO_dkI, r_append, sl_ref, kPA2_ref, kPAo_dkS, kPAo_dkI, kPA4_ref, kPDo_dkS, kPDo_dkI,
  List.getElem?_cons_zero, List.getElem?_cons_succ, List.set_cons_zero, List.set_cons_succ, List.length_cons, List.length_nil, List.map_cons, List.map_nil, List.cons_append, List.nil_append, List.replicate_succ, List.replicate_zero, decide_eq_true_eq, decide_eq_false_iff_not, decide_true, decide_false, Bool.not_true, Bool.not_false, Nat.reduceAdd, tyD_ref, beq_self_eq_true, Int.zero_add, Int.mul_one, Int.toNat_natCast, Nat.zero_add, wp_mkFn, eq_self, c_page, r_fld, kFldO_ins, lk_nil, lk_cons, kFld2_ref, kFA3_ref, kFlO_ins, kMt_ref, kMtO_ins, kMtM_some, putA_nil, putA_cons, mem_one, kLsO_lst, r_pop0, r_popAt0, r_insert, r_extend, r_tupR, r_tupT, r_tupF, r_listR, r_listT, r_listF, r_addR, kSeq_refO, set_get, set_get', set_same, List.take_zero, List.drop_zero, r_mulR, List.flatten_replicate_singleton, wipe_nil, wipe_cons, wp_tYes, kSetT_ref, kSetT_tup, kSetT_nm, setG_nil, setG_cons, atI_0, atI_1, atI_2, atI_3, List.length_set, List.set_set, List.getElem?_append_left, List.head?_cons, List.tail_cons, sz_le, sz_lt, Nat.reduceLeDiff, Nat.reduceLT, Nat.reduceSub, lim64_of, lim62_of, cMod_of, cDiv_of, cNn_of, cPow_of, Int.reduceLT, Int.reduceLE, Int.reduceNeg, Int.reduceToNat, Int.reduceAdd, r_inT, r_ninT, flat_int, flat_str, flat_bl, eqF_int, eqF_str, dec_or, List.all_cons, List.all_nil, List.any_cons, List.any_nil, Bool.and_self, Bool.and_true, Bool.or_false, Bool.false_or, Bool.true_or, Bool.or_true, r_isi, kIsi_some, tyN_non, tyN_bl, tyN_int, tyN_str, tyN_tup, tyN_fl, tyN_ref, tyO_lst, tyO_dk, subN_int, subN_bool, subN_str, subN_tuple, subN_list, subN_dict, Option.bind_some, String.reduceBEq, r_isS, r_isBl, r_isR, r_isF, r_isNotS, r_isNotBl, r_isNotR, r_isNotF, reduceCtorEq, kDict_dk, kDk_some, keysD_nil, keysD_s, keysD_i, Option.map_some, dmerge_def, List.foldl_cons, List.foldl_nil, dput_nil, dput_n, dput_h, List.forall_mem_cons, List.not_mem_nil, true_imp_iff, false_imp_iff, implies_true, ne_eq, not_false_eq_true, not_true_eq_false, get_app, get_app0, set_app, set_app0, get_appE, get_appE0, set_appE, set_appE0, List.length_map, List.length_append, List.append_assoc, Nat.add_assoc, Nat.reduceEqDiff, true_and, and_true, *])
local macro_rules | `(tactic| walk_at "sd") => `(tactic| first | with_reducible rfl | decide | (have hSZ : SZ = 16777216 := rfl; first | exact cMod_of (by omega) | exact lim64_l (by omega) (by omega) | exact lim64_r (by omega) (by omega) | exact cNn_of (by omega) | exact cDiv_of (by omega) (by omega) | exact cPow_of (by omega) (by omega) (by omega) (by omega) | exact lim62_of (by omega) (by omega) | exact lim64_of (by omega) (by omega) | omega | ((try simp only [List.length_map, List.length_append, List.length_cons, List.length_nil] at *); (have hSZ : SZ = 16777216 := rfl); omega)))
local macro_rules | `(tactic| walk_at "side") => `(tactic| repeat (with_reducible refine And.intro (by walk_at "sd") ?_))
theorem filt_both (l : List Nat) (p : Nat → Bool) : (l.filter p).length + (l.filter fun k => !p k).length = l.length := by
  induction l with
  | nil => rfl
  | cons x l ih =>
    rw [List.filter_cons, List.filter_cons, List.length_cons]
    cases p x <;> simp <;> omega
def evs (m : Nat) : List Nat := (List.range m).filter (fun k => decide (k % 2 = 0)) ++ (List.range m).filter (fun k => decide (k % 2 = 1))
theorem evs_len (m : Nat) : (evs m).length = m := by
  unfold evs
  rw [List.length_append]
  have h : (fun k : Nat => decide (k % 2 = 1)) = fun k => !decide (k % 2 = 0) := by
    funext k
    rw [← decide_not]
    exact decide_eq_decide.mpr (by omega)
  rw [h]
  have := filt_both (List.range m) fun k => decide (k % 2 = 0)
  rw [List.length_range] at this
  exact this
theorem evs_lt {m k : Nat} (h : k ∈ evs m) : k < m := by
  unfold evs at h
  rcases List.mem_append.mp h with c | c <;> exact List.mem_range.mp (List.mem_filter.mp c).1
def intN (xs : List Nat) : List D := xs.map fun k : Nat => D.int (k : Int)
theorem intN_map (xs : List Nat) : intN xs = (xs.map fun k : Nat => (k : Int)).map D.int := by unfold intN; rw [List.map_map]; rfl
def bOf (i : Nat) : Bool → Bool := fun j => match i with | 0 => false | 1 => !j | _ => true
structure Mk42 (S : Mir.ST) (n ic ifr igs im1 im2 C0 C1 mn i : Nat) (mem : List Int) (A : T42 → Nat) (s : Sy) (P : Bool → Nat) : Prop where
  d : DrawSt S 0 n
  c : S[ic]? = some (.lst [.int C0, .int C1])
  f : S[ifr]? = some (.lst (intN (evs mn)))
  l : Lay [0, n, ic, ifr] S A (ct42 A s (bOf i))
  g : A .gs = igs
  x : A .m1 = im1
  y : A .m2 = im2
  s1 : s.a1 = mem
  s2 : s.a2 = mem
  e : s.g = s.l
  ok : ∀ k, bOf i k = true → PgOk (s.g k) (16 * mn) ∧ (s.g k).home.length = P k * 16 ∧ (s.img k).length = P k * 16 ∧ 0 < P k
theorem cut_to {xs : List Nat} {a : Nat} : Mir.cutD (intN xs) none (some (a : Int)) = intN (xs.take a) := by
  rw [cut_pos]
  unfold intN
  rw [List.map_take]
theorem cut_fromto {xs : List Nat} {a b : Nat} (h : a + b ≤ xs.length) : Mir.cutD (intN xs) (some (a : Int)) (some ((a : Int) + (b : Int))) = intN ((xs.drop a).take b) := by
  have hl : (intN xs).length = xs.length := by unfold intN; rw [List.length_map]
  have e1 : HT.sIx (intN xs).length 0 (some (a : Int)) = a := by rw [HT.sIx_nat, hl]; omega
  have e2 : HT.sIx (intN xs).length (intN xs).length (some ((a : Int) + (b : Int))) = a + b := by
    rw [show (a : Int) + (b : Int) = ((a + b : Nat) : Int) by omega, HT.sIx_nat, hl]; omega
  unfold Mir.cutD
  rw [e1, e2, show a + b - a = b by omega]
  unfold intN
  rw [List.map_take, List.map_drop]
theorem sort_nat (xs : List Nat) : ∃ ys : List Nat, isort (xs.map fun k : Nat => (k : Int)) = ys.map (fun k : Nat => (k : Int)) ∧ ys.Perm xs := by
  have p := isort_perm (xs.map fun k : Nat => (k : Int))
  refine ⟨(isort (xs.map fun k : Nat => (k : Int))).map Int.toNat, ?_, ?_⟩
  · rw [List.map_map]
    conv => lhs; rw [← List.map_id (isort _)]
    refine List.map_congr_left fun x hx => ?_
    have := p.mem_iff.mp hx
    obtain ⟨k, _, rfl⟩ := List.mem_map.mp this
    rfl
  · have := p.map Int.toNat
    rw [List.map_map] at this
    have e : (Int.toNat ∘ fun k : Nat => (k : Int)) = id := by funext k; rfl
    rw [e, List.map_id] at this
    exact this
def kOf (i : Nat) : Bool := decide (i = 1)
def nA (A : T42 → Nat) (i m bi : Nat) : T42 → Nat
  | .gl j => if j = kOf i then m + 6 else A (.gl j)
  | .pg j => if j = kOf i then m else A (.pg j)
  | .ph j => if j = kOf i then m + 1 else A (.ph j)
  | .pc j => if j = kOf i then m + 2 else A (.pc j)
  | .md j => if j = kOf i then m + 3 else A (.md j)
  | .mh j => if j = kOf i then m + 4 else A (.mh j)
  | .mc j => if j = kOf i then m + 5 else A (.mc j)
  | .im j => if j = kOf i then bi else A (.im j)
  | t => A t
def nS (s : Sy) (i : Nat) (img : List Int) (ys : List Nat) : Sy := { s with g := updB s.g (kOf i) ⟨img, ys, []⟩, l := updB s.l (kOf i) ⟨img, ys, []⟩, img := fun j => if j = kOf i then img else s.img j }
def nP (P : Bool → Nat) (i v : Nat) : Bool → Nat := fun j => if j = kOf i then v else P j
def nN (i : Nat) : T42 → Prop
  | .gs => False | .m1 => False | .m2 => False
  | .gl j => j = kOf i | .pg j => j = kOf i | .ph j => j = kOf i | .pc j => j = kOf i | .md j => j = kOf i | .mh j => j = kOf i | .mc j => j = kOf i | .im j => j = kOf i
theorem guest42 {K : Kt} {S : Mir.ST} {n ic ifr igs im1 im2 C0 C1 mn i : Nat} {mem : List Int} {A : T42 → Nat} {s : Sy} {P : Bool → Nat} {g0 g9 g10 g19 : Option D} (I : Mk42 S n ic ifr igs im1 im2 C0 C1 mn i mem A s P) (hi : i < 2)
    (b0 : 2 ≤ C0) (b0' : C0 ≤ 4) (b1 : 2 ≤ C1) (b1' : C1 ≤ 4) (m0 : C0 + C1 ≤ mn) (m1 : mn ≤ 9)
    (k : ∀ S' A s P g9 g10, Mk42 S' n ic ifr igs im1 im2 C0 C1 mn (i + 1) mem A s P → K.nx [g0, some (.ref 0), some (.ref ic), some (.int mn), some (.ref ifr), some (.ref im1), some (.ref im2), some (.ref igs), some (.int i), g9, g10, none, none, none, none, none, none, none, none, g19] S') :
    wpS (sSeq (sSet 9 (eLc (iRg1 (aCons (e2 mMul (eC (.int 16)) (e2 mAdd (eC (.int 1)) (eFn 2 m__law_next (aCons (eV 1) (aCons (eC (.int 7)) aNil))))) aNil)) (.nm 19) tYesM (eFn 1 m__law_word (aCons (eV 1) aNil)) [19]))
 (sSeq (sSet 10 (eCall bTuple (aCons (eCall bSorted (aCons (e2 mIx (eLst (aCons (eSl (eV 4) oNone (oSome (e2 mIx (eV 2) (eC (.int 0))))) (aCons (eSl (eV 4) (oSome (e2 mIx (eV 2) (eC (.int 0)))) (oSome (e2 mAdd (e2 mIx (eV 2) (eC (.int 0))) (e2 mIx (eV 2) (eC (.int 1)))))) aNil))) (eV 8)) aNil)) aNil)))
 (sExpr (eBm "list" bAppend (eV 7) (aCons (eLst (aCons (eMake "Pages" 3 m_Pages___init__ (aCons (eV 9) (aCons (eV 10) aNil))) (aCons (eDict [((eC (.str "home")), (eCall bList (aCons (eV 9) aNil))), ((eC (.str "frames")), (eV 10)), ((eC (.str "came")), (eLst aNil))]) (aCons (eV 9) (aCons (eCall bTuple (aCons (eV 9) aNil)) aNil))))) aNil)))))
      [g0, some (.ref 0), some (.ref ic), some (.int mn), some (.ref ifr), some (.ref im1), some (.ref im2), some (.ref igs), some (.int i), g9, g10, none, none, none, none, none, none, none, none, g19] S K := by
  walk_at "mir"
  refine next_w I.d (by decide) fun v S1 v0 v1 d1 f1 => ?_
  walk_at "mir"
  walk_at "side"
  have nw := d1.lw
  have nn := d1.ln
  refine lc_draw (fun v => ∃ i : Int, v = .int i) d1 rfl (by rw [rngD_len]; unfold SZ; omega) (fun x S' hx hd hf => ⟨_, rfl, ?_⟩) fun vs S2 hvl hv d2 f2 g2 => ?_
  · walk_at "mir"
    exact word42_w hd fun v S2 h1 h2 => ⟨⟨v, rfl⟩, h1, h2⟩
  obtain ⟨img, rfl⟩ := ints_of hv
  have f12 := f1.trans f2
  have hc := f12.get (neIw I.d I.c) I.c
  have hf := f12.get (neIw I.d I.f) I.f
  have le1 := f1.le
  have le2 := f2.le
  have lc := lt_of_get hc
  have lf := lt_of_get hf
  have lb := lt_of_get g2
  have L2 := I.l.fr (fun j h1 h2 => f12.eq j (fun z => h1 (by rw [z]; exact List.mem_cons_self ..)) h2)
  have hgs : S2[igs]? = some (.lst ((if bOf i false = true then [D.ref (A (.gl false))] else []) ++ (if bOf i true = true then [D.ref (A (.gl true))] else []))) := by
    have := L2.get (t := .gs) rfl
    rwa [I.g] at this
  have lg := lt_of_get hgs
  have hvl2 : img.length = (v + 1).toNat * 16 := by
    rw [List.length_map, rngD_len] at hvl
    omega
  clear hvl hv
  generalize hb : S1.length = bi at *
  walk_at "mirs"
  rw [cut_to, cut_fromto (by rw [evs_len]; omega)]
  -- the frames of its own
  obtain ⟨fs, hfs, fl, fm⟩ : ∃ fs : List Nat, atI [D.ref S2.length, D.ref (S2.length + 1)] (i : Int) = some (.ref (S2.length + i)) ∧ (S2 ++ [O.lst (intN (List.take C0 (evs mn))), O.lst (intN (List.take C1 (List.drop C0 (evs mn)))), O.lst [D.ref S2.length, D.ref (S2.length + 1)]])[S2.length + i]? = some (.lst (intN fs)) ∧ (2 ≤ fs.length ∧ fs.length ≤ 4 ∧ ∀ f ∈ fs, f < mn) := by
    have hl : (evs mn).length = mn := evs_len mn
    match i, hi with
    | 0, _ =>
      refine ⟨List.take C0 (evs mn), rfl, get_app0, by rw [List.length_take]; omega, by rw [List.length_take]; omega, fun f h => evs_lt (List.mem_of_mem_take h)⟩
    | 1, _ =>
      refine ⟨List.take C1 (List.drop C0 (evs mn)), rfl, get_app, by rw [List.length_take, List.length_drop]; omega, by rw [List.length_take, List.length_drop]; omega, fun f h => evs_lt (List.mem_of_mem_drop (List.mem_of_mem_take h))⟩
  rw [hfs]
  have e3 : Ex S2 (S2 ++ [O.lst (intN (List.take C0 (evs mn))), O.lst (intN (List.take C1 (List.drop C0 (evs mn)))), O.lst [D.ref S2.length, D.ref (S2.length + 1)]]) := (Ex.refl _).app _
  generalize S2 ++ [O.lst (intN (List.take C0 (evs mn))), O.lst (intN (List.take C1 (List.drop C0 (evs mn)))), O.lst [D.ref S2.length, D.ref (S2.length + 1)]] = S3 at e3 fl ⊢
  obtain ⟨ys, hys, py⟩ := sort_nat fs
  walk_at "mir"
  rw [intN_map] at fl
  refine r_sortedR fl ?_
  rw [hys, ← intN_map]
  have e4 : Ex S2 (S3 ++ [O.lst (intN ys)]) := e3.app _
  have e34 : (S3 ++ [O.lst (intN ys)])[S3.length]? = some (.lst (intN ys)) := get_app0
  generalize S3 ++ [O.lst (intN ys)] = S4 at e4 e34 ⊢
  have l4 := e4.le
  have hc4 := e4.get hc
  have hf4 := e4.get hf
  have hg4 := e4.get hgs
  have hi4 := e4.get g2
  have L4 := e4.lay L2
  have d4 := d2.ext e4
  have lb4 := lt_of_get hi4
  have lg4 := lt_of_get hg4
  have lc4 := lt_of_get hc4
  have lf4 := lt_of_get hf4
  clear hc hf hgs g2 L2 d2 lb lg lc lf e3 fl hfs hys e4
  walk_at "mirs"
  unfold m_Pages___init__
  walk_at "mir"
  unfold b_Pages___init__
  walk_at "mirs"
  have l1 := lt_of_get I.c
  have l2 := lt_of_get I.f
  have ng : ∀ t o, ct42 A s (bOf i) t = some o → t ≠ .gs → A t ≠ igs := fun t o h hn => by
    rw [← I.g]
    exact L4.ne h (u := .gs) rfl hn
  refine ⟨by cases bOf i false <;> cases bOf i true <;> simp [SZ], k _ (nA A i S4.length bi) (nS s i img ys) (nP P i (v + 1).toNat) _ _ ?_⟩
  have hP0 : 0 < (v + 1).toNat := by omega
  have hpg : PgOk ⟨img, ys, []⟩ (16 * mn) := by
    have e := py.length_eq
    refine ⟨by show img.length ≤ _; omega, by show 0 < ys.length; omega, by show ys.length ≤ _; omega, fun f h => ?_, Nat.zero_le _, fun q h => absurd h List.not_mem_nil⟩
    have := fm.2.2 f (py.mem_iff.mp h)
    omega
  have hil : img.length ≤ 1000000 := by omega
  have d' := d4.put (i := igs) (o := O.lst ((if bOf i false = true then [D.ref (A (T42.gl false))] else []) ++ ((if bOf i true = true then [D.ref (A (T42.gl true))] else []) ++ [D.ref (List.length S4 + 6)])))
    (by rw [← I.g]; intro z; exact I.l.av .gs _ rfl (by rw [z]; simp)) (by rw [← I.g]; intro z; exact I.l.av .gs _ rfl (by rw [z]; simp))
  have nic : ic ≠ igs := by rw [← I.g]; intro z; exact I.l.av .gs _ rfl (by rw [← z]; simp)
  have nif : ifr ≠ igs := by rw [← I.g]; intro z; exact I.l.av .gs _ rfl (by rw [← z]; simp)
  refine ⟨d'.app _, by walk_at "mirs", by walk_at "mirs", ?_, I.g, I.x, I.y, I.s1, I.s2, ?_, ?_⟩
  · refine (Lay.renew (I.l.fr (S' := S1) (fun j h1 h2 => f1.eq j (fun z => h1 (by rw [z]; exact List.mem_cons_self ..)) h2)) (nN i) ?_ ?_ ?_ ?_)
    · intro j hj
      simp only [List.mem_cons, List.not_mem_nil, or_false] at hj
      rw [hb]
      omega
    · intro t o hN ht
      by_cases hgs : t = .gs
      · subst hgs
        refine ⟨rfl, ?_, _, rfl⟩
        rw [I.g, List.getElem?_append_left (by rw [List.length_set]; exact lg4), set_same lg4, ← ht]
        obtain rfl | rfl : i = 0 ∨ i = 1 := by omega
        · rfl
        · rfl
      · have e : ct42 (nA A i S4.length bi) (nS s i img ys) (bOf (i + 1)) t = ct42 A s (bOf i) t ∧ nA A i S4.length bi t = A t := by
          obtain rfl | rfl : i = 0 ∨ i = 1 := by omega
          · cases t <;> first | exact absurd rfl hgs | exact ⟨rfl, rfl⟩ | (rename_i j; cases j; exact absurd rfl hN; exact ⟨rfl, rfl⟩)
          · cases t <;> first | exact absurd rfl hgs | exact ⟨rfl, rfl⟩ | (rename_i j; cases j; exact ⟨rfl, rfl⟩; exact absurd rfl hN)
        rw [e.1] at ht
        refine ⟨e.2, ?_, o, ht⟩
        have ha := L4.get ht
        rw [List.getElem?_append_left (by rw [List.length_set]; exact lt_of_get ha), set_get' (Ne.symm (ng t o ht hgs))]
        exact ha
    · intro t o hN ht
      have hN' := hN
      have hb' : bOf (i + 1) (kOf i) = true := by
        obtain rfl | rfl : i = 0 ∨ i = 1 := by omega
        all_goals rfl
      rw [hb]
      cases t <;> first | exact hN.elim | skip
      all_goals (rename_i j; have hj : j = kOf i := hN'; subst hj)
      all_goals (simp only [ct42, hb', if_true, nA, nS, updB, Option.some.injEq] at ht ⊢; subst ht)
      · exact ⟨by omega, by walk_at "mirs"⟩
      · exact ⟨by omega, by walk_at "mirs"; rfl⟩
      · exact ⟨by omega, by walk_at "mirs"⟩
      · exact ⟨by omega, by walk_at "mirs"⟩
      · exact ⟨by omega, by walk_at "mirs"; rfl⟩
      · exact ⟨by omega, by walk_at "mirs"⟩
      · exact ⟨by omega, by walk_at "mirs"⟩
      · refine ⟨Nat.le_refl _, ?_⟩
        have nb : bi ≠ igs := by
          have := I.l.lt (t := .gs) rfl
          rw [I.g] at this
          omega
        walk_at "mirs"
    · intro t u o o' hN hN' ht hu he
      cases t <;> first | exact hN.elim | skip
      all_goals (rename_i j; have hj : j = kOf i := hN; subst hj)
      all_goals (cases u <;> first | exact hN'.elim | skip)
      all_goals (rename_i j'; have hj' : j' = kOf i := hN'; subst hj')
      all_goals first | rfl | (exfalso; simp only [nA, if_true] at he; omega)
  · obtain rfl | rfl : i = 0 ∨ i = 1 := by omega
    all_goals (unfold nS; dsimp only; rw [I.e])
  · intro j hj
    by_cases hjk : j = kOf i
    · subst hjk
      simp only [nS, nP, updB, if_true]
      exact ⟨hpg, hvl2, hvl2, hP0⟩
    · have : bOf i j = true := by
        obtain rfl | rfl : i = 0 ∨ i = 1 := by omega
        · cases j <;> first | exact hj | exact absurd rfl hjk
        · cases j <;> first | rfl | exact absurd rfl hjk
      have q := I.ok j this
      simp only [nS, nP, updB, if_neg hjk]
      exact q
structure In42 (S : Mir.ST) (n ic ifr M : Nat) (A : T42 → Nat) (s : Sy) (P : Bool → Nat) : Prop where
  d : DrawSt S 0 n
  l : Lay [0, n, ic, ifr] S A (ct42 A s all2)
  e : s.a1 = s.a2
  g : s.g = s.l
  m : s.a1.length = M
  ok : ∀ k, PgOk (s.g k) M ∧ (s.g k).home.length = P k * 16 ∧ (s.img k).length = P k * 16 ∧ 0 < P k
section
variable {S S' : Mir.ST} {n ic ifr M : Nat} {A : T42 → Nat} {s : Sy} {P : Bool → Nat}
theorem In42.fr (h : In42 S n ic ifr M A s P) (d : DrawSt S' 0 n) (f : Fr 0 S S') : In42 S' n ic ifr M A s P :=
  ⟨d, h.l.fr (fun j h1 h2 => f.eq j (fun z => h1 (by rw [z]; exact List.mem_cons_self ..)) h2), h.e, h.g, h.m, h.ok⟩
theorem In42.ex (h : In42 S n ic ifr M A s P) (T : Mir.ST) : In42 (S ++ T) n ic ifr M A s P := h.fr (h.d.app T) (.app _ _ _)
theorem In42.kept (h : In42 S n ic ifr M A s P) (k : Bool) : Kept S 0 n (A (.pg k)) (A (.ph k)) (A (.pc k)) (A (.md k)) (A (.mh k)) (A (.mc k)) (A .m1) (A .m2) (s.g k) s.a1 :=
  ⟨h.d, Lay.pgAt h.l k, by rw [h.g]; exact Lay.mdAt h.l k, h.l.get (t := .m1) rfl, by rw [h.e]; exact h.l.get (t := .m2) rfl⟩
theorem In42.md0 (h : In42 S n ic ifr M A s P) (k : Bool) : A (.md k) ≠ 0 := fun z => h.l.av (.md k) _ rfl (by rw [z]; exact List.mem_cons_self ..)
theorem In42.nd (h : In42 S n ic ifr M A s P) {t : T42} {o : O} (ht : ct42 A s all2 t = some o) : A t ≠ 0 ∧ A t ≠ n := ⟨fun z => h.l.av t _ ht (by rw [z]; simp), fun z => h.l.av t _ ht (by rw [z]; simp)⟩
theorem kept42 (h : In42 S n ic ifr M A s P) (k : Bool) {X : XQ} : wpR (m__law_is_kept [.ref 0, .ref (A (.pg k)), .ref (A (.md k)), .ref (A .m1), .ref (A .m2)] S) (fun r S' => r = .bl true ∧ In42 S' n ic ifr M A s P) X :=
  kept_w (h.kept k) (h.md0 k) (h.ok k).1 h.m (h.ok k).2.1 (h.ok k).2.2.2 fun S' d f => ⟨rfl, h.fr d f⟩
theorem ix2 {A : T42 → Nat} {v : Int} (h0 : 0 ≤ v) (h1 : v < 2) : ∃ k : Bool, atI [D.ref (A (.gl false)), D.ref (A (.gl true))] v = some (.ref (A (.gl k))) := by
  obtain rfl | rfl : v = 0 ∨ v = 1 := by omega
  · exact ⟨false, rfl⟩
  · exact ⟨true, rfl⟩
theorem bring42 (h : In42 S n ic ifr M A s P) (hM : M ≤ 1000000) (k : Bool) {page : Nat} (hp : page < P k) {Q : D → Mir.ST → Prop} {X : XQ}
    (kk : ∀ S' s', In42 S' n ic ifr M A s' P → s'.img = s.img → Q (.bl true) S') :
    wpR (m_Pages_bring [.ref (A (.pg k)), .int page, .ref (A .m1)] S) (fun a S1 => wpR (m__law_bring [.ref (A (.md k)), .int page, .ref (A .m2)] S1) (fun b S2 => wpR (m__law_same 40 [a, b] S2) Q X) X) X := by
  have ok := h.ok k
  have bk := bring_ok ok.1 h.m (page := page) (by rw [ok.2.1]; omega)
  have kp := h.kept k
  refine bring_w kp.a kp.x ok.1 h.m hM (by rw [ok.2.1]; omega) (h.l.ne (t := .m1) (u := .ph k) rfl rfl (by simp)) (h.l.ne (t := .m1) (u := .pc k) rfl rfl (by simp)) (h.l.ne (t := .ph k) (u := .pc k) rfl rfl (by simp)) fun T => ?_
  have L1 := lay_bring h.l k (p := (bring (s.g k) page s.a1).1) (mem := (bring (s.g k) page s.a1).2.1) bk.2.2.1
  have d1 : DrawSt (((S.set (A (.ph k)) (.lst ((bring (s.g k) page s.a1).1.home.map D.int))).set (A .m1) (.lst ((bring (s.g k) page s.a1).2.1.map D.int))).set (A (.pc k)) (.lst ((bring (s.g k) page s.a1).1.ca.map caD))) 0 n :=
    ((h.d.put (h.nd (t := .ph k) rfl).1 (h.nd (t := .ph k) rfl).2).put (h.nd (t := .m1) rfl).1 (h.nd (t := .m1) rfl).2).put (h.nd (t := .pc k) rfl).1 (h.nd (t := .pc k) rfl).2
  have L2 := L1.app T
  have d2 := d1.app T
  generalize (((S.set (A (.ph k)) (.lst ((bring (s.g k) page s.a1).1.home.map D.int))).set (A .m1) (.lst ((bring (s.g k) page s.a1).2.1.map D.int))).set (A (.pc k)) (.lst ((bring (s.g k) page s.a1).1.ca.map caD))) ++ T = S1 at L2 d2 ⊢
  have md := Lay.mdAt L2 k
  have mm := L2.get (t := .m2) rfl
  have hgl : s.l k = s.g k := by rw [h.g]
  simp only [] at md mm
  rw [hgl] at md
  rw [← h.e] at mm
  refine lbring_w md mm ok.1 h.m hM (by rw [ok.2.1]; omega) (L2.ne (t := .m2) (u := .mh k) rfl rfl (by simp)) (L2.ne (t := .m2) (u := .mc k) rfl rfl (by simp)) (L2.ne (t := .mh k) (u := .mc k) rfl rfl (by simp)) ?_
  have L3 := lay_lbring L2 k (p := (bring (s.g k) page s.a1).1) (mem := (bring (s.g k) page s.a1).2.1) (by rw [bk.2.2.1]; simp only []; rw [hgl])
  refine same_w (n := 40) (sh_tup (fun d hd => ?_) (by simp [SZ])) ?_
  · simp only [List.mem_cons, List.not_mem_nil, or_false] at hd
    rcases hd with rfl | rfl
    · exact True.intro
    · exact onD_sh _ 38
  · refine kk _ _ ⟨?_, L3, rfl, ?_, bk.2.2.2.1, fun j => ?_⟩ rfl
    · have av : ∀ (t : T42) o, ct42 A _ all2 t = some o → A t ≠ 0 ∧ A t ≠ n := fun t o e => ⟨fun z => L3.av t o e (by rw [z]; simp), fun z => L3.av t o e (by rw [z]; simp)⟩
      exact ((d2.put (av (.mh k) _ rfl).1 (av (.mh k) _ rfl).2).put (av .m2 _ rfl).1 (av .m2 _ rfl).2).put (av (.mc k) _ rfl).1 (av (.mc k) _ rfl).2
    · show updB s.g k _ = updB s.l k _
      rw [h.g]
    · by_cases c : j = k
      · subst c
        show PgOk (updB s.g j _ j) M ∧ (updB s.g j _ j).home.length = _ ∧ _
        simp only [updB, if_true]
        exact ⟨bk.1, by rw [bk.2.1]; exact ok.2.1, ok.2.2⟩
      · show PgOk (updB s.g k _ j) M ∧ (updB s.g k _ j).home.length = _ ∧ _
        simp only [updB, if_neg c]
        exact h.ok j
end
theorem law_true (ns : List Int) (h63 : ns.length ≤ 63) : ∃ S', m_law [.fl (ns.map D.int)] [] = .ok (.bl true) S' := by
  suffices h : wpR (m_law [.fl (ns.map D.int)] []) (fun r _ => r = .bl true) (fun _ _ _ => False) by
    obtain ⟨r, S', e, h2⟩ := wpR_eq h
    rw [h2] at e
    exact ⟨S', e⟩
  unfold m_law
  walk_at "mir"
  unfold b_law
  walk_at "mir"
  obtain ⟨n, xs, S1, e1, h1, hx, hl, hn, T, hT⟩ := draws_ok ns h63 700 (by decide) [.dk []]
  refine wpR_of ⟨_, _, e1, ?_⟩
  rw [hT] at h1 ⊢
  walk_at "mir"
  have d0 : DrawSt (O.dk [(Sum.inr (Str.ofString "draws"), D.ref n), (Sum.inr (Str.ofString "at"), D.int 0)] :: T) 0 n := by
    obtain ⟨m, rfl⟩ : ∃ m, n = m + 1 := ⟨n - 1, by have : 1 ≤ n := hn; omega⟩
    exact ⟨by omega, 0, xs, rfl, h1, by omega, hx, hl⟩
  generalize O.dk [(Sum.inr (Str.ofString "draws"), D.ref n), (Sum.inr (Str.ofString "at"), D.int 0)] :: T = S2 at d0 ⊢
  clear h1 hT e1 hx hl hn xs T S1
  refine next_w d0 (by decide) fun c0 S3 v0 v1 d3 f3 => ?_
  walk_at "mir"
  refine next_w d3 (by decide) fun c1 S4 w0 w1 d4 f4 => ?_
  walk_at "mir"
  clear f3 f4 d0 d3
  have d5 := d4.app [O.lst [D.int (2 + c0), D.int (2 + c1)]]
  have g5 : (S4 ++ [O.lst [D.int (2 + c0), D.int (2 + c1)]])[S4.length]? = some (.lst [D.int (2 + c0), D.int (2 + c1)]) := get_app0
  generalize S4 ++ [O.lst [D.int (2 + c0), D.int (2 + c1)]] = S5 at d5 g5 ⊢
  generalize S4.length = ic at g5 ⊢
  clear d4 S4
  refine next_w d5 (by decide) fun c2 S6 x0 x1 d6 f6 => ?_
  have g6 := f6.get (neIw d5 g5) g5
  clear d5 g5 f6 S5
  obtain ⟨C0, hC0, b0, b0'⟩ : ∃ C : Nat, 2 + c0 = (C : Int) ∧ 2 ≤ C ∧ C ≤ 4 := ⟨(2 + c0).toNat, by omega, by omega, by omega⟩
  obtain ⟨C1, hC1, b1, b1'⟩ : ∃ C : Nat, 2 + c1 = (C : Int) ∧ 2 ≤ C ∧ C ≤ 4 := ⟨(2 + c1).toNat, by omega, by omega, by omega⟩
  rw [hC0, hC1] at g6 ⊢
  obtain ⟨mn, hmn, m0, m1⟩ : ∃ m : Nat, (C0 : Int) + C1 + c2 = m ∧ C0 + C1 ≤ m ∧ m ≤ 9 := ⟨((C0 : Int) + C1 + c2).toNat, by omega, by omega, by omega⟩
  clear v0 v1 w0 w1 hC0 hC1 c0 c1
  walk_at "mir"
  rw [hmn]
  clear hmn x0 x1 c2
  walk_at "side"
  refine lc_map (List.range mn) (fun k : Nat => D.int (k : Int)) (fun k => decide (k % 2 = 0)) (fun k : Nat => D.int (k : Int)) rngD_map (fun _ => True.intro) (by rw [List.length_range]; unfold SZ; omega) (fun k hk acc => ?_) ?_
  · refine ⟨_, rfl, ?_⟩
    walk_at "mir"
    walk_at "side"
    exact decide_eq_decide.mpr (by omega)
  walk_at "mir"
  walk_at "side"
  refine lc_map (List.range mn) (fun k : Nat => D.int (k : Int)) (fun k => decide (k % 2 = 1)) (fun k : Nat => D.int (k : Int)) rngD_map (fun _ => True.intro) (by rw [List.length_range]; unfold SZ; omega) (fun k hk acc => ?_) ?_
  · refine ⟨_, rfl, ?_⟩
    walk_at "mir"
    walk_at "side"
    exact decide_eq_decide.mpr (by omega)
  walk_at "mir"
  have lf1 := List.length_filter_le (fun k : Nat => decide (k % 2 = 0)) (List.range mn)
  have lf2 := List.length_filter_le (fun k : Nat => decide (k % 2 = 1)) (List.range mn)
  rw [List.length_range] at lf1 lf2
  refine ⟨by unfold SZ; omega, ?_⟩
  rw [← List.map_append]
  have el : (List.range mn).filter (fun k => decide (k % 2 = 0)) ++ (List.range mn).filter (fun k => decide (k % 2 = 1)) = evs mn := rfl
  rw [el]
  clear lf1 lf2 el
  have d7 := d6.app [O.lst (List.map (fun k : Nat => D.int (k : Int)) (List.filter (fun k => decide (k % 2 = 0)) (List.range mn))), O.lst (List.map (fun k : Nat => D.int (k : Int)) (List.filter (fun k => decide (k % 2 = 1)) (List.range mn))), O.lst (List.map (fun k : Nat => D.int (k : Int)) (evs mn))]
  have g7 := (List.getElem?_append_left (l₂ := [O.lst (List.map (fun k : Nat => D.int (k : Int)) (List.filter (fun k => decide (k % 2 = 0)) (List.range mn))), O.lst (List.map (fun k : Nat => D.int (k : Int)) (List.filter (fun k => decide (k % 2 = 1)) (List.range mn))), O.lst (List.map (fun k : Nat => D.int (k : Int)) (evs mn))]) (lt_of_get g6)).trans g6
  have h7 : (S6 ++ [O.lst (List.map (fun k : Nat => D.int (k : Int)) (List.filter (fun k => decide (k % 2 = 0)) (List.range mn))), O.lst (List.map (fun k : Nat => D.int (k : Int)) (List.filter (fun k => decide (k % 2 = 1)) (List.range mn))), O.lst (List.map (fun k : Nat => D.int (k : Int)) (evs mn))])[S6.length + 2]? = some (.lst (intN (evs mn))) := by rw [get_app]; rfl
  generalize S6 ++ [O.lst (List.map (fun k : Nat => D.int (k : Int)) (List.filter (fun k => decide (k % 2 = 0)) (List.range mn))), O.lst (List.map (fun k : Nat => D.int (k : Int)) (List.filter (fun k => decide (k % 2 = 1)) (List.range mn))), O.lst (List.map (fun k : Nat => D.int (k : Int)) (evs mn))] = S7 at d7 g7 h7 ⊢
  generalize S6.length + 2 = ifr at h7 ⊢
  clear d6 g6 S6
  walk_at "side"
  refine lc_draw (fun v => ∃ i : Int, v = .int i) d7 rfl (by rw [rngD_len]; unfold SZ; omega) (fun x S' hx hd hf => ⟨_, rfl, ?_⟩) fun vs S8 hvl hv d8 f8 g8 => ?_
  · walk_at "mir"
    exact word42_w hd fun v S2 h1 h2 => ⟨⟨v, rfl⟩, h1, h2⟩
  obtain ⟨mem, rfl⟩ := ints_of hv
  have hml : mem.length = 16 * mn := by
    rw [List.length_map, rngD_len] at hvl
    omega
  have hr8 := f8.get (neIw d7 g7) g7
  have hf8 := f8.get (neIw d7 h7) h7
  have l78 : S7.length < S8.length := lt_of_get g8
  have nw := d7.lw
  have nn := d7.ln
  have lic := lt_of_get g7
  have lif := lt_of_get h7
  clear hvl hv f8 d7 g7 h7
  generalize S7.length = im1 at *
  walk_at "mirs"
  have d9 := d8.app [O.lst (mem.map D.int), O.lst []]
  have e9 : Ex S8 (S8 ++ [O.lst (mem.map D.int), O.lst []]) := (Ex.refl _).app _
  have hr9 := e9.get hr8
  have hf9 := e9.get hf8
  have g9 := e9.get g8
  have i9 : (S8 ++ [O.lst (mem.map D.int), O.lst []])[S8.length]? = some (.lst (mem.map D.int)) := get_app0
  have j9 : (S8 ++ [O.lst (mem.map D.int), O.lst []])[S8.length + 1]? = some (.lst []) := get_app
  generalize S8 ++ [O.lst (mem.map D.int), O.lst []] = S9 at *
  generalize S8.length = im2 at *
  clear e9 hr8 hf8 g8 d8
  have L0 : Lay [0, n, ic, ifr] S9 (fun t => match t with | .gs => im2 + 1 | .m1 => im1 | .m2 => im2 | _ => 0) (ct42 (fun t => match t with | .gs => im2 + 1 | .m1 => im1 | .m2 => im2 | _ => 0) ⟨mem, mem, fun _ => ⟨[], [], []⟩, fun _ => ⟨[], [], []⟩, fun _ => []⟩ (bOf 0)) := by
    refine ⟨fun t o h => ?_, fun t u o o' h1 h2 h3 => ?_, fun t o h => ?_⟩
    · cases t <;> first | (cases h; assumption) | cases h
    · cases t <;> first | (cases h1; done) | (cases u <;> first | rfl | (cases h2; done) | (exfalso; simp only [] at h3; omega))
    · simp only [List.mem_cons, List.not_mem_nil, or_false]
      cases t <;> first | (cases h; done) | (simp only []; omega)
  refine for_rng (fun i G S => ∃ A s P g8 g9 g10 g19, G = [some (D.fl (ns.map D.int)), some (.ref 0), some (.ref ic), some (.int mn), some (.ref ifr), some (.ref im1), some (.ref im2), some (.ref (im2 + 1)), g8, g9, g10, none, none, none, none, none, none, none, none, g19] ∧ Mk42 S n ic ifr (im2 + 1) im1 im2 C0 C1 mn i mem A s P)
    ⟨_, _, fun _ => 0, _, _, _, _, rfl, ⟨d9, hr9, hf9, L0, rfl, rfl, rfl, rfl, rfl, rfl, fun k hk => by cases hk⟩⟩ ?_ ?_
  · clear d9 hr9 hf9 g9 i9 j9 L0 S9
    intro G S h
    obtain ⟨A, s, P, g8, g9, g10, g19, hG, I⟩ := h
    rw [hG]
    have M1 : 16 * mn ≤ 1000000 := by omega
    have hm : s.a1.length = 16 * mn := by rw [I.s1]; exact hml
    have I2 : In42 S n ic ifr (16 * mn) A s P := ⟨I.d, I.l, by rw [I.s1, I.s2], I.e, hm, fun k => I.ok k rfl⟩
    have eg := I.g
    have e1 := I.x
    have e2 := I.y
    clear I hm hG
    rw [← eg, ← e1, ← e2]
    clear eg e1 e2 hml
    walk_at "mir"
    refine for_rng (fun i G S => ∃ s, In42 S n ic ifr (16 * mn) A s P ∧ ∃ g8 g9 g10 g11 g12 g13 g14 g15 g16 g17 g18 g19, G = [some (D.fl (ns.map D.int)), some (.ref 0), some (.ref ic), some (.int mn), some (.ref ifr), some (.ref (A .m1)), some (.ref (A .m2)), some (.ref (A .gs)), g8, g9, g10, g11, g12, g13, g14, g15, g16, g17, g18, g19])
      ⟨s, I2, _, _, _, _, _, _, _, _, _, _, _, _, rfl⟩ ?_ ?_
    · clear I2
      intro G S h
      obtain ⟨s, I, g8, g9, g10, g11, g12, g13, g14, g15, g16, g17, g18, g19, hG⟩ := h
      rw [hG]
      have gg := I.l.get (t := .gs) rfl
      walk_at "mir"
      rw [gg]
      walk_at "mir"
      refine for_map [false, true] (fun k => D.ref (A (.gl k))) rfl (fun ys G S => In42 S n ic ifr (16 * mn) A s P ∧ ∃ g8 g9 g10 g11 g12 g13 g14 g15 g16 g17 g18 g19, G = [some (D.fl (ns.map D.int)), some (.ref 0), some (.ref ic), some (.int mn), some (.ref ifr), some (.ref (A .m1)), some (.ref (A .m2)), some (.ref (A .gs)), g8, g9, g10, g11, g12, g13, g14, g15, g16, g17, g18, g19])
        ⟨I, _, _, _, _, _, _, _, _, _, _, _, _, rfl⟩ (fun ys G S h => h.1.l.get (t := .gs) rfl) ?_ ?_
      · intro G S h
        obtain ⟨I, g8, g9, g10, g11, g12, g13, g14, g15, g16, g17, g18, g19, hG⟩ := h
        rw [hG]
        walk_at "mir"
      · intro k ys G S h
        obtain ⟨I, g8, g9, g10, g11, g12, g13, g14, g15, g16, g17, g18, g19, hG⟩ := h
        rw [hG]
        refine ⟨_, bindT_ref (I.l.get (t := .gl k) rfl) rfl, ?_⟩
        walk_at "mir"
        refine wpR_mono (kept42 I k) fun r S' q => ?_
        obtain ⟨rfl, I'⟩ := q
        walk_at "mir"
        refine w_neL ((I'.ex _).l.get (t := .im k) rfl) get_app0 nb_ints nb_ints (by decide) (fun _ => ?_) (fun c => absurd rfl c)
        walk_at "mir"
        exact ⟨I'.ex _, _, _, _, _, _, _, _, _, _, _, _, _, rfl⟩
    · clear I2 s S g8 g9 g10 g19 G
      intro i G S hi h
      obtain ⟨s, I, g8, g9, g10, g11, g12, g13, g14, g15, g16, g17, g18, g19, hG⟩ := h
      rw [hG]
      refine ⟨_, rfl, ?_⟩
      walk_at "mir"
      refine next_w I.d (by decide) fun v S1 v0 v1 d1 f1 => ?_
      have I1 := I.fr d1 f1
      have gg := I1.l.get (t := .gs) rfl
      walk_at "mir"
      rw [gg]
      obtain ⟨k, hk⟩ := ix2 (A := A) v0 v1
      show kIx (some (.lst [D.ref (A (.gl false)), D.ref (A (.gl true))])) _ _ _
      walk_at "mir"
      rw [hk]
      walk_at "mir"
      rw [I1.l.get (t := .gl k) rfl]
      have ok := I1.ok k
      walk_at "mir"
      walk_at "side"
      rw [ok.2.2.1, show ((P k * 16 : Nat) : Int) / 16 = (P k : Nat) by omega]
      clear gg hk I d1 f1
      refine next_w I1.d (by omega) fun pg S2 w0 w1 d2 f2 => ?_
      have I2 := I1.fr d2 f2
      clear I1
      obtain ⟨page, rfl⟩ := Int.eq_ofNat_of_zero_le w0
      have hp : page < P k := by omega
      walk_at "mir"
      refine lframe_w (I2.kept k).b ?_
      walk_at "mir"
      cases e : frOf (s.g k).ca page with
      | none =>
        unfold onD
        walk_at "mir"
        rw [I2.l.get (t := .pg k) rfl]
        walk_at "mir"
        refine wpR_mono (bring42 (Q := fun r S' => r = .bl true ∧ ∃ s', In42 S' n ic ifr (16 * mn) A s' P ∧ s'.img = s.img) I2 M1 k hp fun S' s' h1 h2 => ⟨rfl, s', h1, h2⟩) fun a S3 q => ?_
        walk_at "mir"
        refine wpR_mono q fun b S4 q2 => ?_
        walk_at "mir"
        refine wpR_mono q2 fun r S5 q3 => ?_
        obtain ⟨rfl, s', I5, ei⟩ := q3
        walk_at "mir"
        rw [← ei]
        refine wpR_mono (kept42 I5 k) fun r S' q => ?_
        obtain ⟨rfl, I'⟩ := q
        walk_at "mir"
        refine w_neL ((I'.ex _).l.get (t := .im k) rfl) get_app0 nb_ints nb_ints (by decide) (fun _ => ?_) (fun c => absurd rfl c)
        walk_at "mir"
        exact ⟨s', I'.ex _, _, _, _, _, _, _, _, _, _, _, _, _, rfl⟩
      | some f =>
        have hf := (frOf_ok ok.1 e).1
        unfold onD
        walk_at "mir"
        walk_at "side"
        refine next_w I2.d (by decide) fun x S3 x0 x1 d3 f3 => ?_
        walk_at "mir"
        have I3 := I2.fr d3 f3
        refine word42_w I3.d fun z S4 d4 f4 => ?_
        have I4 := I3.fr d4 f4
        clear I3 I2 f3 f4 d3 f2 d2
        walk_at "mir"
        rw [I4.l.get (t := .m1) rfl]
        have hl : ((16 * (f : Int) + x)) < s.a1.length := by rw [I4.m]; omega
        rw [kPutO_at (by omega) (by rw [List.length_map]; exact hl)]
        have h2 := I4.l.get (t := .m2) rfl
        rw [set_get' (I4.l.ne (t := .m1) (u := .m2) rfl rfl (by simp)), h2, kPutO_at (by omega) (by rw [List.length_map, ← I4.e]; exact hl), dset_int, dset_int]
        have I5 : In42 ((S4.set (A .m1) (.lst ((s.a1.set (16 * (f : Int) + x).toNat z).map D.int))).set (A .m2) (.lst ((s.a2.set (16 * (f : Int) + x).toNat z).map D.int))) n ic ifr (16 * mn) A { s with a1 := s.a1.set (16 * (f : Int) + x).toNat z, a2 := s.a2.set (16 * (f : Int) + x).toNat z } P :=
          ⟨(d4.put (I4.nd (t := .m1) rfl).1 (I4.nd (t := .m1) rfl).2).put (I4.nd (t := .m2) rfl).1 (I4.nd (t := .m2) rfl).2, lay_mem I4.l, by rw [I4.e], I4.g, by rw [List.length_set]; exact I4.m, I4.ok⟩
        refine wpR_mono (kept42 I5 k) fun r S' q => ?_
        obtain ⟨rfl, I'⟩ := q
        walk_at "mir"
        refine w_neL ((I'.ex _).l.get (t := .im k) rfl) get_app0 nb_ints nb_ints (by decide) (fun _ => ?_) (fun c => absurd rfl c)
        walk_at "mir"
        exact ⟨_, I'.ex _, _, _, _, _, _, _, _, _, _, _, _, _, rfl⟩
  · clear d9 hr9 hf9 g9 i9 j9 L0 S9
    intro i G S hi h
    obtain ⟨A, s, P, g8, g9, g10, g19, hG, I⟩ := h
    rw [hG]
    refine ⟨_, rfl, ?_⟩
    rw [Int.zero_add, Int.mul_one]
    exact guest42 I hi b0 b0' b1 b1' m0 m1 fun S' A s P g9 g10 I' => ⟨A, s, P, _, _, _, _, rfl, I'⟩
end Pf

namespace Pf
open PySem L2 PyProof.Rows Mir
theorem all_mk {l : PySem.W.OpenLaw} {w : World} {K : PySem.W.Frag} {h : Heap} {mg : Str → Option Value} {fa C_Pages f_law f__law_draws f__law_next f__law_word f__law_frame f_Pages___init__ f__law_same f__law_is_kept f__law_words f_Pages_words f_Pages_word f_Pages_frame_of f_Pages_bring f__law_bring : Addr} (X : K.In h) (G : h.Ns mainGlobals mg) (hfa : mg "law" = some (.ref fa))
    {tk_PAGE : Tok} {od_law an_law : Option Addr} {sl_law : Array (Option Value)} {oc_law kV_law dc_law pm_law cd_law ct_law : Value} {od__law_draws an__law_draws : Option Addr} {sl__law_draws : Array (Option Value)} {oc__law_draws kV__law_draws dc__law_draws pm__law_draws cd__law_draws ct__law_draws : Value} {od__law_next an__law_next : Option Addr} {sl__law_next : Array (Option Value)} {oc__law_next kV__law_next dc__law_next pm__law_next cd__law_next ct__law_next : Value} {od__law_word an__law_word : Option Addr} {sl__law_word : Array (Option Value)} {oc__law_word kV__law_word dc__law_word pm__law_word cd__law_word ct__law_word : Value} {od__law_frame an__law_frame : Option Addr} {sl__law_frame : Array (Option Value)} {oc__law_frame kV__law_frame dc__law_frame pm__law_frame cd__law_frame ct__law_frame : Value} {od_Pages___init__ an_Pages___init__ : Option Addr} {sl_Pages___init__ : Array (Option Value)} {oc_Pages___init__ kV_Pages___init__ dc_Pages___init__ pm_Pages___init__ cd_Pages___init__ ct_Pages___init__ : Value} {od__law_same an__law_same : Option Addr} {sl__law_same : Array (Option Value)} {oc__law_same kV__law_same dc__law_same pm__law_same cd__law_same ct__law_same : Value} {od__law_is_kept an__law_is_kept : Option Addr} {sl__law_is_kept : Array (Option Value)} {oc__law_is_kept kV__law_is_kept dc__law_is_kept pm__law_is_kept cd__law_is_kept ct__law_is_kept : Value} {od__law_words an__law_words : Option Addr} {sl__law_words : Array (Option Value)} {oc__law_words kV__law_words dc__law_words pm__law_words cd__law_words ct__law_words : Value} {od_Pages_words an_Pages_words : Option Addr} {sl_Pages_words : Array (Option Value)} {oc_Pages_words kV_Pages_words dc_Pages_words pm_Pages_words cd_Pages_words ct_Pages_words : Value} {od_Pages_word an_Pages_word : Option Addr} {sl_Pages_word : Array (Option Value)} {oc_Pages_word kV_Pages_word dc_Pages_word pm_Pages_word cd_Pages_word ct_Pages_word : Value} {od_Pages_frame_of an_Pages_frame_of : Option Addr} {sl_Pages_frame_of : Array (Option Value)} {oc_Pages_frame_of kV_Pages_frame_of dc_Pages_frame_of pm_Pages_frame_of cd_Pages_frame_of ct_Pages_frame_of : Value} {od_Pages_bring an_Pages_bring : Option Addr} {sl_Pages_bring : Array (Option Value)} {oc_Pages_bring kV_Pages_bring dc_Pages_bring pm_Pages_bring cd_Pages_bring ct_Pages_bring : Value} {od__law_bring an__law_bring : Option Addr} {sl__law_bring : Array (Option Value)} {oc__law_bring kV__law_bring dc__law_bring pm__law_bring cd__law_bring ct__law_bring : Value}
    (aC_Pages : PySem.W.nsIn K mainGlobals "Pages" = some (some (.ref C_Pages)))
    (pg_Pages : PySem.W.plainGet K C_Pages Str.empty = true)
    (hd_Pages : PySem.W.hasDictIn K C_Pages = true)
    (po_Pages : PySem.W.plainOver K C_Pages = true)
    (sa_Pages : PySem.W.findIn K (.ref C_Pages) "__setattr__" = some (some (.builtin "object.__setattr__")))
    (mk_Pages : PySem.W.makesIn K C_Pages = true)
    (kC_Pages : PySem.W.keepIn K (.ref C_Pages) = true)
    (na_Pages_home : PySem.W.findIn K (.ref C_Pages) "home" = some none)
    (na_Pages_frames : PySem.W.findIn K (.ref C_Pages) "frames" = some none)
    (na_Pages_came : PySem.W.findIn K (.ref C_Pages) "came" = some none)
    (z_int : PySem.W.nsIn K mainGlobals "int" = some none)
    (z_abs : PySem.W.nsIn K mainGlobals "abs" = some none)
    (z_range : PySem.W.nsIn K mainGlobals "range" = some none)
    (z_len : PySem.W.nsIn K mainGlobals "len" = some none)
    (z_list : PySem.W.nsIn K mainGlobals "list" = some none)
    (z_tuple : PySem.W.nsIn K mainGlobals "tuple" = some none)
    (z_isinstance : PySem.W.nsIn K mainGlobals "isinstance" = some none)
    (z_bool : PySem.W.nsIn K mainGlobals "bool" = some none)
    (z_str : PySem.W.nsIn K mainGlobals "str" = some none)
    (v_PAGE : PySem.W.nsIn K mainGlobals "PAGE" = some (some (.int 16 tk_PAGE)))
    (z_sorted : PySem.W.nsIn K mainGlobals "sorted" = some none)
    (a_law : PySem.W.nsIn K mainGlobals "law" = some (some (.ref f_law)))
    (l_law : K.lookup f_law = some ⟨oc_law, od_law, .func (PySem.W.fnOf "law" "law" (defArgs (top 13)) (defBody (top 13)) (defScope (top 13)) .none kV_law dc_law pm_law an_law cd_law ct_law), sl_law⟩)
    (c_law : PySem.W.codeIn K cd_law "law" = true)
    (k_law : PySem.W.keepIn K (.ref f_law) = true)
    (a__law_draws : PySem.W.nsIn K mainGlobals "_law_draws" = some (some (.ref f__law_draws)))
    (l__law_draws : K.lookup f__law_draws = some ⟨oc__law_draws, od__law_draws, .func (PySem.W.fnOf "_law_draws" "_law_draws" (defArgs (top 4)) (defBody (top 4)) (defScope (top 4)) .none kV__law_draws dc__law_draws pm__law_draws an__law_draws cd__law_draws ct__law_draws), sl__law_draws⟩)
    (c__law_draws : PySem.W.codeIn K cd__law_draws "_law_draws" = true)
    (k__law_draws : PySem.W.keepIn K (.ref f__law_draws) = true)
    (a__law_next : PySem.W.nsIn K mainGlobals "_law_next" = some (some (.ref f__law_next)))
    (l__law_next : K.lookup f__law_next = some ⟨oc__law_next, od__law_next, .func (PySem.W.fnOf "_law_next" "_law_next" (defArgs (top 5)) (defBody (top 5)) (defScope (top 5)) .none kV__law_next dc__law_next pm__law_next an__law_next cd__law_next ct__law_next), sl__law_next⟩)
    (c__law_next : PySem.W.codeIn K cd__law_next "_law_next" = true)
    (k__law_next : PySem.W.keepIn K (.ref f__law_next) = true)
    (a__law_word : PySem.W.nsIn K mainGlobals "_law_word" = some (some (.ref f__law_word)))
    (l__law_word : K.lookup f__law_word = some ⟨oc__law_word, od__law_word, .func (PySem.W.fnOf "_law_word" "_law_word" (defArgs (top 12)) (defBody (top 12)) (defScope (top 12)) .none kV__law_word dc__law_word pm__law_word an__law_word cd__law_word ct__law_word), sl__law_word⟩)
    (c__law_word : PySem.W.codeIn K cd__law_word "_law_word" = true)
    (k__law_word : PySem.W.keepIn K (.ref f__law_word) = true)
    (a__law_frame : PySem.W.nsIn K mainGlobals "_law_frame" = some (some (.ref f__law_frame)))
    (l__law_frame : K.lookup f__law_frame = some ⟨oc__law_frame, od__law_frame, .func (PySem.W.fnOf "_law_frame" "_law_frame" (defArgs (top 8)) (defBody (top 8)) (defScope (top 8)) .none kV__law_frame dc__law_frame pm__law_frame an__law_frame cd__law_frame ct__law_frame), sl__law_frame⟩)
    (c__law_frame : PySem.W.codeIn K cd__law_frame "_law_frame" = true)
    (k__law_frame : PySem.W.keepIn K (.ref f__law_frame) = true)
    (a_Pages___init__ : PySem.W.findIn K (.ref C_Pages) "__init__" = some (some (.ref f_Pages___init__)))
    (i_Pages___init__ : PySem.W.isFn K (.ref f_Pages___init__) = true)
    (l_Pages___init__ : K.lookup f_Pages___init__ = some ⟨oc_Pages___init__, od_Pages___init__, .func (PySem.W.fnOf "__init__" "Pages.__init__" (defArgs (inClass (top 2) 0)) (defBody (inClass (top 2) 0)) (defScope (inClass (top 2) 0)) .none kV_Pages___init__ dc_Pages___init__ pm_Pages___init__ an_Pages___init__ cd_Pages___init__ ct_Pages___init__), sl_Pages___init__⟩)
    (c_Pages___init__ : PySem.W.codeIn K cd_Pages___init__ "Pages.__init__" = true)
    (k_Pages___init__ : PySem.W.keepIn K (.ref f_Pages___init__) = true)
    (a__law_same : PySem.W.nsIn K mainGlobals "_law_same" = some (some (.ref f__law_same)))
    (l__law_same : K.lookup f__law_same = some ⟨oc__law_same, od__law_same, .func (PySem.W.fnOf "_law_same" "_law_same" (defArgs (top 7)) (defBody (top 7)) (defScope (top 7)) .none kV__law_same dc__law_same pm__law_same an__law_same cd__law_same ct__law_same), sl__law_same⟩)
    (c__law_same : PySem.W.codeIn K cd__law_same "_law_same" = true)
    (k__law_same : PySem.W.keepIn K (.ref f__law_same) = true)
    (a__law_is_kept : PySem.W.nsIn K mainGlobals "_law_is_kept" = some (some (.ref f__law_is_kept)))
    (l__law_is_kept : K.lookup f__law_is_kept = some ⟨oc__law_is_kept, od__law_is_kept, .func (PySem.W.fnOf "_law_is_kept" "_law_is_kept" (defArgs (top 11)) (defBody (top 11)) (defScope (top 11)) .none kV__law_is_kept dc__law_is_kept pm__law_is_kept an__law_is_kept cd__law_is_kept ct__law_is_kept), sl__law_is_kept⟩)
    (c__law_is_kept : PySem.W.codeIn K cd__law_is_kept "_law_is_kept" = true)
    (k__law_is_kept : PySem.W.keepIn K (.ref f__law_is_kept) = true)
    (a__law_words : PySem.W.nsIn K mainGlobals "_law_words" = some (some (.ref f__law_words)))
    (l__law_words : K.lookup f__law_words = some ⟨oc__law_words, od__law_words, .func (PySem.W.fnOf "_law_words" "_law_words" (defArgs (top 10)) (defBody (top 10)) (defScope (top 10)) .none kV__law_words dc__law_words pm__law_words an__law_words cd__law_words ct__law_words), sl__law_words⟩)
    (c__law_words : PySem.W.codeIn K cd__law_words "_law_words" = true)
    (k__law_words : PySem.W.keepIn K (.ref f__law_words) = true)
    (a_Pages_words : PySem.W.findIn K (.ref C_Pages) "words" = some (some (.ref f_Pages_words)))
    (i_Pages_words : PySem.W.isFn K (.ref f_Pages_words) = true)
    (l_Pages_words : K.lookup f_Pages_words = some ⟨oc_Pages_words, od_Pages_words, .func (PySem.W.fnOf "words" "Pages.words" (defArgs (inClass (top 2) 4)) (defBody (inClass (top 2) 4)) (defScope (inClass (top 2) 4)) .none kV_Pages_words dc_Pages_words pm_Pages_words an_Pages_words cd_Pages_words ct_Pages_words), sl_Pages_words⟩)
    (c_Pages_words : PySem.W.codeIn K cd_Pages_words "Pages.words" = true)
    (k_Pages_words : PySem.W.keepIn K (.ref f_Pages_words) = true)
    (a_Pages_word : PySem.W.findIn K (.ref C_Pages) "word" = some (some (.ref f_Pages_word)))
    (i_Pages_word : PySem.W.isFn K (.ref f_Pages_word) = true)
    (l_Pages_word : K.lookup f_Pages_word = some ⟨oc_Pages_word, od_Pages_word, .func (PySem.W.fnOf "word" "Pages.word" (defArgs (inClass (top 2) 3)) (defBody (inClass (top 2) 3)) (defScope (inClass (top 2) 3)) .none kV_Pages_word dc_Pages_word pm_Pages_word an_Pages_word cd_Pages_word ct_Pages_word), sl_Pages_word⟩)
    (c_Pages_word : PySem.W.codeIn K cd_Pages_word "Pages.word" = true)
    (k_Pages_word : PySem.W.keepIn K (.ref f_Pages_word) = true)
    (a_Pages_frame_of : PySem.W.findIn K (.ref C_Pages) "frame_of" = some (some (.ref f_Pages_frame_of)))
    (i_Pages_frame_of : PySem.W.isFn K (.ref f_Pages_frame_of) = true)
    (l_Pages_frame_of : K.lookup f_Pages_frame_of = some ⟨oc_Pages_frame_of, od_Pages_frame_of, .func (PySem.W.fnOf "frame_of" "Pages.frame_of" (defArgs (inClass (top 2) 1)) (defBody (inClass (top 2) 1)) (defScope (inClass (top 2) 1)) .none kV_Pages_frame_of dc_Pages_frame_of pm_Pages_frame_of an_Pages_frame_of cd_Pages_frame_of ct_Pages_frame_of), sl_Pages_frame_of⟩)
    (c_Pages_frame_of : PySem.W.codeIn K cd_Pages_frame_of "Pages.frame_of" = true)
    (k_Pages_frame_of : PySem.W.keepIn K (.ref f_Pages_frame_of) = true)
    (a_Pages_bring : PySem.W.findIn K (.ref C_Pages) "bring" = some (some (.ref f_Pages_bring)))
    (i_Pages_bring : PySem.W.isFn K (.ref f_Pages_bring) = true)
    (l_Pages_bring : K.lookup f_Pages_bring = some ⟨oc_Pages_bring, od_Pages_bring, .func (PySem.W.fnOf "bring" "Pages.bring" (defArgs (inClass (top 2) 2)) (defBody (inClass (top 2) 2)) (defScope (inClass (top 2) 2)) .none kV_Pages_bring dc_Pages_bring pm_Pages_bring an_Pages_bring cd_Pages_bring ct_Pages_bring), sl_Pages_bring⟩)
    (c_Pages_bring : PySem.W.codeIn K cd_Pages_bring "Pages.bring" = true)
    (k_Pages_bring : PySem.W.keepIn K (.ref f_Pages_bring) = true)
    (a__law_bring : PySem.W.nsIn K mainGlobals "_law_bring" = some (some (.ref f__law_bring)))
    (l__law_bring : K.lookup f__law_bring = some ⟨oc__law_bring, od__law_bring, .func (PySem.W.fnOf "_law_bring" "_law_bring" (defArgs (top 9)) (defBody (top 9)) (defScope (top 9)) .none kV__law_bring dc__law_bring pm__law_bring an__law_bring cd__law_bring ct__law_bring), sl__law_bring⟩)
    (c__law_bring : PySem.W.codeIn K cd__law_bring "_law_bring" = true)
    (k__law_bring : PySem.W.keepIn K (.ref f__law_bring) = true) :
    ∃ fd : FuncData, (∀ (s : Shared) (v : Value), BindsTo s fd ⟨[v], []⟩ [("script", v)]) ∧ ∀ base : Heap, K.In base → base.Ns mainGlobals mg → FnOk l.prog w K mg base CX0 42 fa fd ["script"] (spLaw K) := by
  have e := hfa.symm.trans (PySem.W.mg_of X G a_law)
  cases e
  have mC_Pages := PySem.W.mg_of X G aC_Pages
  have kc_Pages : Cls K C_Pages := ⟨pg_Pages, hd_Pages, po_Pages, sa_Pages⟩
  have ca_Pages : ClsAt K mg "Pages" ["home", "frames", "came"] := ⟨C_Pages, mC_Pages, kc_Pages, by simp only [List.forall_mem_cons, List.not_mem_nil, false_implies, implies_true, and_true]; exact ⟨na_Pages_home, na_Pages_frames, na_Pages_came⟩⟩
  have F_law := fun_mk (st := (top 13)) l_law c_law k_law
  have b_law := F_law.binds (ps := ["script"]) fun _ _ _ _ _ _ us hl => match us, hl with | [_], _ => rfl
  have F__law_draws := fun_mk (st := (top 4)) l__law_draws c__law_draws k__law_draws
  have b__law_draws := F__law_draws.binds (ps := ["script", "many"]) fun _ _ _ _ _ _ us hl => match us, hl with | [_, _], _ => rfl
  have D__law_draws : DefAt K mg "_law_draws" "_law_draws" (top 4) ["script", "many"] := ⟨_, _, F__law_draws, b__law_draws, PySem.W.mg_of X G a__law_draws⟩
  have F__law_next := fun_mk (st := (top 5)) l__law_next c__law_next k__law_next
  have b__law_next := F__law_next.binds (ps := ["w", "many"]) fun _ _ _ _ _ _ us hl => match us, hl with | [_, _], _ => rfl
  have D__law_next : DefAt K mg "_law_next" "_law_next" (top 5) ["w", "many"] := ⟨_, _, F__law_next, b__law_next, PySem.W.mg_of X G a__law_next⟩
  have F__law_word := fun_mk (st := (top 12)) l__law_word c__law_word k__law_word
  have b__law_word := F__law_word.binds (ps := ["w"]) fun _ _ _ _ _ _ us hl => match us, hl with | [_], _ => rfl
  have D__law_word : DefAt K mg "_law_word" "_law_word" (top 12) ["w"] := ⟨_, _, F__law_word, b__law_word, PySem.W.mg_of X G a__law_word⟩
  have F__law_frame := fun_mk (st := (top 8)) l__law_frame c__law_frame k__law_frame
  have b__law_frame := F__law_frame.binds (ps := ["model", "page"]) fun _ _ _ _ _ _ us hl => match us, hl with | [_, _], _ => rfl
  have D__law_frame : DefAt K mg "_law_frame" "_law_frame" (top 8) ["model", "page"] := ⟨_, _, F__law_frame, b__law_frame, PySem.W.mg_of X G a__law_frame⟩
  have F_Pages___init__ := fun_mk (st := (inClass (top 2) 0)) l_Pages___init__ c_Pages___init__ k_Pages___init__
  have b_Pages___init__ := F_Pages___init__.binds (ps := ["self", "image", "frames"]) fun _ _ _ _ _ _ us hl => match us, hl with | [_, _, _], _ => rfl
  have D_Pages___init__ : InitAt K mg "Pages" "Pages.__init__" (inClass (top 2) 0) ["self", "image", "frames"] := ⟨_, _, _, mC_Pages, ⟨mk_Pages, a_Pages___init__, i_Pages___init__, kC_Pages⟩, F_Pages___init__, b_Pages___init__⟩
  have F__law_same := fun_mk (st := (top 7)) l__law_same c__law_same k__law_same
  have b__law_same := F__law_same.binds (ps := ["actual", "due"]) fun _ _ _ _ _ _ us hl => match us, hl with | [_, _], _ => rfl
  have D__law_same : DefAt K mg "_law_same" "_law_same" (top 7) ["actual", "due"] := ⟨_, _, F__law_same, b__law_same, PySem.W.mg_of X G a__law_same⟩
  have F__law_is_kept := fun_mk (st := (top 11)) l__law_is_kept c__law_is_kept k__law_is_kept
  have b__law_is_kept := F__law_is_kept.binds (ps := ["w", "pages", "model", "memory", "mine"]) fun _ _ _ _ _ _ us hl => match us, hl with | [_, _, _, _, _], _ => rfl
  have D__law_is_kept : DefAt K mg "_law_is_kept" "_law_is_kept" (top 11) ["w", "pages", "model", "memory", "mine"] := ⟨_, _, F__law_is_kept, b__law_is_kept, PySem.W.mg_of X G a__law_is_kept⟩
  have F__law_words := fun_mk (st := (top 10)) l__law_words c__law_words k__law_words
  have b__law_words := F__law_words.binds (ps := ["model", "memory"]) fun _ _ _ _ _ _ us hl => match us, hl with | [_, _], _ => rfl
  have D__law_words : DefAt K mg "_law_words" "_law_words" (top 10) ["model", "memory"] := ⟨_, _, F__law_words, b__law_words, PySem.W.mg_of X G a__law_words⟩
  have F_Pages_words := fun_mk (st := (inClass (top 2) 4)) l_Pages_words c_Pages_words k_Pages_words
  have b_Pages_words := F_Pages_words.binds (ps := ["self", "memory"]) fun _ _ _ _ _ _ us hl => match us, hl with | [_, _], _ => rfl
  have D_Pages_words : MethAt K mg "Pages" "words" "Pages.words" (inClass (top 2) 4) ["self", "memory"] := ⟨_, _, _, mC_Pages, kc_Pages, ⟨a_Pages_words, i_Pages_words, k_Pages_words⟩, F_Pages_words, b_Pages_words⟩
  have F_Pages_word := fun_mk (st := (inClass (top 2) 3)) l_Pages_word c_Pages_word k_Pages_word
  have b_Pages_word := F_Pages_word.binds (ps := ["self", "address", "memory"]) fun _ _ _ _ _ _ us hl => match us, hl with | [_, _, _], _ => rfl
  have D_Pages_word : MethAt K mg "Pages" "word" "Pages.word" (inClass (top 2) 3) ["self", "address", "memory"] := ⟨_, _, _, mC_Pages, kc_Pages, ⟨a_Pages_word, i_Pages_word, k_Pages_word⟩, F_Pages_word, b_Pages_word⟩
  have F_Pages_frame_of := fun_mk (st := (inClass (top 2) 1)) l_Pages_frame_of c_Pages_frame_of k_Pages_frame_of
  have b_Pages_frame_of := F_Pages_frame_of.binds (ps := ["self", "page"]) fun _ _ _ _ _ _ us hl => match us, hl with | [_, _], _ => rfl
  have D_Pages_frame_of : MethAt K mg "Pages" "frame_of" "Pages.frame_of" (inClass (top 2) 1) ["self", "page"] := ⟨_, _, _, mC_Pages, kc_Pages, ⟨a_Pages_frame_of, i_Pages_frame_of, k_Pages_frame_of⟩, F_Pages_frame_of, b_Pages_frame_of⟩
  have F_Pages_bring := fun_mk (st := (inClass (top 2) 2)) l_Pages_bring c_Pages_bring k_Pages_bring
  have b_Pages_bring := F_Pages_bring.binds (ps := ["self", "page", "memory"]) fun _ _ _ _ _ _ us hl => match us, hl with | [_, _, _], _ => rfl
  have D_Pages_bring : MethAt K mg "Pages" "bring" "Pages.bring" (inClass (top 2) 2) ["self", "page", "memory"] := ⟨_, _, _, mC_Pages, kc_Pages, ⟨a_Pages_bring, i_Pages_bring, k_Pages_bring⟩, F_Pages_bring, b_Pages_bring⟩
  have F__law_bring := fun_mk (st := (top 9)) l__law_bring c__law_bring k__law_bring
  have b__law_bring := F__law_bring.binds (ps := ["model", "page", "memory"]) fun _ _ _ _ _ _ us hl => match us, hl with | [_, _, _], _ => rfl
  have D__law_bring : DefAt K mg "_law_bring" "_law_bring" (top 9) ["model", "page", "memory"] := ⟨_, _, F__law_bring, b__law_bring, PySem.W.mg_of X G a__law_bring⟩
  have Z : Zs K mg := ⟨PySem.W.mg_none_of X G z_int, PySem.W.mg_none_of X G z_abs, PySem.W.mg_none_of X G z_range, PySem.W.mg_none_of X G z_len, PySem.W.mg_none_of X G z_list, (bears_one ca_Pages (by simp)), PySem.W.mg_none_of X G z_tuple, (bears_one ca_Pages (by simp)), (bears_one ca_Pages (by simp)), PySem.W.mg_none_of X G z_isinstance, PySem.W.mg_none_of X G z_bool, PySem.W.mg_none_of X G z_str, ⟨.int 16, _, PySem.W.mg_of X G v_PAGE, ⟨_, rfl⟩, fun _ _ => VR_int.mpr rfl⟩, PySem.W.mg_none_of X G z_sorted⟩
  refine ⟨PySem.W.fnOf "law" "law" (defArgs (top 13)) (defBody (top 13)) (defScope (top 13)) .none kV_law dc_law pm_law an_law cd_law ct_law, fun s v => .of_eq rfl, fun base _ _ => ?_⟩
  have h__law_draws := ok__law_draws (P := l.prog) (w := w) (base := base) Z D__law_draws
  have h__law_next := ok__law_next (P := l.prog) (w := w) (base := base) Z D__law_next
  have h__law_word := ok__law_word (P := l.prog) (w := w) (base := base) Z D__law_word h__law_next
  have h__law_frame := ok__law_frame (P := l.prog) (w := w) (base := base) Z D__law_frame
  have h_Pages___init__ := ok_Pages___init__ (P := l.prog) (w := w) (base := base) Z D_Pages___init__
  have h__law_same := ok__law_same (P := l.prog) (w := w) (base := base) Z D__law_same
  have h__law_words := ok__law_words (P := l.prog) (w := w) (base := base) Z D__law_words h__law_frame
  have h_Pages_frame_of := ok_Pages_frame_of (P := l.prog) (w := w) (base := base) Z D_Pages_frame_of
  have h_Pages_word := ok_Pages_word (P := l.prog) (w := w) (base := base) Z D_Pages_word h_Pages_frame_of
  have h_Pages_words := ok_Pages_words (P := l.prog) (w := w) (base := base) Z D_Pages_words h_Pages_word
  have h__law_is_kept := ok__law_is_kept (P := l.prog) (w := w) (base := base) Z D__law_is_kept h__law_words h__law_next h__law_same h_Pages_words h_Pages_frame_of h__law_frame h_Pages_word
  have h_Pages_bring := ok_Pages_bring (P := l.prog) (w := w) (base := base) Z D_Pages_bring
  have h__law_bring := ok__law_bring (P := l.prog) (w := w) (base := base) Z D__law_bring
  exact law_fn (law_ok (P := l.prog) (w := w) (base := base) Z F_law h__law_draws h__law_next h__law_word h__law_frame h_Pages___init__ h__law_same h__law_is_kept h_Pages_bring h__law_bring) law_true
theorem walk {l : PySem.W.OpenLaw} {q : Program} {loose : List Str} {XP : (Str → Option Value) → Heap → Prop} {YP : World → Heap → Prop} {d : DefRec} {K : Params → PySem.W.Frag} (hn : l.most = some 63) (hdf : d.params.defaults = [])
    (hY : ∀ (w : World) (h : Heap), YP w h → (K w.params).In h)
    (F : ∀ (w : World) (mg : Str → Option Value) (fa : Addr) (h : Heap), (K w.params).In h → h.Ns mainGlobals mg → mg d.name = some (.ref fa) →
      ∃ fd : FuncData, (∀ (s : Shared) (u : Value), BindsTo s fd ⟨[u], []⟩ [("script", u)]) ∧ ∀ base : Heap, (K w.params).In base → base.Ns mainGlobals mg → FnOk l.prog w (K w.params) mg base CX0 42 fa fd ["script"] (spLaw (K w.params))) :
    PySem.W.WalkO q loose XP YP l.row.toRowW d [] (fun f vs => PySem.call f vs) :=
  L2.walk_of (n := 63) (k := 42) (x := "script") (CX := fun _ => CX0) (sp := fun w => spLaw (K w.params)) hn (by decide) hdf ⟨rfl, by decide, by decide⟩ hY F (fun _ H a ns hl ho hS => ⟨a, ns, rfl, ho, hS, hl, fun _ => rfl⟩) fun _ _ _ _ _ z => z
end Pf
open PySem PySem.W PyProof.Rows
theorem PySem.Challenge.cw_nowhisper_k42_pages_in_frames_and_at_hom_holds : PySem.Challenge.rw_nowhisper_k42_pages_in_frames_and_at_hom.Holds := by
  w_on; o_law; k_head; (case hw => w_witness2)
  k_fill
  refine Pf.walk (l := PySem.Challenge.rw_nowhisper_k42_pages_in_frames_and_at_hom) rfl rfl (fun w h Y => PySem.W.kIn_of Y) ?F
  case F =>
    intro w mg fa h KX G hmg
    refine' Pf.all_mk KX G hmg ?aC_Pages ?pg_Pages ?hd_Pages ?po_Pages ?sa_Pages ?mk_Pages ?kC_Pages ?na_Pages_home ?na_Pages_frames ?na_Pages_came ?z_int ?z_abs ?z_range ?z_len ?z_list ?z_tuple ?z_isinstance ?z_bool ?z_str ?v_PAGE ?z_sorted ?a_law ?l_law ?c_law ?k_law ?a__law_draws ?l__law_draws ?c__law_draws ?k__law_draws ?a__law_next ?l__law_next ?c__law_next ?k__law_next ?a__law_word ?l__law_word ?c__law_word ?k__law_word ?a__law_frame ?l__law_frame ?c__law_frame ?k__law_frame ?a_Pages___init__ ?i_Pages___init__ ?l_Pages___init__ ?c_Pages___init__ ?k_Pages___init__ ?a__law_same ?l__law_same ?c__law_same ?k__law_same ?a__law_is_kept ?l__law_is_kept ?c__law_is_kept ?k__law_is_kept ?a__law_words ?l__law_words ?c__law_words ?k__law_words ?a_Pages_words ?i_Pages_words ?l_Pages_words ?c_Pages_words ?k_Pages_words ?a_Pages_word ?i_Pages_word ?l_Pages_word ?c_Pages_word ?k_Pages_word ?a_Pages_frame_of ?i_Pages_frame_of ?l_Pages_frame_of ?c_Pages_frame_of ?k_Pages_frame_of ?a_Pages_bring ?i_Pages_bring ?l_Pages_bring ?c_Pages_bring ?k_Pages_bring ?a__law_bring ?l__law_bring ?c__law_bring ?k__law_bring
    (case aC_Pages => k_is)
    (case pg_Pages => k_is)
    (case hd_Pages => k_is)
    (case po_Pages => k_is)
    (case sa_Pages => k_is)
    (case mk_Pages => k_is)
    (case kC_Pages => k_is)
    (case na_Pages_home => k_is)
    (case na_Pages_frames => k_is)
    (case na_Pages_came => k_is)
    (case z_int => k_is)
    (case z_abs => k_is)
    (case z_range => k_is)
    (case z_len => k_is)
    (case z_list => k_is)
    (case z_tuple => k_is)
    (case z_isinstance => k_is)
    (case z_bool => k_is)
    (case z_str => k_is)
    (case v_PAGE => k_is)
    (case z_sorted => k_is)
    (case a_law => k_is)
    (case l_law => k_is)
    (case c_law => k_is)
    (case k_law => k_is)
    (case a__law_draws => k_is)
    (case l__law_draws => k_is)
    (case c__law_draws => k_is)
    (case k__law_draws => k_is)
    (case a__law_next => k_is)
    (case l__law_next => k_is)
    (case c__law_next => k_is)
    (case k__law_next => k_is)
    (case a__law_word => k_is)
    (case l__law_word => k_is)
    (case c__law_word => k_is)
    (case k__law_word => k_is)
    (case a__law_frame => k_is)
    (case l__law_frame => k_is)
    (case c__law_frame => k_is)
    (case k__law_frame => k_is)
    (case a_Pages___init__ => k_is)
    (case i_Pages___init__ => k_is)
    (case l_Pages___init__ => k_is)
    (case c_Pages___init__ => k_is)
    (case k_Pages___init__ => k_is)
    (case a__law_same => k_is)
    (case l__law_same => k_is)
    (case c__law_same => k_is)
    (case k__law_same => k_is)
    (case a__law_is_kept => k_is)
    (case l__law_is_kept => k_is)
    (case c__law_is_kept => k_is)
    (case k__law_is_kept => k_is)
    (case a__law_words => k_is)
    (case l__law_words => k_is)
    (case c__law_words => k_is)
    (case k__law_words => k_is)
    (case a_Pages_words => k_is)
    (case i_Pages_words => k_is)
    (case l_Pages_words => k_is)
    (case c_Pages_words => k_is)
    (case k_Pages_words => k_is)
    (case a_Pages_word => k_is)
    (case i_Pages_word => k_is)
    (case l_Pages_word => k_is)
    (case c_Pages_word => k_is)
    (case k_Pages_word => k_is)
    (case a_Pages_frame_of => k_is)
    (case i_Pages_frame_of => k_is)
    (case l_Pages_frame_of => k_is)
    (case c_Pages_frame_of => k_is)
    (case k_Pages_frame_of => k_is)
    (case a_Pages_bring => k_is)
    (case i_Pages_bring => k_is)
    (case l_Pages_bring => k_is)
    (case c_Pages_bring => k_is)
    (case k_Pages_bring => k_is)
    (case a__law_bring => k_is)
    (case l__law_bring => k_is)
    (case c__law_bring => k_is)
    (case k__law_bring => k_is)

